-- written by xprint.py, a program of this session over the kit's print
import Derived.Test.YtcdmjdghmbdikaaX0
import Derived.Test.YtcdmjdghmbdikaaX2
import Derived.Test.YtcdmjdghmbdikaaX16
import Derived.Test.YtcdmjdghmbdikaaX17
import Derived.Test.YtcdmjdghmbdikaaX18
import Derived.Test.YtcdmjdghmbdikaaX20
import Derived.Test.YtcdmjdghmbdikaaX22
import Derived.Test.YtcdmjdghmbdikaaX23
namespace Go.Proofs.Ytcdmjdghmbdikaa.X
open Go.RowKit Go.Proofs.YtcdmjdghmbdikaaW.PrintWords Go.Proofs.YtcdmjdghmbdikaaW.PrintLast Go.Proofs.YtcdmjdghmbdikaaW.PrintMore
attribute [local go_sem] max2_int min2_int max_two min_two max_three min_three max_four min_four   -- for this text's walks alone
set_option linter.unusedVariables false
set_option linter.unusedSimpArgs false

attribute [local go_sem high] eqA46
/-! ### spigotlaw01_WideNames: function 14 -/
def spigotlaw01_WideNames.f (k : Nat)  : Option (Bool) := (wide_Of.f 1).bind fun bt564 => ((wide_Add.f 18446744073709551615 18446744073709551615 bt564.1 bt564.2).bind fun bt566 => ((wide_Add.f 18446744073709551615 0 1 0).bind fun bt570 => ((wide_Of.f 0).bind fun bt574 => ((wide_Add.f 18446744073709551615 18446744073709551615 bt574.1 bt574.2).bind fun bt576 => ((wide_Sub.f 18446744073709551615 18446744073709551615 18446744073709551615 18446744073709551615).bind fun bt580 => ((wide_Sub.f 1 0 1 1).bind fun bt584 => ((wide_Of.f 1).bind fun bt588 => ((wide_Sub.f 1 0 bt588.1 bt588.2).bind fun bt590 => ((wide_Small.f 1 0).bind fun bt594 => ((wide_Of.f 18446744073709551615).bind fun bt596 => ((wide_Small.f bt596.1 bt596.2).bind fun bt598 => ((wide_Div.f k 18446744073709551615 18446744073709551615 0).bind fun bt600 => ((wide_Of.f 0).bind fun bt605 => ((wide_Up.f k bt605.1 bt605.2 0).bind fun bt607 => ((wide_Div.f k 18446744073709551615 18446744073709551615 1).bind fun bt611 => ((wide_Div.f k 18446744073709551615 18446744073709551615 18446744073709551615).bind fun bt616 => ((wide_Up.f k 18446744073709551615 18446744073709551615 18446744073709551615).bind fun bt621 => ((wide_Up.f k 18446744073709551615 18446744073709551615 2).bind fun bt625 => ((wide_Of.f 0).bind fun bt629 => ((wide_Up.f k bt629.1 bt629.2 7).bind fun bt631 => (if bt566.2.2 = 16 then (if bt570.2.2 = 16 then (if bt576.2.2 = 0 then (if (bt576.1 == 18446744073709551615 && (bt576.2.1 == 18446744073709551615)) = true then (if bt580.2.2 = 0 then (if (bt580.1 == 0 && (bt580.2.1 == 0)) = true then (if bt584.2.2 = 16 then (if bt590.2.2 = 0 then ((wide_Of.f 18446744073709551615).bind fun bt635 => (if (bt590.1 == bt635.1 && (bt590.2.1 == bt635.2)) = true then (if bt594.2 = 16 then (if bt598.2 = 0 then (if bt600.2.2.2 = 26 then (if bt607.2.2 = 26 then (if bt611.2.2.2 = 0 then (if (bt611.1 == 18446744073709551615 && (bt611.2.1 == 18446744073709551615)) = true then (if bt611.2.2.1 = 0 then (if bt616.2.2.2 = 0 then (if (bt616.1 == 1 && (bt616.2.1 == 1)) = true then (if bt616.2.2.1 = 0 then (if bt621.2.2 = 0 then (if (bt621.1 == bt616.1 && (bt621.2.1 == bt616.2.1)) = true then (if bt625.2.2 = 0 then (if (bt625.1 == 9223372036854775808 && (bt625.2.1 == 0)) = true then (if bt631.2.2 = 0 then (if bt598.1 = 18446744073709551615 then (if (bt631.1 == 0 && (bt631.2.1 == 0)) = true then ((wide_Cmp.f k 18446744073709551615 18446744073709551615 18446744073709551615 18446744073709551615).bind fun t637 => (if t637 = 0 then ((wide_Of.f 18446744073709551615).bind fun bt638 => ((wide_Cmp.f k 1 0 bt638.1 bt638.2).bind fun t640 => (if t640 = 1 then ((wide_Of.f 1).bind fun bt641 => ((wide_Of.f 2).bind fun bt643 => ((wide_Cmp.f k bt641.1 bt641.2 bt643.1 bt643.2).bind fun t645 => (if t645 = (-1) then ((wide_Mul.f 0 18446744073709551615).bind fun bt646 => (if (bt646.1 == 0 && (bt646.2 == 0)) = true then ((spigotlaw01_alive.f k).bind fun t648 => (some t648)) else (none))) else (none))))) else (none)))) else (none))) else (none)) else (none)) else (none)) else (none)) else (none)) else (none)) else (none)) else (none)) else (none)) else (none)) else (none)) else (none)) else (none)) else (none)) else (none)) else (none)) else (none)) else (none))) else (none)) else (none)) else (none)) else (none)) else (none)) else (none)) else (none)) else (none))))))))))))))))))))))
theorem spigotlaw01_WideNames.mono : ∀ k, LeO (spigotlaw01_WideNames.f k ) (spigotlaw01_WideNames.f (k + 1) ) := by
  intro  k
  unfold spigotlaw01_WideNames.f
  repeat' first
      | (with_reducible exact spigotlaw01_alive.mono _)
      | (with_reducible exact wide_Cmp.mono _ _ _ _ _)
      | (with_reducible exact wide_Div.mono _ _ _ _)
      | (with_reducible exact wide_Up.mono _ _ _ _)
      | (with_reducible exact LeO.refl _)
      | (with_reducible exact LeO.none _)
      | (with_reducible refine LeO.ite ?_ ?_)
      | (with_reducible refine LeO.bind ?_ (fun _ => ?_))
      | exact spigotlaw01_alive.mono _
      | exact wide_Cmp.mono _ _ _ _ _
      | exact wide_Div.mono _ _ _ _
      | exact wide_Up.mono _ _ _ _
      | exact LeO.none _
      | refine LeO.ite ?_ ?_
      | refine LeO.bind ?_ (fun _ => ?_)
def spigotlaw01_WideNames.T2 : Bool × List (List Nat × List Nat) := (true, [([], []), ([], []), ([0, 1, 1], [0, 1]), ([2], [2]), ([3], [3]), ([3], [3]), ([], []), ([6, 4, 2, 0, 1, 2, 3, 4, 6], [4, 6]), ([5, 7, 0, 1, 2, 3, 4, 5, 6, 7], [5])])
def spigotlaw01_WideNames.B2 : List Nat := [0, 0, 3, 7, 15, 15, 0, 95, 255]
theorem spigotlaw01_WideNames.tab2 : rtab .any (opsOf Try.f14 2) = spigotlaw01_WideNames.T2 := by kernel_rfl
theorem spigotlaw01_WideNames.bits2 : waitsOk spigotlaw01_WideNames.T2.2 spigotlaw01_WideNames.B2 = true := by kernel_rfl
def spigotlaw01_WideNames.T4 : Bool × List (List Nat × List Nat) := (true, [([], []), ([], []), ([0, 1, 1], [0, 1]), ([2], [2]), ([3], [3]), ([3], [3]), ([], []), ([6, 4, 2, 0, 1, 2, 3, 4, 6], [4, 6]), ([5, 7, 0, 1, 2, 3, 4, 5, 6, 7], [5])])
def spigotlaw01_WideNames.B4 : List Nat := [0, 0, 3, 7, 15, 15, 0, 95, 255]
theorem spigotlaw01_WideNames.tab4 : rtab .any (opsOf Try.f14 4) = spigotlaw01_WideNames.T4 := by kernel_rfl
theorem spigotlaw01_WideNames.bits4 : waitsOk spigotlaw01_WideNames.T4.2 spigotlaw01_WideNames.B4 = true := by kernel_rfl
def spigotlaw01_WideNames.T17 : Bool × List (List Nat × List Nat) := (true, [([], []), ([0], [0]), ([1], [1]), ([2], [2]), ([3, 2], [2, 3]), ([2, 4], [2, 4]), ([5, 2], [5]), ([6], [6]), ([7, 6], [6, 7]), ([6, 8], [6, 8]), ([9, 6], [9]), ([10], [10]), ([10], [10]), ([11, 12, 10], [10, 11, 12]), ([10, 13], [10, 13]), ([14, 10], [14]), ([15], [15]), ([16, 15], [15, 16]), ([15, 17], [15, 17]), ([18, 15], [18]), ([19], [19]), ([19], [19]), ([20, 21, 19], [19, 20, 21]), ([19, 22], [19, 22]), ([23, 19], [23]), ([24], [24]), ([25, 24], [24, 25]), ([24, 26], [24, 26]), ([27, 24], [27]), ([28], [28]), ([29, 28], [28, 29]), ([28, 30], [28, 30]), ([31, 28], [31]), ([32], [32]), ([32, 32], [32]), ([33, 34, 32], [32, 33, 34]), ([32, 35], [32, 35]), ([36, 34], [36]), ([37], [37]), ([38, 37], [37, 38]), ([37, 39], [37, 39]), ([40, 37], [40]), ([41], [41]), ([42, 41], [41, 42]), ([41, 43], [41, 43]), ([44, 41], [44]), ([45], [45]), ([46, 45], [45, 46]), ([45, 47], [45, 47]), ([48, 45, 0, 1, 2, 3, 4, 5, 6, 7, 8, 9, 10, 11, 12, 13, 14, 15, 16, 17, 18, 19, 20, 21, 22, 23, 24, 25, 26, 27, 28, 29, 30, 31, 32, 33, 34, 35, 36, 37, 38, 39, 40, 41, 42, 43, 44, 45, 46, 47, 48], [48])])
def spigotlaw01_WideNames.B17 : List Nat := [0, 1, 3, 7, 15, 31, 63, 127, 255, 511, 1023, 2047, 2047, 8191, 16383, 32767, 65535, 131071, 262143, 524287, 1048575, 1048575, 4194303, 8388607, 16777215, 33554431, 67108863, 134217727, 268435455, 536870911, 1073741823, 2147483647, 4294967295, 8589934591, 8589934591, 34359738367, 68719476735, 137438953471, 274877906943, 549755813887, 1099511627775, 2199023255551, 4398046511103, 8796093022207, 17592186044415, 35184372088831, 70368744177663, 140737488355327, 281474976710655, 562949953421311]
theorem spigotlaw01_WideNames.tab17 : rtab .any (opsOf Try.f14 17) = spigotlaw01_WideNames.T17 := by kernel_rfl
theorem spigotlaw01_WideNames.bits17 : waitsOk spigotlaw01_WideNames.T17.2 spigotlaw01_WideNames.B17 = true := by kernel_rfl
set_option maxHeartbeats 8000000 in
set_option maxRecDepth 100000 in
theorem spigotlaw01_WideNames.calls (k : Nat)  (r : Bool) (w : World) (h : spigotlaw01_WideNames.f k  = some r) :
  Calls Try.prog 14 #[] w fun e w' => e = .returned (.bool r) ∧ Below w.heap.size w w' := by
 have hu46 := Try.underlying46
 have HB := Aside0.mk (Below.refl w.heap.size w)
 have H : ((wide_Of.f 1).bind fun bt564 => ((wide_Add.f 18446744073709551615 18446744073709551615 bt564.1 bt564.2).bind fun bt566 => ((wide_Add.f 18446744073709551615 0 1 0).bind fun bt570 => ((wide_Of.f 0).bind fun bt574 => ((wide_Add.f 18446744073709551615 18446744073709551615 bt574.1 bt574.2).bind fun bt576 => ((wide_Sub.f 18446744073709551615 18446744073709551615 18446744073709551615 18446744073709551615).bind fun bt580 => ((wide_Sub.f 1 0 1 1).bind fun bt584 => ((wide_Of.f 1).bind fun bt588 => ((wide_Sub.f 1 0 bt588.1 bt588.2).bind fun bt590 => ((wide_Small.f 1 0).bind fun bt594 => ((wide_Of.f 18446744073709551615).bind fun bt596 => ((wide_Small.f bt596.1 bt596.2).bind fun bt598 => ((wide_Div.f k 18446744073709551615 18446744073709551615 0).bind fun bt600 => ((wide_Of.f 0).bind fun bt605 => ((wide_Up.f k bt605.1 bt605.2 0).bind fun bt607 => ((wide_Div.f k 18446744073709551615 18446744073709551615 1).bind fun bt611 => ((wide_Div.f k 18446744073709551615 18446744073709551615 18446744073709551615).bind fun bt616 => ((wide_Up.f k 18446744073709551615 18446744073709551615 18446744073709551615).bind fun bt621 => ((wide_Up.f k 18446744073709551615 18446744073709551615 2).bind fun bt625 => ((wide_Of.f 0).bind fun bt629 => ((wide_Up.f k bt629.1 bt629.2 7).bind fun bt631 => (if bt566.2.2 = 16 then (if bt570.2.2 = 16 then (if bt576.2.2 = 0 then (if (bt576.1 == 18446744073709551615 && (bt576.2.1 == 18446744073709551615)) = true then (if bt580.2.2 = 0 then (if (bt580.1 == 0 && (bt580.2.1 == 0)) = true then (if bt584.2.2 = 16 then (if bt590.2.2 = 0 then ((wide_Of.f 18446744073709551615).bind fun bt635 => (if (bt590.1 == bt635.1 && (bt590.2.1 == bt635.2)) = true then (if bt594.2 = 16 then (if bt598.2 = 0 then (if bt600.2.2.2 = 26 then (if bt607.2.2 = 26 then (if bt611.2.2.2 = 0 then (if (bt611.1 == 18446744073709551615 && (bt611.2.1 == 18446744073709551615)) = true then (if bt611.2.2.1 = 0 then (if bt616.2.2.2 = 0 then (if (bt616.1 == 1 && (bt616.2.1 == 1)) = true then (if bt616.2.2.1 = 0 then (if bt621.2.2 = 0 then (if (bt621.1 == bt616.1 && (bt621.2.1 == bt616.2.1)) = true then (if bt625.2.2 = 0 then (if (bt625.1 == 9223372036854775808 && (bt625.2.1 == 0)) = true then (if bt631.2.2 = 0 then (if bt598.1 = 18446744073709551615 then (if (bt631.1 == 0 && (bt631.2.1 == 0)) = true then ((wide_Cmp.f k 18446744073709551615 18446744073709551615 18446744073709551615 18446744073709551615).bind fun t637 => (if t637 = 0 then ((wide_Of.f 18446744073709551615).bind fun bt638 => ((wide_Cmp.f k 1 0 bt638.1 bt638.2).bind fun t640 => (if t640 = 1 then ((wide_Of.f 1).bind fun bt641 => ((wide_Of.f 2).bind fun bt643 => ((wide_Cmp.f k bt641.1 bt641.2 bt643.1 bt643.2).bind fun t645 => (if t645 = (-1) then ((wide_Mul.f 0 18446744073709551615).bind fun bt646 => (if (bt646.1 == 0 && (bt646.2 == 0)) = true then ((spigotlaw01_alive.f k).bind fun t648 => (some t648)) else (none))) else (none))))) else (none)))) else (none))) else (none)) else (none)) else (none)) else (none)) else (none)) else (none)) else (none)) else (none)) else (none)) else (none)) else (none)) else (none)) else (none)) else (none)) else (none)) else (none)) else (none)) else (none))) else (none)) else (none)) else (none)) else (none)) else (none)) else (none)) else (none)) else (none))))))))))))))))))))))) = some r := h
 clear h
 replace H := Option.bind_eq_some_iff.mp H
 obtain ⟨⟨t564, t565⟩, A10, H⟩ := H
 try dsimp only at H
 have A1 := Aside0.mk A10
 clear A10
 replace H := Option.bind_eq_some_iff.mp H
 obtain ⟨⟨t566, t567, t568⟩, A20, H⟩ := H
 try dsimp only at H
 have A2 := Aside0.mk A20
 clear A20
 replace H := Option.bind_eq_some_iff.mp H
 obtain ⟨⟨t570, t571, t572⟩, A30, H⟩ := H
 try dsimp only at H
 have A3 := Aside0.mk A30
 clear A30
 replace H := Option.bind_eq_some_iff.mp H
 obtain ⟨⟨t574, t575⟩, A40, H⟩ := H
 try dsimp only at H
 have A4 := Aside0.mk A40
 clear A40
 replace H := Option.bind_eq_some_iff.mp H
 obtain ⟨⟨t576, t577, t578⟩, A50, H⟩ := H
 try dsimp only at H
 have A5 := Aside0.mk A50
 clear A50
 replace H := Option.bind_eq_some_iff.mp H
 obtain ⟨⟨t580, t581, t582⟩, A60, H⟩ := H
 try dsimp only at H
 have A6 := Aside0.mk A60
 clear A60
 replace H := Option.bind_eq_some_iff.mp H
 obtain ⟨⟨t584, t585, t586⟩, A70, H⟩ := H
 try dsimp only at H
 have A7 := Aside0.mk A70
 clear A70
 replace H := Option.bind_eq_some_iff.mp H
 obtain ⟨⟨t588, t589⟩, A80, H⟩ := H
 try dsimp only at H
 have A8 := Aside0.mk A80
 clear A80
 replace H := Option.bind_eq_some_iff.mp H
 obtain ⟨⟨t590, t591, t592⟩, A90, H⟩ := H
 try dsimp only at H
 have A9 := Aside0.mk A90
 clear A90
 replace H := Option.bind_eq_some_iff.mp H
 obtain ⟨⟨t594, t595⟩, A100, H⟩ := H
 try dsimp only at H
 have A10 := Aside0.mk A100
 clear A100
 replace H := Option.bind_eq_some_iff.mp H
 obtain ⟨⟨t596, t597⟩, A110, H⟩ := H
 try dsimp only at H
 have A11 := Aside0.mk A110
 clear A110
 replace H := Option.bind_eq_some_iff.mp H
 obtain ⟨⟨t598, t599⟩, A120, H⟩ := H
 try dsimp only at H
 have A12 := Aside0.mk A120
 clear A120
 replace H := Option.bind_eq_some_iff.mp H
 obtain ⟨⟨t600, t601, t602, t603⟩, A130, H⟩ := H
 try dsimp only at H
 have A13 := Aside0.mk A130
 clear A130
 replace H := Option.bind_eq_some_iff.mp H
 obtain ⟨⟨t605, t606⟩, A140, H⟩ := H
 try dsimp only at H
 have A14 := Aside0.mk A140
 clear A140
 replace H := Option.bind_eq_some_iff.mp H
 obtain ⟨⟨t607, t608, t609⟩, A150, H⟩ := H
 try dsimp only at H
 have A15 := Aside0.mk A150
 clear A150
 replace H := Option.bind_eq_some_iff.mp H
 obtain ⟨⟨t611, t612, t613, t614⟩, A160, H⟩ := H
 try dsimp only at H
 have A16 := Aside0.mk A160
 clear A160
 replace H := Option.bind_eq_some_iff.mp H
 obtain ⟨⟨t616, t617, t618, t619⟩, A170, H⟩ := H
 try dsimp only at H
 have A17 := Aside0.mk A170
 clear A170
 replace H := Option.bind_eq_some_iff.mp H
 obtain ⟨⟨t621, t622, t623⟩, A180, H⟩ := H
 try dsimp only at H
 have A18 := Aside0.mk A180
 clear A180
 replace H := Option.bind_eq_some_iff.mp H
 obtain ⟨⟨t625, t626, t627⟩, A190, H⟩ := H
 try dsimp only at H
 have A19 := Aside0.mk A190
 clear A190
 replace H := Option.bind_eq_some_iff.mp H
 obtain ⟨⟨t629, t630⟩, A200, H⟩ := H
 try dsimp only at H
 have A20 := Aside0.mk A200
 clear A200
 replace H := Option.bind_eq_some_iff.mp H
 obtain ⟨⟨t631, t632, t633⟩, A210, H⟩ := H
 try dsimp only at H
 have A21 := Aside0.mk A210
 clear A210
 by_cases c22 : t568 = 16
 rotate_left
 ·rw [if_neg c22] at H; exact absurd H (by simp)
 rw [if_pos c22] at H
 have c22b0 : (t568 == 16) = true := beq_iff_eq.mpr c22
 have c22b1 : (t568 != 16) = false := bne_eq_false_iff_eq.mpr c22
 clear c22
 by_cases c23 : t572 = 16
 rotate_left
 ·rw [if_neg c23] at H; exact absurd H (by simp)
 rw [if_pos c23] at H
 have c23b0 : (t572 == 16) = true := beq_iff_eq.mpr c23
 have c23b1 : (t572 != 16) = false := bne_eq_false_iff_eq.mpr c23
 clear c23
 by_cases c24 : t578 = 0
 rotate_left
 ·rw [if_neg c24] at H; exact absurd H (by simp)
 rw [if_pos c24] at H
 have c24b0 : (t578 == 0) = true := beq_iff_eq.mpr c24
 have c24b1 : (t578 != 0) = false := bne_eq_false_iff_eq.mpr c24
 clear c24
 by_cases c25 : (t576 == 18446744073709551615 && (t577 == 18446744073709551615)) = true
 rotate_left
 ·rw [if_neg c25] at H; exact absurd H (by simp)
 rw [if_pos c25] at H
 have c25b0 : (t576 == 18446744073709551615 && (t577 == 18446744073709551615)) = true := c25
 (try (have c25b1 : decide (t576 = 18446744073709551615 && (t577 == 18446744073709551615)) = true := by simpa using c25))
 (try (have c25b2 : (t576 == 18446744073709551615 && (t577 == 18446744073709551615)) = true := by simpa using c25))
 clear c25
 by_cases c26 : t582 = 0
 rotate_left
 ·rw [if_neg c26] at H; exact absurd H (by simp)
 rw [if_pos c26] at H
 have c26b0 : (t582 == 0) = true := beq_iff_eq.mpr c26
 have c26b1 : (t582 != 0) = false := bne_eq_false_iff_eq.mpr c26
 clear c26
 by_cases c27 : (t580 == 0 && (t581 == 0)) = true
 rotate_left
 ·rw [if_neg c27] at H; exact absurd H (by simp)
 rw [if_pos c27] at H
 have c27b0 : (t580 == 0 && (t581 == 0)) = true := c27
 (try (have c27b1 : decide (t580 = 0 && (t581 == 0)) = true := by simpa using c27))
 (try (have c27b2 : (t580 == 0 && (t581 == 0)) = true := by simpa using c27))
 clear c27
 by_cases c28 : t586 = 16
 rotate_left
 ·rw [if_neg c28] at H; exact absurd H (by simp)
 rw [if_pos c28] at H
 have c28b0 : (t586 == 16) = true := beq_iff_eq.mpr c28
 have c28b1 : (t586 != 16) = false := bne_eq_false_iff_eq.mpr c28
 clear c28
 by_cases c29 : t592 = 0
 rotate_left
 ·rw [if_neg c29] at H; exact absurd H (by simp)
 rw [if_pos c29] at H
 have c29b0 : (t592 == 0) = true := beq_iff_eq.mpr c29
 have c29b1 : (t592 != 0) = false := bne_eq_false_iff_eq.mpr c29
 clear c29
 replace H := Option.bind_eq_some_iff.mp H
 obtain ⟨⟨t635, t636⟩, A300, H⟩ := H
 try dsimp only at H
 have A30 := Aside0.mk A300
 clear A300
 by_cases c31 : (t590 == t635 && (t591 == t636)) = true
 rotate_left
 ·rw [if_neg c31] at H; exact absurd H (by simp)
 rw [if_pos c31] at H
 have c31b0 : (t590 == t635 && (t591 == t636)) = true := c31
 (try (have c31b1 : decide (t590 = t635 && (t591 == t636)) = true := by simpa using c31))
 (try (have c31b2 : (t590 == t635 && (t591 == t636)) = true := by simpa using c31))
 clear c31
 by_cases c32 : t595 = 16
 rotate_left
 ·rw [if_neg c32] at H; exact absurd H (by simp)
 rw [if_pos c32] at H
 have c32b0 : (t595 == 16) = true := beq_iff_eq.mpr c32
 have c32b1 : (t595 != 16) = false := bne_eq_false_iff_eq.mpr c32
 clear c32
 by_cases c33 : t599 = 0
 rotate_left
 ·rw [if_neg c33] at H; exact absurd H (by simp)
 rw [if_pos c33] at H
 have c33b0 : (t599 == 0) = true := beq_iff_eq.mpr c33
 have c33b1 : (t599 != 0) = false := bne_eq_false_iff_eq.mpr c33
 clear c33
 by_cases c34 : t603 = 26
 rotate_left
 ·rw [if_neg c34] at H; exact absurd H (by simp)
 rw [if_pos c34] at H
 have c34b0 : (t603 == 26) = true := beq_iff_eq.mpr c34
 have c34b1 : (t603 != 26) = false := bne_eq_false_iff_eq.mpr c34
 clear c34
 by_cases c35 : t609 = 26
 rotate_left
 ·rw [if_neg c35] at H; exact absurd H (by simp)
 rw [if_pos c35] at H
 have c35b0 : (t609 == 26) = true := beq_iff_eq.mpr c35
 have c35b1 : (t609 != 26) = false := bne_eq_false_iff_eq.mpr c35
 clear c35
 by_cases c36 : t614 = 0
 rotate_left
 ·rw [if_neg c36] at H; exact absurd H (by simp)
 rw [if_pos c36] at H
 have c36b0 : (t614 == 0) = true := beq_iff_eq.mpr c36
 have c36b1 : (t614 != 0) = false := bne_eq_false_iff_eq.mpr c36
 clear c36
 by_cases c37 : (t611 == 18446744073709551615 && (t612 == 18446744073709551615)) = true
 rotate_left
 ·rw [if_neg c37] at H; exact absurd H (by simp)
 rw [if_pos c37] at H
 have c37b0 : (t611 == 18446744073709551615 && (t612 == 18446744073709551615)) = true := c37
 (try (have c37b1 : decide (t611 = 18446744073709551615 && (t612 == 18446744073709551615)) = true := by simpa using c37))
 (try (have c37b2 : (t611 == 18446744073709551615 && (t612 == 18446744073709551615)) = true := by simpa using c37))
 clear c37
 by_cases c38 : t613 = 0
 rotate_left
 ·rw [if_neg c38] at H; exact absurd H (by simp)
 rw [if_pos c38] at H
 have c38b0 : (t613 == 0) = true := beq_iff_eq.mpr c38
 have c38b1 : (t613 != 0) = false := bne_eq_false_iff_eq.mpr c38
 clear c38
 by_cases c39 : t619 = 0
 rotate_left
 ·rw [if_neg c39] at H; exact absurd H (by simp)
 rw [if_pos c39] at H
 have c39b0 : (t619 == 0) = true := beq_iff_eq.mpr c39
 have c39b1 : (t619 != 0) = false := bne_eq_false_iff_eq.mpr c39
 clear c39
 by_cases c40 : (t616 == 1 && (t617 == 1)) = true
 rotate_left
 ·rw [if_neg c40] at H; exact absurd H (by simp)
 rw [if_pos c40] at H
 have c40b0 : (t616 == 1 && (t617 == 1)) = true := c40
 (try (have c40b1 : decide (t616 = 1 && (t617 == 1)) = true := by simpa using c40))
 (try (have c40b2 : (t616 == 1 && (t617 == 1)) = true := by simpa using c40))
 clear c40
 by_cases c41 : t618 = 0
 rotate_left
 ·rw [if_neg c41] at H; exact absurd H (by simp)
 rw [if_pos c41] at H
 have c41b0 : (t618 == 0) = true := beq_iff_eq.mpr c41
 have c41b1 : (t618 != 0) = false := bne_eq_false_iff_eq.mpr c41
 clear c41
 by_cases c42 : t623 = 0
 rotate_left
 ·rw [if_neg c42] at H; exact absurd H (by simp)
 rw [if_pos c42] at H
 have c42b0 : (t623 == 0) = true := beq_iff_eq.mpr c42
 have c42b1 : (t623 != 0) = false := bne_eq_false_iff_eq.mpr c42
 clear c42
 by_cases c43 : (t621 == t616 && (t622 == t617)) = true
 rotate_left
 ·rw [if_neg c43] at H; exact absurd H (by simp)
 rw [if_pos c43] at H
 have c43b0 : (t621 == t616 && (t622 == t617)) = true := c43
 (try (have c43b1 : decide (t621 = t616 && (t622 == t617)) = true := by simpa using c43))
 (try (have c43b2 : (t621 == t616 && (t622 == t617)) = true := by simpa using c43))
 clear c43
 by_cases c44 : t627 = 0
 rotate_left
 ·rw [if_neg c44] at H; exact absurd H (by simp)
 rw [if_pos c44] at H
 have c44b0 : (t627 == 0) = true := beq_iff_eq.mpr c44
 have c44b1 : (t627 != 0) = false := bne_eq_false_iff_eq.mpr c44
 clear c44
 by_cases c45 : (t625 == 9223372036854775808 && (t626 == 0)) = true
 rotate_left
 ·rw [if_neg c45] at H; exact absurd H (by simp)
 rw [if_pos c45] at H
 have c45b0 : (t625 == 9223372036854775808 && (t626 == 0)) = true := c45
 (try (have c45b1 : decide (t625 = 9223372036854775808 && (t626 == 0)) = true := by simpa using c45))
 (try (have c45b2 : (t625 == 9223372036854775808 && (t626 == 0)) = true := by simpa using c45))
 clear c45
 by_cases c46 : t633 = 0
 rotate_left
 ·rw [if_neg c46] at H; exact absurd H (by simp)
 rw [if_pos c46] at H
 have c46b0 : (t633 == 0) = true := beq_iff_eq.mpr c46
 have c46b1 : (t633 != 0) = false := bne_eq_false_iff_eq.mpr c46
 clear c46
 by_cases c47 : t598 = 18446744073709551615
 rotate_left
 ·rw [if_neg c47] at H; exact absurd H (by simp)
 rw [if_pos c47] at H
 have c47b0 : (t598 == 18446744073709551615) = true := beq_iff_eq.mpr c47
 have c47b1 : (t598 != 18446744073709551615) = false := bne_eq_false_iff_eq.mpr c47
 clear c47
 by_cases c48 : (t631 == 0 && (t632 == 0)) = true
 rotate_left
 ·rw [if_neg c48] at H; exact absurd H (by simp)
 rw [if_pos c48] at H
 have c48b0 : (t631 == 0 && (t632 == 0)) = true := c48
 (try (have c48b1 : decide (t631 = 0 && (t632 == 0)) = true := by simpa using c48))
 (try (have c48b2 : (t631 == 0 && (t632 == 0)) = true := by simpa using c48))
 clear c48
 replace H := Option.bind_eq_some_iff.mp H
 obtain ⟨t637, A490, H⟩ := H
 try dsimp only at H
 have A49 := Aside0.mk A490
 clear A490
 by_cases c50 : t637 = 0
 rotate_left
 ·rw [if_neg c50] at H; exact absurd H (by simp)
 rw [if_pos c50] at H
 have c50b0 : (t637 == 0) = true := beq_iff_eq.mpr c50
 have c50b1 : (t637 != 0) = false := bne_eq_false_iff_eq.mpr c50
 clear c50
 replace H := Option.bind_eq_some_iff.mp H
 obtain ⟨⟨t638, t639⟩, A510, H⟩ := H
 try dsimp only at H
 have A51 := Aside0.mk A510
 clear A510
 replace H := Option.bind_eq_some_iff.mp H
 obtain ⟨t640, A520, H⟩ := H
 try dsimp only at H
 have A52 := Aside0.mk A520
 clear A520
 by_cases c53 : t640 = 1
 rotate_left
 ·rw [if_neg c53] at H; exact absurd H (by simp)
 rw [if_pos c53] at H
 have c53b0 : (t640 == 1) = true := beq_iff_eq.mpr c53
 have c53b1 : (t640 != 1) = false := bne_eq_false_iff_eq.mpr c53
 clear c53
 replace H := Option.bind_eq_some_iff.mp H
 obtain ⟨⟨t641, t642⟩, A540, H⟩ := H
 try dsimp only at H
 have A54 := Aside0.mk A540
 clear A540
 replace H := Option.bind_eq_some_iff.mp H
 obtain ⟨⟨t643, t644⟩, A550, H⟩ := H
 try dsimp only at H
 have A55 := Aside0.mk A550
 clear A550
 replace H := Option.bind_eq_some_iff.mp H
 obtain ⟨t645, A560, H⟩ := H
 try dsimp only at H
 have A56 := Aside0.mk A560
 clear A560
 by_cases c57 : t645 = (-1)
 rotate_left
 ·rw [if_neg c57] at H; exact absurd H (by simp)
 rw [if_pos c57] at H
 have c57b0 : (t645 == (-1)) = true := beq_iff_eq.mpr c57
 have c57b1 : (t645 != (-1)) = false := bne_eq_false_iff_eq.mpr c57
 clear c57
 replace H := Option.bind_eq_some_iff.mp H
 obtain ⟨⟨t646, t647⟩, A580, H⟩ := H
 replace H : (if (t646 == 0 && (t647 == 0)) = true then ((spigotlaw01_alive.f k).bind fun t648 => (some t648)) else (none)) = some r := H
 have A58 := Aside0.mk A580
 clear A580
 by_cases c59 : (t646 == 0 && (t647 == 0)) = true
 rotate_left
 ·rw [if_neg c59] at H; exact absurd H (by simp)
 rw [if_pos c59] at H
 have c59b0 : (t646 == 0 && (t647 == 0)) = true := c59
 (try (have c59b1 : decide (t646 = 0 && (t647 == 0)) = true := by simpa using c59))
 (try (have c59b2 : (t646 == 0 && (t647 == 0)) = true := by simpa using c59))
 clear c59
 replace H := Option.bind_eq_some_iff.mp H
 obtain ⟨t648, A600, H⟩ := H
 replace H : (some t648) = some r := H
 have A60 := Aside0.mk A600
 clear A600
 obtain rfl := Option.some.inj H
 go_enter Try.func14, Try.ntmps14
 try go_wp2_with (first | ((with_reducible refine gate_dst (N := 1) rfl ?_); refine box_event ?hg (N := 1) ?hd (cs := #[.int .u64 0, .int .u64 0]) (t := 46) ?hr ?_; (case hd => rfl); (case hg => rfl); (case hr => first | (go_simp; done) | (go_simp; rfl)); intro gb563 hg w61 hbox hb; have BK563 := Aside0.mk (hbox); have GW563 := Aside0.mk ((by rw [hg]; exact (below_size (hq_ HB)) : w.heap.size ≤ gb563)); have GE563 := GW563; replace HB := Aside0.mk (below_step (hq_ HB) hb); clear hb hbox hg; have hcz62_0 : w61.cell? ⟨gb563, 0, none⟩ = some (.int .u64 0) := (blk_cell BK563.out 0).trans rfl; have hcz62_1 : w61.cell? ⟨gb563, 1, none⟩ = some (.int .u64 0) := (blk_cell BK563.out 1).trans rfl; have hfz62_0 := blk_frozen BK563.out 0; have hfz62_1 := blk_frozen BK563.out 1))
 have n0_ : Aside0 (((w61.setCell ⟨gb563, 0, none⟩ (.int .u64 18446744073709551615)).setCell ⟨gb563, 1, none⟩ (.int .u64 18446744073709551615)).heap[gb563]? = some (.cells #[.int .u64 18446744073709551615, .int .u64 18446744073709551615] 46 (0, 0))) := ⟨by (with_reducible repeat (first | refine blk_drewN ?_ _ | refine blk_drew ?_ | refine blk_alloc ?_ _)); refine blk_put (cs := #[.int .u64 18446744073709551615, .int .u64 0]) ?_ 1 _ rfl; (with_reducible repeat (first | refine blk_drewN ?_ _ | refine blk_drew ?_ | refine blk_alloc ?_ _)); refine blk_put (cs := #[.int .u64 0, .int .u64 0]) ?_ 0 _ rfl; (with_reducible repeat (first | refine blk_drewN ?_ _ | refine blk_drew ?_ | refine blk_alloc ?_ _)); exact BK563.out⟩
 have n1_ : Aside0 (Below w.heap.size w ((w61.setCell ⟨gb563, 0, none⟩ (.int .u64 18446744073709551615)).setCell ⟨gb563, 1, none⟩ (.int .u64 18446744073709551615))) := ⟨by repeat (first | (with_reducible first | exact HB.out | apply below_alloc | apply pw_below_drewN | apply below_drew1 | refine below_set ?_ GE563.out) | exact HB.out)⟩
 (try clear BK563)
 (try clear HB)
 generalize ((w61.setCell ⟨gb563, 0, none⟩ (.int .u64 18446744073709551615)).setCell ⟨gb563, 1, none⟩ (.int .u64 18446744073709551615)) = w63 at n0_ n1_ ⊢
 have BK563 := n0_
 have HB := n1_
 clear n0_ n1_
 replace BK563 := Aside0.mk (blk_drew BK563.out)
 replace HB := Aside0.mk (below_drew1 HB.out)
 refine start_ (n := 9) (S := fun w' => w'.cell? ⟨gb563, 0, none⟩ = some (.int .u64 18446744073709551615) ∧ w'.cell? ⟨gb563, 1, none⟩ = some (.int .u64 18446744073709551615)) (ds := []) #[false, false, false, false, false, false, false, false, false] (by kernel_rfl) rfl rfl ⟨(blk_cell BK563.out 0).trans rfl, (blk_cell BK563.out 1).trans rfl⟩ (fun hHeld => ?_); refine with_tabW spigotlaw01_WideNames.tab2 spigotlaw01_WideNames.bits2 (fun HT_ HW_ => ?_)
 generalize w63.drew = w64 at BK563 HB hHeld ⊢
 refine take_ (i := 0) (N := some 39) (v := ?_) (a' := ?_) #[true, false, false, false, false, false, false, false, false] rfl rfl (take_ofW HT_.out HW_.out (by kernel_rfl)) (fun _ _ _ h => h) (Or.inl ⟨by rfl, ?_⟩) hHeld ?_ ?_
 rotate_left
 ·rintro w' ⟨s0, s1⟩
  go_simp
  with_reducible rfl
 rotate_left
 ·simp only [Act.put, List.setIfInBounds_toArray, List.set_cons_zero, List.set_cons_succ, i64_w, i32_w]
  rfl
 refine join_ (σ := Nat) 2 #[true, true, true, true, true, true, true, false, false] (fun s_ => [(40, .agg #[.int .u64 t564, .int .u64 t565]), (41, .tuple #[.agg #[.int .u64 t566, .int .u64 t567], .int .i64 t568]), (2, .pointer (some ⟨s_, 0, none⟩)), (38, .tuple #[.agg #[.int .u64 t566, .int .u64 t567], .int .i64 t568]), (42, .agg #[.int .u64 t566, .int .u64 t567]), (43, .int .i64 t568)]) (fun s_ w' => (w'.cell? ⟨gb563, 0, none⟩ = some (.int .u64 18446744073709551615) ∧ w'.cell? ⟨gb563, 1, none⟩ = some (.int .u64 18446744073709551615)) ∧ (w'.heap[gb563]? = some (.cells #[.int .u64 18446744073709551615, .int .u64 18446744073709551615] 46 (0, 0))) ∧ (w'.heap[s_]? = some (.cells #[.int .u64 0, .int .u64 0] 46 (0, 0))) ∧ (w.heap.size ≤ s_) ∧ (w.heap.size ≤ s_) ∧ (gb563 ≠ s_) ∧ (s_ ≠ gb563) ∧ (Below w.heap.size w w')) ?_ ?_
 rotate_left
 ·intro hCont
  refine two_ (i := 1) (j := 6) (Ni := some 40) (Nj := some 2) #[true, true, false, false, false, false, false, false, false] #[true, false, false, false, false, false, true, false, false] rfl rfl rfl rfl (two_of HT_.out (by kernel_rfl)) (by decide) (by decide) (fun K hK => ?_) (fun K hK => ?_)
  ·skip
   refine goes_ Try.func32 (by kernel_rfl) rfl #[.int .u64 1] (by rfl) rfl rfl (by (try simp only [List.map_toArray, List.map_cons, List.map_nil]); first | done | rfl | (simp only [List.length_drop, List.length_take]; rfl)) ?_
   with_reducible refine (wide_Of.calls 1 t564 t565 _ A1.out).mono ?_
   rintro e w65 ⟨rfl, hb⟩
   refine ⟨_, rfl, ?_⟩
   replace BK563 := bb_ BK563 hb
   replace HB := Aside0.mk (below_step (by repeat (first | (with_reducible first | exact HB.out | apply below_alloc | apply pw_below_drewN | apply below_drew1 | refine below_set ?_ (Aside0.out (by assumption))) | exact HB.out)) hb)
   (try clear hb)
   (try clear hb2)
   (try clear hk)
   (try clear hi)
   refine hK.out _ _ ⟨(blk_cell BK563.out 0).trans rfl, (blk_cell BK563.out 1).trans rfl⟩ (fun hHeld => ?_)
   clear hK K
   refine norm_ (a' := ?_) ?_ ?_
   rotate_left
   ·show Act.put _ (some 40) _ = _
    simp only [Act.put, List.setIfInBounds_toArray, List.set_cons_zero, List.set_cons_succ, i64_w, i32_w]
    rfl
   refine two_ (i := 2) (j := 6) (Ni := some 41) (Nj := some 2) #[true, true, true, false, false, false, false, false, false] #[true, true, false, false, false, false, true, false, false] rfl rfl rfl rfl (two_of HT_.out (by kernel_rfl)) (by decide) (by decide) (fun K hK => ?_) (fun K hK => ?_)
   ·skip
    refine goes_ Try.func24 (by kernel_rfl) rfl #[.agg #[.int .u64 18446744073709551615, .int .u64 18446744073709551615], .agg #[.int .u64 t564, .int .u64 t565]] (by rfl) rfl rfl (by (try simp only [List.map_toArray, List.map_cons, List.map_nil]); first | done | rfl | (simp only [List.length_drop, List.length_take]; rfl)) ?_
    with_reducible refine (wide_Add.calls 18446744073709551615 18446744073709551615 t564 t565 t566 t567 t568 _ A2.out).mono ?_
    rintro e w66 ⟨rfl, hb⟩
    refine ⟨_, rfl, ?_⟩
    replace BK563 := bb_ BK563 hb
    replace HB := Aside0.mk (below_step (by repeat (first | (with_reducible first | exact HB.out | apply below_alloc | apply pw_below_drewN | apply below_drew1 | refine below_set ?_ (Aside0.out (by assumption))) | exact HB.out)) hb)
    (try clear hb)
    (try clear hb2)
    (try clear hk)
    (try clear hi)
    refine hK.out _ _ ⟨(blk_cell BK563.out 0).trans rfl, (blk_cell BK563.out 1).trans rfl⟩ (fun hHeld => ?_)
    clear hK K
    refine norm_ (a' := ?_) ?_ ?_
    rotate_left
    ·show Act.put _ (some 41) _ = _
     simp only [Act.put, List.setIfInBounds_toArray, List.set_cons_zero, List.set_cons_succ, i64_w, i32_w]
     rfl
    refine pure_ (i := 3) (N := some 38) (v := ?_) (a' := ?_) #[true, true, true, true, false, false, false, false, false] rfl rfl (any_of HT_.out (by kernel_rfl)) (fun _ _ _ h => h) (Or.inl ⟨by rfl, ?_⟩) ?_ ?_
    rotate_left
    ·intro w'
     go_simp
     with_reducible rfl
    rotate_left
    ·simp only [Act.put, List.setIfInBounds_toArray, List.set_cons_zero, List.set_cons_succ, i64_w, i32_w]
     rfl
    refine pure_ (i := 4) (N := some 42) (v := ?_) (a' := ?_) #[true, true, true, true, true, false, false, false, false] rfl rfl (any_of HT_.out (by kernel_rfl)) (fun _ _ _ h => h) (Or.inl ⟨by rfl, ?_⟩) ?_ ?_
    rotate_left
    ·intro w'
     go_simp
     with_reducible rfl
    rotate_left
    ·simp only [Act.put, List.setIfInBounds_toArray, List.set_cons_zero, List.set_cons_succ, i64_w, i32_w]
     rfl
    refine pure_ (i := 5) (N := some 43) (v := ?_) (a' := ?_) #[true, true, true, true, true, true, false, false, false] rfl rfl (any_of HT_.out (by kernel_rfl)) (fun _ _ _ h => h) (Or.inl ⟨by rfl, ?_⟩) ?_ ?_
    rotate_left
    ·intro w'
     go_simp
     with_reducible rfl
    rotate_left
    ·simp only [Act.put, List.setIfInBounds_toArray, List.set_cons_zero, List.set_cons_succ, i64_w, i32_w]
     rfl
    refine one_ (i := 6) (N := some 2) #[true, true, true, true, true, true, true, false, false] rfl rfl (one_of HT_.out (by kernel_rfl)) (by decide) (fun K hK => ?_)
    refine box_step ?hg (N := 2) ?hd (cs := #[.int .u64 0, .int .u64 0]) (t := 46) ?hr ?_; (case hd => rfl); (case hg => rfl); (case hr => first | (go_simp; done) | (go_simp; rfl))
    intro gb569 hg w67 hbox hb
    have BK569 := Aside0.mk (hbox)
    have GW569 := Aside0.mk ((by rw [hg]; exact (below_size (by repeat (first | (with_reducible first | exact HB.out | apply below_alloc | apply pw_below_drewN | apply below_drew1 | refine below_set ?_ (Aside0.out (by assumption))) | exact HB.out))) : w.heap.size ≤ gb569))
    have GE569 := GW569
    have NB563_569 := bn_ BK563 hg
    have NB569_563 := bm_ BK563 hg
    replace BK563 := bb_ BK563 hb
    replace HB := Aside0.mk (below_step (by repeat (first | (with_reducible first | exact HB.out | apply below_alloc | apply pw_below_drewN | apply below_drew1 | refine below_set ?_ (Aside0.out (by assumption))) | exact HB.out)) hb)
    clear hb hbox hg
    refine hK.out _ _ ⟨(blk_cell BK563.out 0).trans rfl, (blk_cell BK563.out 1).trans rfl⟩ (fun hHeld => ?_)
    clear hK K
    refine norm_ (a' := ?_) ?_ ?_
    rotate_left
    ·show Act.put _ (some 2) _ = _
     simp only [Act.put, List.setIfInBounds_toArray, List.set_cons_zero, List.set_cons_succ, i64_w, i32_w]
     rfl
    exact norm_ (by simp only [putAll, Act.put, List.setIfInBounds_toArray, List.set_cons_zero, List.set_cons_succ]) (hCont (gb569) _ ⟨hHeld, (bq_ BK563), (bq_ BK569), GW569.out, GE569.out, NB563_569.out, NB569_563.out, (by repeat (first | (with_reducible first | exact HB.out | apply below_alloc | apply pw_below_drewN | apply below_drew1 | refine below_set ?_ (Aside0.out (by assumption))) | exact HB.out))⟩)
   ·skip
    refine box_step ?hg (N := 2) ?hd (cs := #[.int .u64 0, .int .u64 0]) (t := 46) ?hr ?_; (case hd => rfl); (case hg => rfl); (case hr => first | (go_simp; done) | (go_simp; rfl))
    intro gb569 hg w66 hbox hb
    have BK569 := Aside0.mk (hbox)
    have GW569 := Aside0.mk ((by rw [hg]; exact (below_size (by repeat (first | (with_reducible first | exact HB.out | apply below_alloc | apply pw_below_drewN | apply below_drew1 | refine below_set ?_ (Aside0.out (by assumption))) | exact HB.out))) : w.heap.size ≤ gb569))
    have GE569 := GW569
    have NB563_569 := bn_ BK563 hg
    have NB569_563 := bm_ BK563 hg
    replace BK563 := bb_ BK563 hb
    replace HB := Aside0.mk (below_step (by repeat (first | (with_reducible first | exact HB.out | apply below_alloc | apply pw_below_drewN | apply below_drew1 | refine below_set ?_ (Aside0.out (by assumption))) | exact HB.out)) hb)
    clear hb hbox hg
    refine hK.out _ _ ⟨(blk_cell BK563.out 0).trans rfl, (blk_cell BK563.out 1).trans rfl⟩ (fun hHeld => ?_)
    clear hK K
    refine norm_ (a' := ?_) ?_ ?_
    rotate_left
    ·show Act.put _ (some 2) _ = _
     simp only [Act.put, List.setIfInBounds_toArray, List.set_cons_zero, List.set_cons_succ, i64_w, i32_w]
     rfl
    refine one_ (i := 2) (N := some 41) #[true, true, true, false, false, false, true, false, false] rfl rfl (one_of HT_.out (by kernel_rfl)) (by decide) (fun K hK => ?_)
    refine goes_ Try.func24 (by kernel_rfl) rfl #[.agg #[.int .u64 18446744073709551615, .int .u64 18446744073709551615], .agg #[.int .u64 t564, .int .u64 t565]] (by rfl) rfl rfl (by (try simp only [List.map_toArray, List.map_cons, List.map_nil]); first | done | rfl | (simp only [List.length_drop, List.length_take]; rfl)) ?_
    with_reducible refine (wide_Add.calls 18446744073709551615 18446744073709551615 t564 t565 t566 t567 t568 _ A2.out).mono ?_
    rintro e w67 ⟨rfl, hb⟩
    refine ⟨_, rfl, ?_⟩
    replace BK563 := bb_ BK563 hb
    replace BK569 := bb_ BK569 hb
    replace HB := Aside0.mk (below_step (by repeat (first | (with_reducible first | exact HB.out | apply below_alloc | apply pw_below_drewN | apply below_drew1 | refine below_set ?_ (Aside0.out (by assumption))) | exact HB.out)) hb)
    (try clear hb)
    (try clear hb2)
    (try clear hk)
    (try clear hi)
    refine hK.out _ _ ⟨(blk_cell BK563.out 0).trans rfl, (blk_cell BK563.out 1).trans rfl⟩ (fun hHeld => ?_)
    clear hK K
    refine norm_ (a' := ?_) ?_ ?_
    rotate_left
    ·show Act.put _ (some 41) _ = _
     simp only [Act.put, List.setIfInBounds_toArray, List.set_cons_zero, List.set_cons_succ, i64_w, i32_w]
     rfl
    refine pure_ (i := 3) (N := some 38) (v := ?_) (a' := ?_) #[true, true, true, true, false, false, true, false, false] rfl rfl (any_of HT_.out (by kernel_rfl)) (fun _ _ _ h => h) (Or.inl ⟨by rfl, ?_⟩) ?_ ?_
    rotate_left
    ·intro w'
     go_simp
     with_reducible rfl
    rotate_left
    ·simp only [Act.put, List.setIfInBounds_toArray, List.set_cons_zero, List.set_cons_succ, i64_w, i32_w]
     rfl
    refine pure_ (i := 4) (N := some 42) (v := ?_) (a' := ?_) #[true, true, true, true, true, false, true, false, false] rfl rfl (any_of HT_.out (by kernel_rfl)) (fun _ _ _ h => h) (Or.inl ⟨by rfl, ?_⟩) ?_ ?_
    rotate_left
    ·intro w'
     go_simp
     with_reducible rfl
    rotate_left
    ·simp only [Act.put, List.setIfInBounds_toArray, List.set_cons_zero, List.set_cons_succ, i64_w, i32_w]
     rfl
    refine pure_ (i := 5) (N := some 43) (v := ?_) (a' := ?_) #[true, true, true, true, true, true, true, false, false] rfl rfl (any_of HT_.out (by kernel_rfl)) (fun _ _ _ h => h) (Or.inl ⟨by rfl, ?_⟩) ?_ ?_
    rotate_left
    ·intro w'
     go_simp
     with_reducible rfl
    rotate_left
    ·simp only [Act.put, List.setIfInBounds_toArray, List.set_cons_zero, List.set_cons_succ, i64_w, i32_w]
     rfl
    exact norm_ (by simp only [putAll, Act.put, List.setIfInBounds_toArray, List.set_cons_zero, List.set_cons_succ]) (hCont (gb569) _ ⟨hHeld, (bq_ BK563), (bq_ BK569), GW569.out, GE569.out, NB563_569.out, NB569_563.out, (by repeat (first | (with_reducible first | exact HB.out | apply below_alloc | apply pw_below_drewN | apply below_drew1 | refine below_set ?_ (Aside0.out (by assumption))) | exact HB.out))⟩)
  ·skip
   refine box_step ?hg (N := 2) ?hd (cs := #[.int .u64 0, .int .u64 0]) (t := 46) ?hr ?_; (case hd => rfl); (case hg => rfl); (case hr => first | (go_simp; done) | (go_simp; rfl))
   intro gb569 hg w65 hbox hb
   have BK569 := Aside0.mk (hbox)
   have GW569 := Aside0.mk ((by rw [hg]; exact (below_size (by repeat (first | (with_reducible first | exact HB.out | apply below_alloc | apply pw_below_drewN | apply below_drew1 | refine below_set ?_ (Aside0.out (by assumption))) | exact HB.out))) : w.heap.size ≤ gb569))
   have GE569 := GW569
   have NB563_569 := bn_ BK563 hg
   have NB569_563 := bm_ BK563 hg
   replace BK563 := bb_ BK563 hb
   replace HB := Aside0.mk (below_step (by repeat (first | (with_reducible first | exact HB.out | apply below_alloc | apply pw_below_drewN | apply below_drew1 | refine below_set ?_ (Aside0.out (by assumption))) | exact HB.out)) hb)
   clear hb hbox hg
   refine hK.out _ _ ⟨(blk_cell BK563.out 0).trans rfl, (blk_cell BK563.out 1).trans rfl⟩ (fun hHeld => ?_)
   clear hK K
   refine norm_ (a' := ?_) ?_ ?_
   rotate_left
   ·show Act.put _ (some 2) _ = _
    simp only [Act.put, List.setIfInBounds_toArray, List.set_cons_zero, List.set_cons_succ, i64_w, i32_w]
    rfl
   refine one_ (i := 1) (N := some 40) #[true, true, false, false, false, false, true, false, false] rfl rfl (one_of HT_.out (by kernel_rfl)) (by decide) (fun K hK => ?_)
   refine goes_ Try.func32 (by kernel_rfl) rfl #[.int .u64 1] (by rfl) rfl rfl (by (try simp only [List.map_toArray, List.map_cons, List.map_nil]); first | done | rfl | (simp only [List.length_drop, List.length_take]; rfl)) ?_
   with_reducible refine (wide_Of.calls 1 t564 t565 _ A1.out).mono ?_
   rintro e w66 ⟨rfl, hb⟩
   refine ⟨_, rfl, ?_⟩
   replace BK563 := bb_ BK563 hb
   replace BK569 := bb_ BK569 hb
   replace HB := Aside0.mk (below_step (by repeat (first | (with_reducible first | exact HB.out | apply below_alloc | apply pw_below_drewN | apply below_drew1 | refine below_set ?_ (Aside0.out (by assumption))) | exact HB.out)) hb)
   (try clear hb)
   (try clear hb2)
   (try clear hk)
   (try clear hi)
   refine hK.out _ _ ⟨(blk_cell BK563.out 0).trans rfl, (blk_cell BK563.out 1).trans rfl⟩ (fun hHeld => ?_)
   clear hK K
   refine norm_ (a' := ?_) ?_ ?_
   rotate_left
   ·show Act.put _ (some 40) _ = _
    simp only [Act.put, List.setIfInBounds_toArray, List.set_cons_zero, List.set_cons_succ, i64_w, i32_w]
    rfl
   refine one_ (i := 2) (N := some 41) #[true, true, true, false, false, false, true, false, false] rfl rfl (one_of HT_.out (by kernel_rfl)) (by decide) (fun K hK => ?_)
   refine goes_ Try.func24 (by kernel_rfl) rfl #[.agg #[.int .u64 18446744073709551615, .int .u64 18446744073709551615], .agg #[.int .u64 t564, .int .u64 t565]] (by rfl) rfl rfl (by (try simp only [List.map_toArray, List.map_cons, List.map_nil]); first | done | rfl | (simp only [List.length_drop, List.length_take]; rfl)) ?_
   with_reducible refine (wide_Add.calls 18446744073709551615 18446744073709551615 t564 t565 t566 t567 t568 _ A2.out).mono ?_
   rintro e w67 ⟨rfl, hb⟩
   refine ⟨_, rfl, ?_⟩
   replace BK563 := bb_ BK563 hb
   replace BK569 := bb_ BK569 hb
   replace HB := Aside0.mk (below_step (by repeat (first | (with_reducible first | exact HB.out | apply below_alloc | apply pw_below_drewN | apply below_drew1 | refine below_set ?_ (Aside0.out (by assumption))) | exact HB.out)) hb)
   (try clear hb)
   (try clear hb2)
   (try clear hk)
   (try clear hi)
   refine hK.out _ _ ⟨(blk_cell BK563.out 0).trans rfl, (blk_cell BK563.out 1).trans rfl⟩ (fun hHeld => ?_)
   clear hK K
   refine norm_ (a' := ?_) ?_ ?_
   rotate_left
   ·show Act.put _ (some 41) _ = _
    simp only [Act.put, List.setIfInBounds_toArray, List.set_cons_zero, List.set_cons_succ, i64_w, i32_w]
    rfl
   refine pure_ (i := 3) (N := some 38) (v := ?_) (a' := ?_) #[true, true, true, true, false, false, true, false, false] rfl rfl (any_of HT_.out (by kernel_rfl)) (fun _ _ _ h => h) (Or.inl ⟨by rfl, ?_⟩) ?_ ?_
   rotate_left
   ·intro w'
    go_simp
    with_reducible rfl
   rotate_left
   ·simp only [Act.put, List.setIfInBounds_toArray, List.set_cons_zero, List.set_cons_succ, i64_w, i32_w]
    rfl
   refine pure_ (i := 4) (N := some 42) (v := ?_) (a' := ?_) #[true, true, true, true, true, false, true, false, false] rfl rfl (any_of HT_.out (by kernel_rfl)) (fun _ _ _ h => h) (Or.inl ⟨by rfl, ?_⟩) ?_ ?_
   rotate_left
   ·intro w'
    go_simp
    with_reducible rfl
   rotate_left
   ·simp only [Act.put, List.setIfInBounds_toArray, List.set_cons_zero, List.set_cons_succ, i64_w, i32_w]
    rfl
   refine pure_ (i := 5) (N := some 43) (v := ?_) (a' := ?_) #[true, true, true, true, true, true, true, false, false] rfl rfl (any_of HT_.out (by kernel_rfl)) (fun _ _ _ h => h) (Or.inl ⟨by rfl, ?_⟩) ?_ ?_
   rotate_left
   ·intro w'
    go_simp
    with_reducible rfl
   rotate_left
   ·simp only [Act.put, List.setIfInBounds_toArray, List.set_cons_zero, List.set_cons_succ, i64_w, i32_w]
    rfl
   exact norm_ (by simp only [putAll, Act.put, List.setIfInBounds_toArray, List.set_cons_zero, List.set_cons_succ]) (hCont (gb569) _ ⟨hHeld, (bq_ BK563), (bq_ BK569), GW569.out, GE569.out, NB563_569.out, NB569_563.out, (by repeat (first | (with_reducible first | exact HB.out | apply below_alloc | apply pw_below_drewN | apply below_drew1 | refine below_set ?_ (Aside0.out (by assumption))) | exact HB.out))⟩)
 rintro gb569 w68 ⟨hS_, h0_, h1_, h2_, h3_, h4_, h5_, h6_⟩
 have BK569 : Aside0 (w68.heap[gb569]? = some (.cells #[.int .u64 0, .int .u64 0] 46 (0, 0))) := ⟨h1_⟩
 have GW569 : Aside0 (w.heap.size ≤ gb569) := ⟨h2_⟩
 have GE569 : Aside0 (w.heap.size ≤ gb569) := ⟨h3_⟩
 have NB563_569 : Aside0 (gb563 ≠ gb569) := ⟨h4_⟩
 have NB569_563 : Aside0 (gb569 ≠ gb563) := ⟨h5_⟩
 replace BK563 : Aside0 (w68.heap[gb563]? = some (.cells #[.int .u64 18446744073709551615, .int .u64 18446744073709551615] 46 (0, 0))) := ⟨h0_⟩
 replace HB : Aside0 (Below w.heap.size w w68) := ⟨h6_⟩
 clear h0_ h1_ h2_ h3_ h4_ h5_ h6_
 have hHeld : w68.cell? ⟨gb563, 0, none⟩ = some (.int .u64 18446744073709551615) ∧ w68.cell? ⟨gb563, 1, none⟩ = some (.int .u64 18446744073709551615) := hS_
 refine norm_ (a' := ?_) ?_ ?_
 rotate_left
 ·simp only [putAll, Act.put, List.setIfInBounds_toArray, List.set_cons_zero, List.set_cons_succ]
  rfl
 refine one_ (i := 7) (N := none) #[true, true, true, true, true, true, true, true, false] rfl rfl (one_of HT_.out (by kernel_rfl)) (by decide) (fun K hK => ?_)
 have hs69 : w68.cell? ⟨gb569, 0, none⟩ = some (.int .u64 0) := (blk_cell BK569.out 0).trans rfl
 have hfs69 := blk_frozen BK569.out 0
 have hns69_0 := NB563_569.out
 have hms69_0 := NB569_563.out
 have hs70 : w68.cell? ⟨gb569, 1, none⟩ = some (.int .u64 0) := (blk_cell BK569.out 1).trans rfl
 have hfs70 := blk_frozen BK569.out 1
 have hns70_0 := NB563_569.out
 have hms70_0 := NB569_563.out
 refine skip_ (w1 := ?_) (by rfl) rfl ?_ ?_
 rotate_left
 ·go_simp
  rfl
 refine hK.out _ _ ⟨((cell_far (p := ⟨gb569, _, none⟩) NB563_569.out _).trans (((cell_far (p := ⟨gb569, _, none⟩) NB563_569.out _).trans (hHeld.1)))), ((cell_far (p := ⟨gb569, _, none⟩) NB563_569.out _).trans (((cell_far (p := ⟨gb569, _, none⟩) NB563_569.out _).trans (hHeld.2))))⟩ (fun hHeld => ?_)
 clear hK K
 refine pure_ (i := 8) (N := some 3) (v := ?_) (a' := ?_) #[true, true, true, true, true, true, true, true, true] rfl rfl (any_of HT_.out (by kernel_rfl)) (fun _ _ _ h => h) (Or.inl ⟨by rfl, ?_⟩) ?_ ?_
 rotate_left
 ·intro w'
  go_simp
  with_reducible rfl
 rotate_left
 ·simp only [Act.put, List.setIfInBounds_toArray, List.set_cons_zero, List.set_cons_succ, i64_w, i32_w]
  rfl
 refine done_ (done_of HT_.out (by kernel_rfl)) ?_
 try go_wp2_with (first | ((with_reducible refine gate_callee (f := 24) rfl ?_); refine goesL_ (some 47) rfl rfl Try.func24 (by kernel_rfl) rfl #[.agg #[.int .u64 18446744073709551615, .int .u64 0], .agg #[.int .u64 1, .int .u64 0]] rfl (by (try simp only [List.map_toArray, List.map_cons, List.map_nil]); first | done | rfl | (simp only [List.length_drop, List.length_take]; rfl)) ?_; (with_reducible refine (wide_Add.calls 18446744073709551615 0 1 0 t570 t571 t572 _ A3.out).mono ?_); rintro e w71 ⟨rfl, hb⟩; refine ⟨_, rfl, ?_⟩; replace BK563 := Aside0.mk (blk_below (g := gb563) (o := .cells #[.int .u64 18446744073709551615, .int .u64 18446744073709551615] 46 (0, 0)) (by (with_reducible repeat (first | refine blk_drewN ?_ _ | refine blk_drew ?_ | refine blk_alloc ?_ _)); refine blk_far ?_ NB563_569.out _; (with_reducible repeat (first | refine blk_drewN ?_ _ | refine blk_drew ?_ | refine blk_alloc ?_ _)); refine blk_far ?_ NB563_569.out _; (with_reducible repeat (first | refine blk_drewN ?_ _ | refine blk_drew ?_ | refine blk_alloc ?_ _)); exact BK563.out) hb); replace BK569 := Aside0.mk (blk_below (g := gb569) (o := .cells #[.int .u64 t566, .int .u64 t567] 46 (0, 0)) (by (with_reducible repeat (first | refine blk_drewN ?_ _ | refine blk_drew ?_ | refine blk_alloc ?_ _)); refine blk_put (cs := #[.int .u64 t566, .int .u64 0]) ?_ 1 _ rfl; (with_reducible repeat (first | refine blk_drewN ?_ _ | refine blk_drew ?_ | refine blk_alloc ?_ _)); refine blk_put (cs := #[.int .u64 0, .int .u64 0]) ?_ 0 _ rfl; (with_reducible repeat (first | refine blk_drewN ?_ _ | refine blk_drew ?_ | refine blk_alloc ?_ _)); exact BK569.out) hb); replace HB := Aside0.mk (below_step (by repeat (first | (with_reducible first | exact HB.out | apply below_alloc | apply pw_below_drewN | apply below_drew1 | refine below_set ?_ (Aside0.out (by assumption))) | exact HB.out)) hb); (try clear hb); (try clear hb2); (try clear hk); (try clear hi)) | ((with_reducible refine gate_dst (N := 4) rfl ?_); refine box_event ?hg (N := 4) ?hd (cs := #[.int .u64 0, .int .u64 0]) (t := 46) ?hr ?_; (case hd => rfl); (case hg => rfl); (case hr => first | (go_simp; done) | (go_simp; rfl)); intro gb573 hg w72 hbox hb; have BK573 := Aside0.mk (hbox); have GW573 := Aside0.mk ((by rw [hg]; exact (below_size (by repeat (first | (with_reducible first | exact HB.out | apply below_alloc | apply pw_below_drewN | apply below_drew1 | refine below_set ?_ (Aside0.out (by assumption))) | exact HB.out))) : w.heap.size ≤ gb573)); have GE573 := GW573; have NB563_573 := bn_ BK563 hg; have NB573_563 := bm_ BK563 hg; have NB569_573 := bn_ BK569 hg; have NB573_569 := bm_ BK569 hg; replace BK563 := bb_ BK563 hb; replace BK569 := bb_ BK569 hb; replace HB := Aside0.mk (below_step (by repeat (first | (with_reducible first | exact HB.out | apply below_alloc | apply pw_below_drewN | apply below_drew1 | refine below_set ?_ (Aside0.out (by assumption))) | exact HB.out)) hb); clear hb hbox hg; have hnb73 := NB573_563.out; have hnc73 := NB563_573.out; have hnb74 := NB573_569.out; have hnc74 := NB569_573.out; have hcz75_0 : w72.cell? ⟨gb573, 0, none⟩ = some (.int .u64 0) := (blk_cell BK573.out 0).trans rfl; have hcz75_1 : w72.cell? ⟨gb573, 1, none⟩ = some (.int .u64 0) := (blk_cell BK573.out 1).trans rfl; have hfz75_0 := blk_frozen BK573.out 0; have hfz75_1 := blk_frozen BK573.out 1))
 have n0_ : Aside0 (((w72.setCell ⟨gb573, 0, none⟩ (.int .u64 t570)).setCell ⟨gb573, 1, none⟩ (.int .u64 t571)).heap[gb563]? = some (.cells #[.int .u64 18446744073709551615, .int .u64 18446744073709551615] 46 (0, 0))) := ⟨by (with_reducible repeat (first | refine blk_drewN ?_ _ | refine blk_drew ?_ | refine blk_alloc ?_ _)); refine blk_far ?_ NB563_573.out _; (with_reducible repeat (first | refine blk_drewN ?_ _ | refine blk_drew ?_ | refine blk_alloc ?_ _)); refine blk_far ?_ NB563_573.out _; (with_reducible repeat (first | refine blk_drewN ?_ _ | refine blk_drew ?_ | refine blk_alloc ?_ _)); exact BK563.out⟩
 have n1_ : Aside0 (((w72.setCell ⟨gb573, 0, none⟩ (.int .u64 t570)).setCell ⟨gb573, 1, none⟩ (.int .u64 t571)).heap[gb569]? = some (.cells #[.int .u64 t566, .int .u64 t567] 46 (0, 0))) := ⟨by (with_reducible repeat (first | refine blk_drewN ?_ _ | refine blk_drew ?_ | refine blk_alloc ?_ _)); refine blk_far ?_ NB569_573.out _; (with_reducible repeat (first | refine blk_drewN ?_ _ | refine blk_drew ?_ | refine blk_alloc ?_ _)); refine blk_far ?_ NB569_573.out _; (with_reducible repeat (first | refine blk_drewN ?_ _ | refine blk_drew ?_ | refine blk_alloc ?_ _)); exact BK569.out⟩
 have n2_ : Aside0 (((w72.setCell ⟨gb573, 0, none⟩ (.int .u64 t570)).setCell ⟨gb573, 1, none⟩ (.int .u64 t571)).heap[gb573]? = some (.cells #[.int .u64 t570, .int .u64 t571] 46 (0, 0))) := ⟨by (with_reducible repeat (first | refine blk_drewN ?_ _ | refine blk_drew ?_ | refine blk_alloc ?_ _)); refine blk_put (cs := #[.int .u64 t570, .int .u64 0]) ?_ 1 _ rfl; (with_reducible repeat (first | refine blk_drewN ?_ _ | refine blk_drew ?_ | refine blk_alloc ?_ _)); refine blk_put (cs := #[.int .u64 0, .int .u64 0]) ?_ 0 _ rfl; (with_reducible repeat (first | refine blk_drewN ?_ _ | refine blk_drew ?_ | refine blk_alloc ?_ _)); exact BK573.out⟩
 have n3_ : Aside0 (Below w.heap.size w ((w72.setCell ⟨gb573, 0, none⟩ (.int .u64 t570)).setCell ⟨gb573, 1, none⟩ (.int .u64 t571))) := ⟨by repeat (first | (with_reducible first | exact HB.out | apply below_alloc | apply pw_below_drewN | apply below_drew1 | refine below_set ?_ GE563.out | refine below_set ?_ GE569.out | refine below_set ?_ GE573.out) | exact HB.out)⟩
 (try clear BK563)
 (try clear BK569)
 (try clear BK573)
 (try clear HB)
 generalize ((w72.setCell ⟨gb573, 0, none⟩ (.int .u64 t570)).setCell ⟨gb573, 1, none⟩ (.int .u64 t571)) = w76 at n0_ n1_ n2_ n3_ ⊢
 have BK563 := n0_
 have BK569 := n1_
 have BK573 := n2_
 have HB := n3_
 clear n0_ n1_ n2_ n3_
 replace BK563 := Aside0.mk (blk_drew BK563.out)
 replace BK569 := Aside0.mk (blk_drew BK569.out)
 replace BK573 := Aside0.mk (blk_drew BK573.out)
 replace HB := Aside0.mk (below_drew1 HB.out)
 refine start_ (n := 9) (S := fun w' => w'.cell? ⟨gb563, 0, none⟩ = some (.int .u64 18446744073709551615) ∧ w'.cell? ⟨gb563, 1, none⟩ = some (.int .u64 18446744073709551615)) (ds := []) #[false, false, false, false, false, false, false, false, false] (by kernel_rfl) rfl rfl ⟨(blk_cell BK563.out 0).trans rfl, (blk_cell BK563.out 1).trans rfl⟩ (fun hHeld => ?_); refine with_tabW spigotlaw01_WideNames.tab4 spigotlaw01_WideNames.bits4 (fun HT_ HW_ => ?_)
 generalize w76.drew = w77 at BK563 BK569 BK573 HB hHeld ⊢
 refine take_ (i := 0) (N := some 51) (v := ?_) (a' := ?_) #[true, false, false, false, false, false, false, false, false] rfl rfl (take_ofW HT_.out HW_.out (by kernel_rfl)) (fun _ _ _ h => h) (Or.inl ⟨by rfl, ?_⟩) hHeld ?_ ?_
 rotate_left
 ·rintro w' ⟨s0, s1⟩
  go_simp
  with_reducible rfl
 rotate_left
 ·simp only [Act.put, List.setIfInBounds_toArray, List.set_cons_zero, List.set_cons_succ, i64_w, i32_w]
  rfl
 refine join_ (σ := Nat) 2 #[true, true, true, true, true, true, true, false, false] (fun s_ => [(52, .agg #[.int .u64 t574, .int .u64 t575]), (53, .tuple #[.agg #[.int .u64 t576, .int .u64 t577], .int .i64 t578]), (6, .pointer (some ⟨s_, 0, none⟩)), (50, .tuple #[.agg #[.int .u64 t576, .int .u64 t577], .int .i64 t578]), (54, .agg #[.int .u64 t576, .int .u64 t577]), (55, .int .i64 t578)]) (fun s_ w' => (w'.cell? ⟨gb563, 0, none⟩ = some (.int .u64 18446744073709551615) ∧ w'.cell? ⟨gb563, 1, none⟩ = some (.int .u64 18446744073709551615)) ∧ (w'.heap[gb563]? = some (.cells #[.int .u64 18446744073709551615, .int .u64 18446744073709551615] 46 (0, 0))) ∧ (w'.heap[gb569]? = some (.cells #[.int .u64 t566, .int .u64 t567] 46 (0, 0))) ∧ (w'.heap[gb573]? = some (.cells #[.int .u64 t570, .int .u64 t571] 46 (0, 0))) ∧ (w'.heap[s_]? = some (.cells #[.int .u64 0, .int .u64 0] 46 (0, 0))) ∧ (w.heap.size ≤ s_) ∧ (w.heap.size ≤ s_) ∧ (gb563 ≠ s_) ∧ (s_ ≠ gb563) ∧ (gb569 ≠ s_) ∧ (s_ ≠ gb569) ∧ (gb573 ≠ s_) ∧ (s_ ≠ gb573) ∧ (Below w.heap.size w w')) ?_ ?_
 rotate_left
 ·intro hCont
  refine two_ (i := 1) (j := 6) (Ni := some 52) (Nj := some 6) #[true, true, false, false, false, false, false, false, false] #[true, false, false, false, false, false, true, false, false] rfl rfl rfl rfl (two_of HT_.out (by kernel_rfl)) (by decide) (by decide) (fun K hK => ?_) (fun K hK => ?_)
  ·skip
   refine goes_ Try.func32 (by kernel_rfl) rfl #[.int .u64 0] (by rfl) rfl rfl (by (try simp only [List.map_toArray, List.map_cons, List.map_nil]); first | done | rfl | (simp only [List.length_drop, List.length_take]; rfl)) ?_
   with_reducible refine (wide_Of.calls 0 t574 t575 _ A4.out).mono ?_
   rintro e w78 ⟨rfl, hb⟩
   refine ⟨_, rfl, ?_⟩
   replace BK563 := bb_ BK563 hb
   replace BK569 := bb_ BK569 hb
   replace BK573 := bb_ BK573 hb
   replace HB := Aside0.mk (below_step (by repeat (first | (with_reducible first | exact HB.out | apply below_alloc | apply pw_below_drewN | apply below_drew1 | refine below_set ?_ (Aside0.out (by assumption))) | exact HB.out)) hb)
   (try clear hb)
   (try clear hb2)
   (try clear hk)
   (try clear hi)
   refine hK.out _ _ ⟨(blk_cell BK563.out 0).trans rfl, (blk_cell BK563.out 1).trans rfl⟩ (fun hHeld => ?_)
   clear hK K
   refine norm_ (a' := ?_) ?_ ?_
   rotate_left
   ·show Act.put _ (some 52) _ = _
    simp only [Act.put, List.setIfInBounds_toArray, List.set_cons_zero, List.set_cons_succ, i64_w, i32_w]
    rfl
   refine two_ (i := 2) (j := 6) (Ni := some 53) (Nj := some 6) #[true, true, true, false, false, false, false, false, false] #[true, true, false, false, false, false, true, false, false] rfl rfl rfl rfl (two_of HT_.out (by kernel_rfl)) (by decide) (by decide) (fun K hK => ?_) (fun K hK => ?_)
   ·skip
    refine goes_ Try.func24 (by kernel_rfl) rfl #[.agg #[.int .u64 18446744073709551615, .int .u64 18446744073709551615], .agg #[.int .u64 t574, .int .u64 t575]] (by rfl) rfl rfl (by (try simp only [List.map_toArray, List.map_cons, List.map_nil]); first | done | rfl | (simp only [List.length_drop, List.length_take]; rfl)) ?_
    with_reducible refine (wide_Add.calls 18446744073709551615 18446744073709551615 t574 t575 t576 t577 t578 _ A5.out).mono ?_
    rintro e w79 ⟨rfl, hb⟩
    refine ⟨_, rfl, ?_⟩
    replace BK563 := bb_ BK563 hb
    replace BK569 := bb_ BK569 hb
    replace BK573 := bb_ BK573 hb
    replace HB := Aside0.mk (below_step (by repeat (first | (with_reducible first | exact HB.out | apply below_alloc | apply pw_below_drewN | apply below_drew1 | refine below_set ?_ (Aside0.out (by assumption))) | exact HB.out)) hb)
    (try clear hb)
    (try clear hb2)
    (try clear hk)
    (try clear hi)
    refine hK.out _ _ ⟨(blk_cell BK563.out 0).trans rfl, (blk_cell BK563.out 1).trans rfl⟩ (fun hHeld => ?_)
    clear hK K
    refine norm_ (a' := ?_) ?_ ?_
    rotate_left
    ·show Act.put _ (some 53) _ = _
     simp only [Act.put, List.setIfInBounds_toArray, List.set_cons_zero, List.set_cons_succ, i64_w, i32_w]
     rfl
    refine pure_ (i := 3) (N := some 50) (v := ?_) (a' := ?_) #[true, true, true, true, false, false, false, false, false] rfl rfl (any_of HT_.out (by kernel_rfl)) (fun _ _ _ h => h) (Or.inl ⟨by rfl, ?_⟩) ?_ ?_
    rotate_left
    ·intro w'
     go_simp
     with_reducible rfl
    rotate_left
    ·simp only [Act.put, List.setIfInBounds_toArray, List.set_cons_zero, List.set_cons_succ, i64_w, i32_w]
     rfl
    refine pure_ (i := 4) (N := some 54) (v := ?_) (a' := ?_) #[true, true, true, true, true, false, false, false, false] rfl rfl (any_of HT_.out (by kernel_rfl)) (fun _ _ _ h => h) (Or.inl ⟨by rfl, ?_⟩) ?_ ?_
    rotate_left
    ·intro w'
     go_simp
     with_reducible rfl
    rotate_left
    ·simp only [Act.put, List.setIfInBounds_toArray, List.set_cons_zero, List.set_cons_succ, i64_w, i32_w]
     rfl
    refine pure_ (i := 5) (N := some 55) (v := ?_) (a' := ?_) #[true, true, true, true, true, true, false, false, false] rfl rfl (any_of HT_.out (by kernel_rfl)) (fun _ _ _ h => h) (Or.inl ⟨by rfl, ?_⟩) ?_ ?_
    rotate_left
    ·intro w'
     go_simp
     with_reducible rfl
    rotate_left
    ·simp only [Act.put, List.setIfInBounds_toArray, List.set_cons_zero, List.set_cons_succ, i64_w, i32_w]
     rfl
    refine one_ (i := 6) (N := some 6) #[true, true, true, true, true, true, true, false, false] rfl rfl (one_of HT_.out (by kernel_rfl)) (by decide) (fun K hK => ?_)
    refine box_step ?hg (N := 6) ?hd (cs := #[.int .u64 0, .int .u64 0]) (t := 46) ?hr ?_; (case hd => rfl); (case hg => rfl); (case hr => first | (go_simp; done) | (go_simp; rfl))
    intro gb579 hg w80 hbox hb
    have BK579 := Aside0.mk (hbox)
    have GW579 := Aside0.mk ((by rw [hg]; exact (below_size (by repeat (first | (with_reducible first | exact HB.out | apply below_alloc | apply pw_below_drewN | apply below_drew1 | refine below_set ?_ (Aside0.out (by assumption))) | exact HB.out))) : w.heap.size ≤ gb579))
    have GE579 := GW579
    have NB563_579 := bn_ BK563 hg
    have NB579_563 := bm_ BK563 hg
    have NB569_579 := bn_ BK569 hg
    have NB579_569 := bm_ BK569 hg
    have NB573_579 := bn_ BK573 hg
    have NB579_573 := bm_ BK573 hg
    replace BK563 := bb_ BK563 hb
    replace BK569 := bb_ BK569 hb
    replace BK573 := bb_ BK573 hb
    replace HB := Aside0.mk (below_step (by repeat (first | (with_reducible first | exact HB.out | apply below_alloc | apply pw_below_drewN | apply below_drew1 | refine below_set ?_ (Aside0.out (by assumption))) | exact HB.out)) hb)
    clear hb hbox hg
    refine hK.out _ _ ⟨(blk_cell BK563.out 0).trans rfl, (blk_cell BK563.out 1).trans rfl⟩ (fun hHeld => ?_)
    clear hK K
    refine norm_ (a' := ?_) ?_ ?_
    rotate_left
    ·show Act.put _ (some 6) _ = _
     simp only [Act.put, List.setIfInBounds_toArray, List.set_cons_zero, List.set_cons_succ, i64_w, i32_w]
     rfl
    exact norm_ (by simp only [putAll, Act.put, List.setIfInBounds_toArray, List.set_cons_zero, List.set_cons_succ]) (hCont (gb579) _ ⟨hHeld, (bq_ BK563), (bq_ BK569), (bq_ BK573), (bq_ BK579), GW579.out, GE579.out, NB563_579.out, NB579_563.out, NB569_579.out, NB579_569.out, NB573_579.out, NB579_573.out, (by repeat (first | (with_reducible first | exact HB.out | apply below_alloc | apply pw_below_drewN | apply below_drew1 | refine below_set ?_ (Aside0.out (by assumption))) | exact HB.out))⟩)
   ·skip
    refine box_step ?hg (N := 6) ?hd (cs := #[.int .u64 0, .int .u64 0]) (t := 46) ?hr ?_; (case hd => rfl); (case hg => rfl); (case hr => first | (go_simp; done) | (go_simp; rfl))
    intro gb579 hg w79 hbox hb
    have BK579 := Aside0.mk (hbox)
    have GW579 := Aside0.mk ((by rw [hg]; exact (below_size (by repeat (first | (with_reducible first | exact HB.out | apply below_alloc | apply pw_below_drewN | apply below_drew1 | refine below_set ?_ (Aside0.out (by assumption))) | exact HB.out))) : w.heap.size ≤ gb579))
    have GE579 := GW579
    have NB563_579 := bn_ BK563 hg
    have NB579_563 := bm_ BK563 hg
    have NB569_579 := bn_ BK569 hg
    have NB579_569 := bm_ BK569 hg
    have NB573_579 := bn_ BK573 hg
    have NB579_573 := bm_ BK573 hg
    replace BK563 := bb_ BK563 hb
    replace BK569 := bb_ BK569 hb
    replace BK573 := bb_ BK573 hb
    replace HB := Aside0.mk (below_step (by repeat (first | (with_reducible first | exact HB.out | apply below_alloc | apply pw_below_drewN | apply below_drew1 | refine below_set ?_ (Aside0.out (by assumption))) | exact HB.out)) hb)
    clear hb hbox hg
    refine hK.out _ _ ⟨(blk_cell BK563.out 0).trans rfl, (blk_cell BK563.out 1).trans rfl⟩ (fun hHeld => ?_)
    clear hK K
    refine norm_ (a' := ?_) ?_ ?_
    rotate_left
    ·show Act.put _ (some 6) _ = _
     simp only [Act.put, List.setIfInBounds_toArray, List.set_cons_zero, List.set_cons_succ, i64_w, i32_w]
     rfl
    refine one_ (i := 2) (N := some 53) #[true, true, true, false, false, false, true, false, false] rfl rfl (one_of HT_.out (by kernel_rfl)) (by decide) (fun K hK => ?_)
    refine goes_ Try.func24 (by kernel_rfl) rfl #[.agg #[.int .u64 18446744073709551615, .int .u64 18446744073709551615], .agg #[.int .u64 t574, .int .u64 t575]] (by rfl) rfl rfl (by (try simp only [List.map_toArray, List.map_cons, List.map_nil]); first | done | rfl | (simp only [List.length_drop, List.length_take]; rfl)) ?_
    with_reducible refine (wide_Add.calls 18446744073709551615 18446744073709551615 t574 t575 t576 t577 t578 _ A5.out).mono ?_
    rintro e w80 ⟨rfl, hb⟩
    refine ⟨_, rfl, ?_⟩
    replace BK563 := bb_ BK563 hb
    replace BK569 := bb_ BK569 hb
    replace BK573 := bb_ BK573 hb
    replace BK579 := bb_ BK579 hb
    replace HB := Aside0.mk (below_step (by repeat (first | (with_reducible first | exact HB.out | apply below_alloc | apply pw_below_drewN | apply below_drew1 | refine below_set ?_ (Aside0.out (by assumption))) | exact HB.out)) hb)
    (try clear hb)
    (try clear hb2)
    (try clear hk)
    (try clear hi)
    refine hK.out _ _ ⟨(blk_cell BK563.out 0).trans rfl, (blk_cell BK563.out 1).trans rfl⟩ (fun hHeld => ?_)
    clear hK K
    refine norm_ (a' := ?_) ?_ ?_
    rotate_left
    ·show Act.put _ (some 53) _ = _
     simp only [Act.put, List.setIfInBounds_toArray, List.set_cons_zero, List.set_cons_succ, i64_w, i32_w]
     rfl
    refine pure_ (i := 3) (N := some 50) (v := ?_) (a' := ?_) #[true, true, true, true, false, false, true, false, false] rfl rfl (any_of HT_.out (by kernel_rfl)) (fun _ _ _ h => h) (Or.inl ⟨by rfl, ?_⟩) ?_ ?_
    rotate_left
    ·intro w'
     go_simp
     with_reducible rfl
    rotate_left
    ·simp only [Act.put, List.setIfInBounds_toArray, List.set_cons_zero, List.set_cons_succ, i64_w, i32_w]
     rfl
    refine pure_ (i := 4) (N := some 54) (v := ?_) (a' := ?_) #[true, true, true, true, true, false, true, false, false] rfl rfl (any_of HT_.out (by kernel_rfl)) (fun _ _ _ h => h) (Or.inl ⟨by rfl, ?_⟩) ?_ ?_
    rotate_left
    ·intro w'
     go_simp
     with_reducible rfl
    rotate_left
    ·simp only [Act.put, List.setIfInBounds_toArray, List.set_cons_zero, List.set_cons_succ, i64_w, i32_w]
     rfl
    refine pure_ (i := 5) (N := some 55) (v := ?_) (a' := ?_) #[true, true, true, true, true, true, true, false, false] rfl rfl (any_of HT_.out (by kernel_rfl)) (fun _ _ _ h => h) (Or.inl ⟨by rfl, ?_⟩) ?_ ?_
    rotate_left
    ·intro w'
     go_simp
     with_reducible rfl
    rotate_left
    ·simp only [Act.put, List.setIfInBounds_toArray, List.set_cons_zero, List.set_cons_succ, i64_w, i32_w]
     rfl
    exact norm_ (by simp only [putAll, Act.put, List.setIfInBounds_toArray, List.set_cons_zero, List.set_cons_succ]) (hCont (gb579) _ ⟨hHeld, (bq_ BK563), (bq_ BK569), (bq_ BK573), (bq_ BK579), GW579.out, GE579.out, NB563_579.out, NB579_563.out, NB569_579.out, NB579_569.out, NB573_579.out, NB579_573.out, (by repeat (first | (with_reducible first | exact HB.out | apply below_alloc | apply pw_below_drewN | apply below_drew1 | refine below_set ?_ (Aside0.out (by assumption))) | exact HB.out))⟩)
  ·skip
   refine box_step ?hg (N := 6) ?hd (cs := #[.int .u64 0, .int .u64 0]) (t := 46) ?hr ?_; (case hd => rfl); (case hg => rfl); (case hr => first | (go_simp; done) | (go_simp; rfl))
   intro gb579 hg w78 hbox hb
   have BK579 := Aside0.mk (hbox)
   have GW579 := Aside0.mk ((by rw [hg]; exact (below_size (by repeat (first | (with_reducible first | exact HB.out | apply below_alloc | apply pw_below_drewN | apply below_drew1 | refine below_set ?_ (Aside0.out (by assumption))) | exact HB.out))) : w.heap.size ≤ gb579))
   have GE579 := GW579
   have NB563_579 := bn_ BK563 hg
   have NB579_563 := bm_ BK563 hg
   have NB569_579 := bn_ BK569 hg
   have NB579_569 := bm_ BK569 hg
   have NB573_579 := bn_ BK573 hg
   have NB579_573 := bm_ BK573 hg
   replace BK563 := bb_ BK563 hb
   replace BK569 := bb_ BK569 hb
   replace BK573 := bb_ BK573 hb
   replace HB := Aside0.mk (below_step (by repeat (first | (with_reducible first | exact HB.out | apply below_alloc | apply pw_below_drewN | apply below_drew1 | refine below_set ?_ (Aside0.out (by assumption))) | exact HB.out)) hb)
   clear hb hbox hg
   refine hK.out _ _ ⟨(blk_cell BK563.out 0).trans rfl, (blk_cell BK563.out 1).trans rfl⟩ (fun hHeld => ?_)
   clear hK K
   refine norm_ (a' := ?_) ?_ ?_
   rotate_left
   ·show Act.put _ (some 6) _ = _
    simp only [Act.put, List.setIfInBounds_toArray, List.set_cons_zero, List.set_cons_succ, i64_w, i32_w]
    rfl
   refine one_ (i := 1) (N := some 52) #[true, true, false, false, false, false, true, false, false] rfl rfl (one_of HT_.out (by kernel_rfl)) (by decide) (fun K hK => ?_)
   refine goes_ Try.func32 (by kernel_rfl) rfl #[.int .u64 0] (by rfl) rfl rfl (by (try simp only [List.map_toArray, List.map_cons, List.map_nil]); first | done | rfl | (simp only [List.length_drop, List.length_take]; rfl)) ?_
   with_reducible refine (wide_Of.calls 0 t574 t575 _ A4.out).mono ?_
   rintro e w79 ⟨rfl, hb⟩
   refine ⟨_, rfl, ?_⟩
   replace BK563 := bb_ BK563 hb
   replace BK569 := bb_ BK569 hb
   replace BK573 := bb_ BK573 hb
   replace BK579 := bb_ BK579 hb
   replace HB := Aside0.mk (below_step (by repeat (first | (with_reducible first | exact HB.out | apply below_alloc | apply pw_below_drewN | apply below_drew1 | refine below_set ?_ (Aside0.out (by assumption))) | exact HB.out)) hb)
   (try clear hb)
   (try clear hb2)
   (try clear hk)
   (try clear hi)
   refine hK.out _ _ ⟨(blk_cell BK563.out 0).trans rfl, (blk_cell BK563.out 1).trans rfl⟩ (fun hHeld => ?_)
   clear hK K
   refine norm_ (a' := ?_) ?_ ?_
   rotate_left
   ·show Act.put _ (some 52) _ = _
    simp only [Act.put, List.setIfInBounds_toArray, List.set_cons_zero, List.set_cons_succ, i64_w, i32_w]
    rfl
   refine one_ (i := 2) (N := some 53) #[true, true, true, false, false, false, true, false, false] rfl rfl (one_of HT_.out (by kernel_rfl)) (by decide) (fun K hK => ?_)
   refine goes_ Try.func24 (by kernel_rfl) rfl #[.agg #[.int .u64 18446744073709551615, .int .u64 18446744073709551615], .agg #[.int .u64 t574, .int .u64 t575]] (by rfl) rfl rfl (by (try simp only [List.map_toArray, List.map_cons, List.map_nil]); first | done | rfl | (simp only [List.length_drop, List.length_take]; rfl)) ?_
   with_reducible refine (wide_Add.calls 18446744073709551615 18446744073709551615 t574 t575 t576 t577 t578 _ A5.out).mono ?_
   rintro e w80 ⟨rfl, hb⟩
   refine ⟨_, rfl, ?_⟩
   replace BK563 := bb_ BK563 hb
   replace BK569 := bb_ BK569 hb
   replace BK573 := bb_ BK573 hb
   replace BK579 := bb_ BK579 hb
   replace HB := Aside0.mk (below_step (by repeat (first | (with_reducible first | exact HB.out | apply below_alloc | apply pw_below_drewN | apply below_drew1 | refine below_set ?_ (Aside0.out (by assumption))) | exact HB.out)) hb)
   (try clear hb)
   (try clear hb2)
   (try clear hk)
   (try clear hi)
   refine hK.out _ _ ⟨(blk_cell BK563.out 0).trans rfl, (blk_cell BK563.out 1).trans rfl⟩ (fun hHeld => ?_)
   clear hK K
   refine norm_ (a' := ?_) ?_ ?_
   rotate_left
   ·show Act.put _ (some 53) _ = _
    simp only [Act.put, List.setIfInBounds_toArray, List.set_cons_zero, List.set_cons_succ, i64_w, i32_w]
    rfl
   refine pure_ (i := 3) (N := some 50) (v := ?_) (a' := ?_) #[true, true, true, true, false, false, true, false, false] rfl rfl (any_of HT_.out (by kernel_rfl)) (fun _ _ _ h => h) (Or.inl ⟨by rfl, ?_⟩) ?_ ?_
   rotate_left
   ·intro w'
    go_simp
    with_reducible rfl
   rotate_left
   ·simp only [Act.put, List.setIfInBounds_toArray, List.set_cons_zero, List.set_cons_succ, i64_w, i32_w]
    rfl
   refine pure_ (i := 4) (N := some 54) (v := ?_) (a' := ?_) #[true, true, true, true, true, false, true, false, false] rfl rfl (any_of HT_.out (by kernel_rfl)) (fun _ _ _ h => h) (Or.inl ⟨by rfl, ?_⟩) ?_ ?_
   rotate_left
   ·intro w'
    go_simp
    with_reducible rfl
   rotate_left
   ·simp only [Act.put, List.setIfInBounds_toArray, List.set_cons_zero, List.set_cons_succ, i64_w, i32_w]
    rfl
   refine pure_ (i := 5) (N := some 55) (v := ?_) (a' := ?_) #[true, true, true, true, true, true, true, false, false] rfl rfl (any_of HT_.out (by kernel_rfl)) (fun _ _ _ h => h) (Or.inl ⟨by rfl, ?_⟩) ?_ ?_
   rotate_left
   ·intro w'
    go_simp
    with_reducible rfl
   rotate_left
   ·simp only [Act.put, List.setIfInBounds_toArray, List.set_cons_zero, List.set_cons_succ, i64_w, i32_w]
    rfl
   exact norm_ (by simp only [putAll, Act.put, List.setIfInBounds_toArray, List.set_cons_zero, List.set_cons_succ]) (hCont (gb579) _ ⟨hHeld, (bq_ BK563), (bq_ BK569), (bq_ BK573), (bq_ BK579), GW579.out, GE579.out, NB563_579.out, NB579_563.out, NB569_579.out, NB579_569.out, NB573_579.out, NB579_573.out, (by repeat (first | (with_reducible first | exact HB.out | apply below_alloc | apply pw_below_drewN | apply below_drew1 | refine below_set ?_ (Aside0.out (by assumption))) | exact HB.out))⟩)
 rintro gb579 w81 ⟨hS_, h0_, h1_, h2_, h3_, h4_, h5_, h6_, h7_, h8_, h9_, h10_, h11_, h12_⟩
 have BK579 : Aside0 (w81.heap[gb579]? = some (.cells #[.int .u64 0, .int .u64 0] 46 (0, 0))) := ⟨h3_⟩
 have GW579 : Aside0 (w.heap.size ≤ gb579) := ⟨h4_⟩
 have GE579 : Aside0 (w.heap.size ≤ gb579) := ⟨h5_⟩
 have NB563_579 : Aside0 (gb563 ≠ gb579) := ⟨h6_⟩
 have NB579_563 : Aside0 (gb579 ≠ gb563) := ⟨h7_⟩
 have NB569_579 : Aside0 (gb569 ≠ gb579) := ⟨h8_⟩
 have NB579_569 : Aside0 (gb579 ≠ gb569) := ⟨h9_⟩
 have NB573_579 : Aside0 (gb573 ≠ gb579) := ⟨h10_⟩
 have NB579_573 : Aside0 (gb579 ≠ gb573) := ⟨h11_⟩
 replace BK563 : Aside0 (w81.heap[gb563]? = some (.cells #[.int .u64 18446744073709551615, .int .u64 18446744073709551615] 46 (0, 0))) := ⟨h0_⟩
 replace BK569 : Aside0 (w81.heap[gb569]? = some (.cells #[.int .u64 t566, .int .u64 t567] 46 (0, 0))) := ⟨h1_⟩
 replace BK573 : Aside0 (w81.heap[gb573]? = some (.cells #[.int .u64 t570, .int .u64 t571] 46 (0, 0))) := ⟨h2_⟩
 replace HB : Aside0 (Below w.heap.size w w81) := ⟨h12_⟩
 clear h0_ h1_ h2_ h3_ h4_ h5_ h6_ h7_ h8_ h9_ h10_ h11_ h12_
 have hHeld : w81.cell? ⟨gb563, 0, none⟩ = some (.int .u64 18446744073709551615) ∧ w81.cell? ⟨gb563, 1, none⟩ = some (.int .u64 18446744073709551615) := hS_
 refine norm_ (a' := ?_) ?_ ?_
 rotate_left
 ·simp only [putAll, Act.put, List.setIfInBounds_toArray, List.set_cons_zero, List.set_cons_succ]
  rfl
 refine one_ (i := 7) (N := none) #[true, true, true, true, true, true, true, true, false] rfl rfl (one_of HT_.out (by kernel_rfl)) (by decide) (fun K hK => ?_)
 have hs82 : w81.cell? ⟨gb579, 0, none⟩ = some (.int .u64 0) := (blk_cell BK579.out 0).trans rfl
 have hfs82 := blk_frozen BK579.out 0
 have hns82_0 := NB563_579.out
 have hns82_1 := NB569_579.out
 have hns82_2 := NB573_579.out
 have hms82_0 := NB579_563.out
 have hms82_1 := NB579_569.out
 have hms82_2 := NB579_573.out
 have hs83 : w81.cell? ⟨gb579, 1, none⟩ = some (.int .u64 0) := (blk_cell BK579.out 1).trans rfl
 have hfs83 := blk_frozen BK579.out 1
 have hns83_0 := NB563_579.out
 have hns83_1 := NB569_579.out
 have hns83_2 := NB573_579.out
 have hms83_0 := NB579_563.out
 have hms83_1 := NB579_569.out
 have hms83_2 := NB579_573.out
 refine skip_ (w1 := ?_) (by rfl) rfl ?_ ?_
 rotate_left
 ·go_simp
  rfl
 refine hK.out _ _ ⟨((cell_far (p := ⟨gb579, _, none⟩) NB563_579.out _).trans (((cell_far (p := ⟨gb579, _, none⟩) NB563_579.out _).trans (hHeld.1)))), ((cell_far (p := ⟨gb579, _, none⟩) NB563_579.out _).trans (((cell_far (p := ⟨gb579, _, none⟩) NB563_579.out _).trans (hHeld.2))))⟩ (fun hHeld => ?_)
 clear hK K
 refine pure_ (i := 8) (N := some 7) (v := ?_) (a' := ?_) #[true, true, true, true, true, true, true, true, true] rfl rfl (any_of HT_.out (by kernel_rfl)) (fun _ _ _ h => h) (Or.inl ⟨by rfl, ?_⟩) ?_ ?_
 rotate_left
 ·intro w'
  go_simp
  with_reducible rfl
 rotate_left
 ·simp only [Act.put, List.setIfInBounds_toArray, List.set_cons_zero, List.set_cons_succ, i64_w, i32_w]
  rfl
 refine done_ (done_of HT_.out (by kernel_rfl)) ?_
 have hnb84 := NB563_569.out
 have hnc84 := NB569_563.out
 have hnb85 := NB563_579.out
 have hnc85 := NB579_563.out
 have hcz86_0 : w81.cell? ⟨gb563, 0, none⟩ = some (.int .u64 18446744073709551615) := (blk_cell BK563.out 0).trans rfl
 have hcz86_1 : w81.cell? ⟨gb563, 1, none⟩ = some (.int .u64 18446744073709551615) := (blk_cell BK563.out 1).trans rfl
 have hfz86_0 := blk_frozen BK563.out 0
 have hfz86_1 := blk_frozen BK563.out 1
 try go_wp2_with (first | ((with_reducible refine gate_callee (f := 26) rfl ?_); refine goesL_ (some 59) rfl rfl Try.func26 (by kernel_rfl) rfl #[.agg #[.int .u64 18446744073709551615, .int .u64 18446744073709551615], .agg #[.int .u64 18446744073709551615, .int .u64 18446744073709551615]] rfl (by (try simp only [List.map_toArray, List.map_cons, List.map_nil]); first | done | rfl | (simp only [List.length_drop, List.length_take]; rfl)) ?_; (with_reducible refine (wide_Sub.calls 18446744073709551615 18446744073709551615 18446744073709551615 18446744073709551615 t580 t581 t582 _ A6.out).mono ?_); rintro e w87 ⟨rfl, hb⟩; refine ⟨_, rfl, ?_⟩; replace BK563 := Aside0.mk (blk_below (g := gb563) (o := .cells #[.int .u64 18446744073709551615, .int .u64 18446744073709551615] 46 (0, 0)) (by (with_reducible repeat (first | refine blk_drewN ?_ _ | refine blk_drew ?_ | refine blk_alloc ?_ _)); refine blk_far ?_ NB563_579.out _; (with_reducible repeat (first | refine blk_drewN ?_ _ | refine blk_drew ?_ | refine blk_alloc ?_ _)); refine blk_far ?_ NB563_579.out _; (with_reducible repeat (first | refine blk_drewN ?_ _ | refine blk_drew ?_ | refine blk_alloc ?_ _)); exact BK563.out) hb); replace BK569 := Aside0.mk (blk_below (g := gb569) (o := .cells #[.int .u64 t566, .int .u64 t567] 46 (0, 0)) (by (with_reducible repeat (first | refine blk_drewN ?_ _ | refine blk_drew ?_ | refine blk_alloc ?_ _)); refine blk_far ?_ NB569_579.out _; (with_reducible repeat (first | refine blk_drewN ?_ _ | refine blk_drew ?_ | refine blk_alloc ?_ _)); refine blk_far ?_ NB569_579.out _; (with_reducible repeat (first | refine blk_drewN ?_ _ | refine blk_drew ?_ | refine blk_alloc ?_ _)); exact BK569.out) hb); replace BK573 := Aside0.mk (blk_below (g := gb573) (o := .cells #[.int .u64 t570, .int .u64 t571] 46 (0, 0)) (by (with_reducible repeat (first | refine blk_drewN ?_ _ | refine blk_drew ?_ | refine blk_alloc ?_ _)); refine blk_far ?_ NB573_579.out _; (with_reducible repeat (first | refine blk_drewN ?_ _ | refine blk_drew ?_ | refine blk_alloc ?_ _)); refine blk_far ?_ NB573_579.out _; (with_reducible repeat (first | refine blk_drewN ?_ _ | refine blk_drew ?_ | refine blk_alloc ?_ _)); exact BK573.out) hb); replace BK579 := Aside0.mk (blk_below (g := gb579) (o := .cells #[.int .u64 t576, .int .u64 t577] 46 (0, 0)) (by (with_reducible repeat (first | refine blk_drewN ?_ _ | refine blk_drew ?_ | refine blk_alloc ?_ _)); refine blk_put (cs := #[.int .u64 t576, .int .u64 0]) ?_ 1 _ rfl; (with_reducible repeat (first | refine blk_drewN ?_ _ | refine blk_drew ?_ | refine blk_alloc ?_ _)); refine blk_put (cs := #[.int .u64 0, .int .u64 0]) ?_ 0 _ rfl; (with_reducible repeat (first | refine blk_drewN ?_ _ | refine blk_drew ?_ | refine blk_alloc ?_ _)); exact BK579.out) hb); replace HB := Aside0.mk (below_step (by repeat (first | (with_reducible first | exact HB.out | apply below_alloc | apply pw_below_drewN | apply below_drew1 | refine below_set ?_ (Aside0.out (by assumption))) | exact HB.out)) hb); (try clear hb); (try clear hb2); (try clear hk); (try clear hi)) | ((with_reducible refine gate_dst (N := 8) rfl ?_); refine box_event ?hg (N := 8) ?hd (cs := #[.int .u64 0, .int .u64 0]) (t := 46) ?hr ?_; (case hd => rfl); (case hg => rfl); (case hr => first | (go_simp; done) | (go_simp; rfl)); intro gb583 hg w88 hbox hb; have BK583 := Aside0.mk (hbox); have GW583 := Aside0.mk ((by rw [hg]; exact (below_size (by repeat (first | (with_reducible first | exact HB.out | apply below_alloc | apply pw_below_drewN | apply below_drew1 | refine below_set ?_ (Aside0.out (by assumption))) | exact HB.out))) : w.heap.size ≤ gb583)); have GE583 := GW583; have NB563_583 := bn_ BK563 hg; have NB583_563 := bm_ BK563 hg; have NB569_583 := bn_ BK569 hg; have NB583_569 := bm_ BK569 hg; have NB573_583 := bn_ BK573 hg; have NB583_573 := bm_ BK573 hg; have NB579_583 := bn_ BK579 hg; have NB583_579 := bm_ BK579 hg; replace BK563 := bb_ BK563 hb; replace BK569 := bb_ BK569 hb; replace BK573 := bb_ BK573 hb; replace BK579 := bb_ BK579 hb; replace HB := Aside0.mk (below_step (by repeat (first | (with_reducible first | exact HB.out | apply below_alloc | apply pw_below_drewN | apply below_drew1 | refine below_set ?_ (Aside0.out (by assumption))) | exact HB.out)) hb); clear hb hbox hg; have hnb89 := NB583_563.out; have hnc89 := NB563_583.out; have hnb90 := NB583_569.out; have hnc90 := NB569_583.out; have hnb91 := NB583_573.out; have hnc91 := NB573_583.out; have hnb92 := NB583_579.out; have hnc92 := NB579_583.out; have hcz93_0 : w88.cell? ⟨gb583, 0, none⟩ = some (.int .u64 0) := (blk_cell BK583.out 0).trans rfl; have hcz93_1 : w88.cell? ⟨gb583, 1, none⟩ = some (.int .u64 0) := (blk_cell BK583.out 1).trans rfl; have hfz93_0 := blk_frozen BK583.out 0; have hfz93_1 := blk_frozen BK583.out 1) | ((with_reducible refine gate_callee (f := 26) rfl ?_); refine goesL_ (some 65) rfl rfl Try.func26 (by kernel_rfl) rfl #[.agg #[.int .u64 1, .int .u64 0], .agg #[.int .u64 1, .int .u64 1]] rfl (by (try simp only [List.map_toArray, List.map_cons, List.map_nil]); first | done | rfl | (simp only [List.length_drop, List.length_take]; rfl)) ?_; (with_reducible refine (wide_Sub.calls 1 0 1 1 t584 t585 t586 _ A7.out).mono ?_); rintro e w94 ⟨rfl, hb⟩; refine ⟨_, rfl, ?_⟩; replace BK563 := Aside0.mk (blk_below (g := gb563) (o := .cells #[.int .u64 18446744073709551615, .int .u64 18446744073709551615] 46 (0, 0)) (by (with_reducible repeat (first | refine blk_drewN ?_ _ | refine blk_drew ?_ | refine blk_alloc ?_ _)); refine blk_far ?_ NB563_583.out _; (with_reducible repeat (first | refine blk_drewN ?_ _ | refine blk_drew ?_ | refine blk_alloc ?_ _)); refine blk_far ?_ NB563_583.out _; (with_reducible repeat (first | refine blk_drewN ?_ _ | refine blk_drew ?_ | refine blk_alloc ?_ _)); exact BK563.out) hb); replace BK569 := Aside0.mk (blk_below (g := gb569) (o := .cells #[.int .u64 t566, .int .u64 t567] 46 (0, 0)) (by (with_reducible repeat (first | refine blk_drewN ?_ _ | refine blk_drew ?_ | refine blk_alloc ?_ _)); refine blk_far ?_ NB569_583.out _; (with_reducible repeat (first | refine blk_drewN ?_ _ | refine blk_drew ?_ | refine blk_alloc ?_ _)); refine blk_far ?_ NB569_583.out _; (with_reducible repeat (first | refine blk_drewN ?_ _ | refine blk_drew ?_ | refine blk_alloc ?_ _)); exact BK569.out) hb); replace BK573 := Aside0.mk (blk_below (g := gb573) (o := .cells #[.int .u64 t570, .int .u64 t571] 46 (0, 0)) (by (with_reducible repeat (first | refine blk_drewN ?_ _ | refine blk_drew ?_ | refine blk_alloc ?_ _)); refine blk_far ?_ NB573_583.out _; (with_reducible repeat (first | refine blk_drewN ?_ _ | refine blk_drew ?_ | refine blk_alloc ?_ _)); refine blk_far ?_ NB573_583.out _; (with_reducible repeat (first | refine blk_drewN ?_ _ | refine blk_drew ?_ | refine blk_alloc ?_ _)); exact BK573.out) hb); replace BK579 := Aside0.mk (blk_below (g := gb579) (o := .cells #[.int .u64 t576, .int .u64 t577] 46 (0, 0)) (by (with_reducible repeat (first | refine blk_drewN ?_ _ | refine blk_drew ?_ | refine blk_alloc ?_ _)); refine blk_far ?_ NB579_583.out _; (with_reducible repeat (first | refine blk_drewN ?_ _ | refine blk_drew ?_ | refine blk_alloc ?_ _)); refine blk_far ?_ NB579_583.out _; (with_reducible repeat (first | refine blk_drewN ?_ _ | refine blk_drew ?_ | refine blk_alloc ?_ _)); exact BK579.out) hb); replace BK583 := Aside0.mk (blk_below (g := gb583) (o := .cells #[.int .u64 t580, .int .u64 t581] 46 (0, 0)) (by (with_reducible repeat (first | refine blk_drewN ?_ _ | refine blk_drew ?_ | refine blk_alloc ?_ _)); refine blk_put (cs := #[.int .u64 t580, .int .u64 0]) ?_ 1 _ rfl; (with_reducible repeat (first | refine blk_drewN ?_ _ | refine blk_drew ?_ | refine blk_alloc ?_ _)); refine blk_put (cs := #[.int .u64 0, .int .u64 0]) ?_ 0 _ rfl; (with_reducible repeat (first | refine blk_drewN ?_ _ | refine blk_drew ?_ | refine blk_alloc ?_ _)); exact BK583.out) hb); replace HB := Aside0.mk (below_step (by repeat (first | (with_reducible first | exact HB.out | apply below_alloc | apply pw_below_drewN | apply below_drew1 | refine below_set ?_ (Aside0.out (by assumption))) | exact HB.out)) hb); (try clear hb); (try clear hb2); (try clear hk); (try clear hi)) | ((with_reducible refine gate_dst (N := 10) rfl ?_); refine box_event ?hg (N := 10) ?hd (cs := #[.int .u64 0, .int .u64 0]) (t := 46) ?hr ?_; (case hd => rfl); (case hg => rfl); (case hr => first | (go_simp; done) | (go_simp; rfl)); intro gb587 hg w95 hbox hb; have BK587 := Aside0.mk (hbox); have GW587 := Aside0.mk ((by rw [hg]; exact (below_size (by repeat (first | (with_reducible first | exact HB.out | apply below_alloc | apply pw_below_drewN | apply below_drew1 | refine below_set ?_ (Aside0.out (by assumption))) | exact HB.out))) : w.heap.size ≤ gb587)); have GE587 := GW587; have NB563_587 := bn_ BK563 hg; have NB587_563 := bm_ BK563 hg; have NB569_587 := bn_ BK569 hg; have NB587_569 := bm_ BK569 hg; have NB573_587 := bn_ BK573 hg; have NB587_573 := bm_ BK573 hg; have NB579_587 := bn_ BK579 hg; have NB587_579 := bm_ BK579 hg; have NB583_587 := bn_ BK583 hg; have NB587_583 := bm_ BK583 hg; replace BK563 := bb_ BK563 hb; replace BK569 := bb_ BK569 hb; replace BK573 := bb_ BK573 hb; replace BK579 := bb_ BK579 hb; replace BK583 := bb_ BK583 hb; replace HB := Aside0.mk (below_step (by repeat (first | (with_reducible first | exact HB.out | apply below_alloc | apply pw_below_drewN | apply below_drew1 | refine below_set ?_ (Aside0.out (by assumption))) | exact HB.out)) hb); clear hb hbox hg; have hnb96 := NB587_563.out; have hnc96 := NB563_587.out; have hnb97 := NB587_569.out; have hnc97 := NB569_587.out; have hnb98 := NB587_573.out; have hnc98 := NB573_587.out; have hnb99 := NB587_579.out; have hnc99 := NB579_587.out; have hnb100 := NB587_583.out; have hnc100 := NB583_587.out; have hcz101_0 : w95.cell? ⟨gb587, 0, none⟩ = some (.int .u64 0) := (blk_cell BK587.out 0).trans rfl; have hcz101_1 : w95.cell? ⟨gb587, 1, none⟩ = some (.int .u64 0) := (blk_cell BK587.out 1).trans rfl; have hfz101_0 := blk_frozen BK587.out 0; have hfz101_1 := blk_frozen BK587.out 1) | ((with_reducible refine gate_callee (f := 32) rfl ?_); refine goesL_ (some 70) rfl rfl Try.func32 (by kernel_rfl) rfl #[.int .u64 1] rfl (by (try simp only [List.map_toArray, List.map_cons, List.map_nil]); first | done | rfl | (simp only [List.length_drop, List.length_take]; rfl)) ?_; (with_reducible refine (wide_Of.calls 1 t588 t589 _ A8.out).mono ?_); rintro e w102 ⟨rfl, hb⟩; refine ⟨_, rfl, ?_⟩; replace BK563 := Aside0.mk (blk_below (g := gb563) (o := .cells #[.int .u64 18446744073709551615, .int .u64 18446744073709551615] 46 (0, 0)) (by (with_reducible repeat (first | refine blk_drewN ?_ _ | refine blk_drew ?_ | refine blk_alloc ?_ _)); refine blk_far ?_ NB563_587.out _; (with_reducible repeat (first | refine blk_drewN ?_ _ | refine blk_drew ?_ | refine blk_alloc ?_ _)); refine blk_far ?_ NB563_587.out _; (with_reducible repeat (first | refine blk_drewN ?_ _ | refine blk_drew ?_ | refine blk_alloc ?_ _)); exact BK563.out) hb); replace BK569 := Aside0.mk (blk_below (g := gb569) (o := .cells #[.int .u64 t566, .int .u64 t567] 46 (0, 0)) (by (with_reducible repeat (first | refine blk_drewN ?_ _ | refine blk_drew ?_ | refine blk_alloc ?_ _)); refine blk_far ?_ NB569_587.out _; (with_reducible repeat (first | refine blk_drewN ?_ _ | refine blk_drew ?_ | refine blk_alloc ?_ _)); refine blk_far ?_ NB569_587.out _; (with_reducible repeat (first | refine blk_drewN ?_ _ | refine blk_drew ?_ | refine blk_alloc ?_ _)); exact BK569.out) hb); replace BK573 := Aside0.mk (blk_below (g := gb573) (o := .cells #[.int .u64 t570, .int .u64 t571] 46 (0, 0)) (by (with_reducible repeat (first | refine blk_drewN ?_ _ | refine blk_drew ?_ | refine blk_alloc ?_ _)); refine blk_far ?_ NB573_587.out _; (with_reducible repeat (first | refine blk_drewN ?_ _ | refine blk_drew ?_ | refine blk_alloc ?_ _)); refine blk_far ?_ NB573_587.out _; (with_reducible repeat (first | refine blk_drewN ?_ _ | refine blk_drew ?_ | refine blk_alloc ?_ _)); exact BK573.out) hb); replace BK579 := Aside0.mk (blk_below (g := gb579) (o := .cells #[.int .u64 t576, .int .u64 t577] 46 (0, 0)) (by (with_reducible repeat (first | refine blk_drewN ?_ _ | refine blk_drew ?_ | refine blk_alloc ?_ _)); refine blk_far ?_ NB579_587.out _; (with_reducible repeat (first | refine blk_drewN ?_ _ | refine blk_drew ?_ | refine blk_alloc ?_ _)); refine blk_far ?_ NB579_587.out _; (with_reducible repeat (first | refine blk_drewN ?_ _ | refine blk_drew ?_ | refine blk_alloc ?_ _)); exact BK579.out) hb); replace BK583 := Aside0.mk (blk_below (g := gb583) (o := .cells #[.int .u64 t580, .int .u64 t581] 46 (0, 0)) (by (with_reducible repeat (first | refine blk_drewN ?_ _ | refine blk_drew ?_ | refine blk_alloc ?_ _)); refine blk_far ?_ NB583_587.out _; (with_reducible repeat (first | refine blk_drewN ?_ _ | refine blk_drew ?_ | refine blk_alloc ?_ _)); refine blk_far ?_ NB583_587.out _; (with_reducible repeat (first | refine blk_drewN ?_ _ | refine blk_drew ?_ | refine blk_alloc ?_ _)); exact BK583.out) hb); replace BK587 := Aside0.mk (blk_below (g := gb587) (o := .cells #[.int .u64 t584, .int .u64 t585] 46 (0, 0)) (by (with_reducible repeat (first | refine blk_drewN ?_ _ | refine blk_drew ?_ | refine blk_alloc ?_ _)); refine blk_put (cs := #[.int .u64 t584, .int .u64 0]) ?_ 1 _ rfl; (with_reducible repeat (first | refine blk_drewN ?_ _ | refine blk_drew ?_ | refine blk_alloc ?_ _)); refine blk_put (cs := #[.int .u64 0, .int .u64 0]) ?_ 0 _ rfl; (with_reducible repeat (first | refine blk_drewN ?_ _ | refine blk_drew ?_ | refine blk_alloc ?_ _)); exact BK587.out) hb); replace HB := Aside0.mk (below_step (by repeat (first | (with_reducible first | exact HB.out | apply below_alloc | apply pw_below_drewN | apply below_drew1 | refine below_set ?_ (Aside0.out (by assumption))) | exact HB.out)) hb); (try clear hb); (try clear hb2); (try clear hk); (try clear hi)) | ((with_reducible refine gate_callee (f := 26) rfl ?_); refine goesL_ (some 71) rfl rfl Try.func26 (by kernel_rfl) rfl #[.agg #[.int .u64 1, .int .u64 0], .agg #[.int .u64 t588, .int .u64 t589]] rfl (by (try simp only [List.map_toArray, List.map_cons, List.map_nil]); first | done | rfl | (simp only [List.length_drop, List.length_take]; rfl)) ?_; (with_reducible refine (wide_Sub.calls 1 0 t588 t589 t590 t591 t592 _ A9.out).mono ?_); rintro e w103 ⟨rfl, hb⟩; refine ⟨_, rfl, ?_⟩; replace BK563 := bb_ BK563 hb; replace BK569 := bb_ BK569 hb; replace BK573 := bb_ BK573 hb; replace BK579 := bb_ BK579 hb; replace BK583 := bb_ BK583 hb; replace BK587 := bb_ BK587 hb; replace HB := Aside0.mk (below_step (by repeat (first | (with_reducible first | exact HB.out | apply below_alloc | apply pw_below_drewN | apply below_drew1 | refine below_set ?_ (Aside0.out (by assumption))) | exact HB.out)) hb); (try clear hb); (try clear hb2); (try clear hk); (try clear hi)) | ((with_reducible refine gate_dst (N := 12) rfl ?_); refine box_event ?hg (N := 12) ?hd (cs := #[.int .u64 0, .int .u64 0]) (t := 46) ?hr ?_; (case hd => rfl); (case hg => rfl); (case hr => first | (go_simp; done) | (go_simp; rfl)); intro gb593 hg w104 hbox hb; have BK593 := Aside0.mk (hbox); have GW593 := Aside0.mk ((by rw [hg]; exact (below_size (by repeat (first | (with_reducible first | exact HB.out | apply below_alloc | apply pw_below_drewN | apply below_drew1 | refine below_set ?_ (Aside0.out (by assumption))) | exact HB.out))) : w.heap.size ≤ gb593)); have GE593 := GW593; have NB563_593 := bn_ BK563 hg; have NB593_563 := bm_ BK563 hg; have NB569_593 := bn_ BK569 hg; have NB593_569 := bm_ BK569 hg; have NB573_593 := bn_ BK573 hg; have NB593_573 := bm_ BK573 hg; have NB579_593 := bn_ BK579 hg; have NB593_579 := bm_ BK579 hg; have NB583_593 := bn_ BK583 hg; have NB593_583 := bm_ BK583 hg; have NB587_593 := bn_ BK587 hg; have NB593_587 := bm_ BK587 hg; replace BK563 := bb_ BK563 hb; replace BK569 := bb_ BK569 hb; replace BK573 := bb_ BK573 hb; replace BK579 := bb_ BK579 hb; replace BK583 := bb_ BK583 hb; replace BK587 := bb_ BK587 hb; replace HB := Aside0.mk (below_step (by repeat (first | (with_reducible first | exact HB.out | apply below_alloc | apply pw_below_drewN | apply below_drew1 | refine below_set ?_ (Aside0.out (by assumption))) | exact HB.out)) hb); clear hb hbox hg; have hnb105 := NB593_563.out; have hnc105 := NB563_593.out; have hnb106 := NB593_569.out; have hnc106 := NB569_593.out; have hnb107 := NB593_573.out; have hnc107 := NB573_593.out; have hnb108 := NB593_579.out; have hnc108 := NB579_593.out; have hnb109 := NB593_583.out; have hnc109 := NB583_593.out; have hnb110 := NB593_587.out; have hnc110 := NB587_593.out; have hcz111_0 : w104.cell? ⟨gb593, 0, none⟩ = some (.int .u64 0) := (blk_cell BK593.out 0).trans rfl; have hcz111_1 : w104.cell? ⟨gb593, 1, none⟩ = some (.int .u64 0) := (blk_cell BK593.out 1).trans rfl; have hfz111_0 := blk_frozen BK593.out 0; have hfz111_1 := blk_frozen BK593.out 1) | ((with_reducible refine gate_callee (f := 28) rfl ?_); refine goesL_ (some 76) rfl rfl Try.func28 (by kernel_rfl) rfl #[.agg #[.int .u64 1, .int .u64 0]] rfl (by (try simp only [List.map_toArray, List.map_cons, List.map_nil]); first | done | rfl | (simp only [List.length_drop, List.length_take]; rfl)) ?_; (with_reducible refine (wide_Small.calls 1 0 t594 t595 _ A10.out).mono ?_); rintro e w112 ⟨rfl, hb⟩; refine ⟨_, rfl, ?_⟩; replace BK563 := Aside0.mk (blk_below (g := gb563) (o := .cells #[.int .u64 18446744073709551615, .int .u64 18446744073709551615] 46 (0, 0)) (by (with_reducible repeat (first | refine blk_drewN ?_ _ | refine blk_drew ?_ | refine blk_alloc ?_ _)); refine blk_far ?_ NB563_593.out _; (with_reducible repeat (first | refine blk_drewN ?_ _ | refine blk_drew ?_ | refine blk_alloc ?_ _)); refine blk_far ?_ NB563_593.out _; (with_reducible repeat (first | refine blk_drewN ?_ _ | refine blk_drew ?_ | refine blk_alloc ?_ _)); exact BK563.out) hb); replace BK569 := Aside0.mk (blk_below (g := gb569) (o := .cells #[.int .u64 t566, .int .u64 t567] 46 (0, 0)) (by (with_reducible repeat (first | refine blk_drewN ?_ _ | refine blk_drew ?_ | refine blk_alloc ?_ _)); refine blk_far ?_ NB569_593.out _; (with_reducible repeat (first | refine blk_drewN ?_ _ | refine blk_drew ?_ | refine blk_alloc ?_ _)); refine blk_far ?_ NB569_593.out _; (with_reducible repeat (first | refine blk_drewN ?_ _ | refine blk_drew ?_ | refine blk_alloc ?_ _)); exact BK569.out) hb); replace BK573 := Aside0.mk (blk_below (g := gb573) (o := .cells #[.int .u64 t570, .int .u64 t571] 46 (0, 0)) (by (with_reducible repeat (first | refine blk_drewN ?_ _ | refine blk_drew ?_ | refine blk_alloc ?_ _)); refine blk_far ?_ NB573_593.out _; (with_reducible repeat (first | refine blk_drewN ?_ _ | refine blk_drew ?_ | refine blk_alloc ?_ _)); refine blk_far ?_ NB573_593.out _; (with_reducible repeat (first | refine blk_drewN ?_ _ | refine blk_drew ?_ | refine blk_alloc ?_ _)); exact BK573.out) hb); replace BK579 := Aside0.mk (blk_below (g := gb579) (o := .cells #[.int .u64 t576, .int .u64 t577] 46 (0, 0)) (by (with_reducible repeat (first | refine blk_drewN ?_ _ | refine blk_drew ?_ | refine blk_alloc ?_ _)); refine blk_far ?_ NB579_593.out _; (with_reducible repeat (first | refine blk_drewN ?_ _ | refine blk_drew ?_ | refine blk_alloc ?_ _)); refine blk_far ?_ NB579_593.out _; (with_reducible repeat (first | refine blk_drewN ?_ _ | refine blk_drew ?_ | refine blk_alloc ?_ _)); exact BK579.out) hb); replace BK583 := Aside0.mk (blk_below (g := gb583) (o := .cells #[.int .u64 t580, .int .u64 t581] 46 (0, 0)) (by (with_reducible repeat (first | refine blk_drewN ?_ _ | refine blk_drew ?_ | refine blk_alloc ?_ _)); refine blk_far ?_ NB583_593.out _; (with_reducible repeat (first | refine blk_drewN ?_ _ | refine blk_drew ?_ | refine blk_alloc ?_ _)); refine blk_far ?_ NB583_593.out _; (with_reducible repeat (first | refine blk_drewN ?_ _ | refine blk_drew ?_ | refine blk_alloc ?_ _)); exact BK583.out) hb); replace BK587 := Aside0.mk (blk_below (g := gb587) (o := .cells #[.int .u64 t584, .int .u64 t585] 46 (0, 0)) (by (with_reducible repeat (first | refine blk_drewN ?_ _ | refine blk_drew ?_ | refine blk_alloc ?_ _)); refine blk_far ?_ NB587_593.out _; (with_reducible repeat (first | refine blk_drewN ?_ _ | refine blk_drew ?_ | refine blk_alloc ?_ _)); refine blk_far ?_ NB587_593.out _; (with_reducible repeat (first | refine blk_drewN ?_ _ | refine blk_drew ?_ | refine blk_alloc ?_ _)); exact BK587.out) hb); replace BK593 := Aside0.mk (blk_below (g := gb593) (o := .cells #[.int .u64 t590, .int .u64 t591] 46 (0, 0)) (by (with_reducible repeat (first | refine blk_drewN ?_ _ | refine blk_drew ?_ | refine blk_alloc ?_ _)); refine blk_put (cs := #[.int .u64 t590, .int .u64 0]) ?_ 1 _ rfl; (with_reducible repeat (first | refine blk_drewN ?_ _ | refine blk_drew ?_ | refine blk_alloc ?_ _)); refine blk_put (cs := #[.int .u64 0, .int .u64 0]) ?_ 0 _ rfl; (with_reducible repeat (first | refine blk_drewN ?_ _ | refine blk_drew ?_ | refine blk_alloc ?_ _)); exact BK593.out) hb); replace HB := Aside0.mk (below_step (by repeat (first | (with_reducible first | exact HB.out | apply below_alloc | apply pw_below_drewN | apply below_drew1 | refine below_set ?_ (Aside0.out (by assumption))) | exact HB.out)) hb); (try clear hb); (try clear hb2); (try clear hk); (try clear hi)) | ((with_reducible refine gate_callee (f := 32) rfl ?_); refine goesL_ (some 80) rfl rfl Try.func32 (by kernel_rfl) rfl #[.int .u64 18446744073709551615] rfl (by (try simp only [List.map_toArray, List.map_cons, List.map_nil]); first | done | rfl | (simp only [List.length_drop, List.length_take]; rfl)) ?_; (with_reducible refine (wide_Of.calls 18446744073709551615 t596 t597 _ A11.out).mono ?_); rintro e w113 ⟨rfl, hb⟩; refine ⟨_, rfl, ?_⟩; replace BK563 := bb_ BK563 hb; replace BK569 := bb_ BK569 hb; replace BK573 := bb_ BK573 hb; replace BK579 := bb_ BK579 hb; replace BK583 := bb_ BK583 hb; replace BK587 := bb_ BK587 hb; replace BK593 := bb_ BK593 hb; replace HB := Aside0.mk (below_step (by repeat (first | (with_reducible first | exact HB.out | apply below_alloc | apply pw_below_drewN | apply below_drew1 | refine below_set ?_ (Aside0.out (by assumption))) | exact HB.out)) hb); (try clear hb); (try clear hb2); (try clear hk); (try clear hi)) | ((with_reducible refine gate_callee (f := 28) rfl ?_); refine goesL_ (some 81) rfl rfl Try.func28 (by kernel_rfl) rfl #[.agg #[.int .u64 t596, .int .u64 t597]] rfl (by (try simp only [List.map_toArray, List.map_cons, List.map_nil]); first | done | rfl | (simp only [List.length_drop, List.length_take]; rfl)) ?_; (with_reducible refine (wide_Small.calls t596 t597 t598 t599 _ A12.out).mono ?_); rintro e w114 ⟨rfl, hb⟩; refine ⟨_, rfl, ?_⟩; replace BK563 := bb_ BK563 hb; replace BK569 := bb_ BK569 hb; replace BK573 := bb_ BK573 hb; replace BK579 := bb_ BK579 hb; replace BK583 := bb_ BK583 hb; replace BK587 := bb_ BK587 hb; replace BK593 := bb_ BK593 hb; replace HB := Aside0.mk (below_step (by repeat (first | (with_reducible first | exact HB.out | apply below_alloc | apply pw_below_drewN | apply below_drew1 | refine below_set ?_ (Aside0.out (by assumption))) | exact HB.out)) hb); (try clear hb); (try clear hb2); (try clear hk); (try clear hi); have hcz115_0 : w114.cell? ⟨gb563, 0, none⟩ = some (.int .u64 18446744073709551615) := (blk_cell BK563.out 0).trans rfl; have hcz115_1 : w114.cell? ⟨gb563, 1, none⟩ = some (.int .u64 18446744073709551615) := (blk_cell BK563.out 1).trans rfl; have hfz115_0 := blk_frozen BK563.out 0; have hfz115_1 := blk_frozen BK563.out 1) | ((with_reducible refine gate_callee (f := 33) rfl ?_); refine goesL_ (some 86) rfl rfl Try.func33 (by kernel_rfl) rfl #[.agg #[.int .u64 18446744073709551615, .int .u64 18446744073709551615], .int .u64 0] rfl (by (try simp only [List.map_toArray, List.map_cons, List.map_nil]); first | done | rfl | (simp only [List.length_drop, List.length_take]; rfl)) ?_; (with_reducible refine (wide_Div.calls k 18446744073709551615 18446744073709551615 0 t600 t601 t602 t603 _ A13.out).mono ?_); rintro e w116 ⟨rfl, hb⟩; refine ⟨_, rfl, ?_⟩; replace BK563 := bb_ BK563 hb; replace BK569 := bb_ BK569 hb; replace BK573 := bb_ BK573 hb; replace BK579 := bb_ BK579 hb; replace BK583 := bb_ BK583 hb; replace BK587 := bb_ BK587 hb; replace BK593 := bb_ BK593 hb; replace HB := Aside0.mk (below_step (by repeat (first | (with_reducible first | exact HB.out | apply below_alloc | apply pw_below_drewN | apply below_drew1 | refine below_set ?_ (Aside0.out (by assumption))) | exact HB.out)) hb); (try clear hb); (try clear hb2); (try clear hk); (try clear hi)) | ((with_reducible refine gate_dst (N := 18) rfl ?_); refine box_event ?hg (N := 18) ?hd (cs := #[.int .u64 0, .int .u64 0]) (t := 46) ?hr ?_; (case hd => rfl); (case hg => rfl); (case hr => first | (go_simp; done) | (go_simp; rfl)); intro gb604 hg w117 hbox hb; have BK604 := Aside0.mk (hbox); have GW604 := Aside0.mk ((by rw [hg]; exact (below_size (by repeat (first | (with_reducible first | exact HB.out | apply below_alloc | apply pw_below_drewN | apply below_drew1 | refine below_set ?_ (Aside0.out (by assumption))) | exact HB.out))) : w.heap.size ≤ gb604)); have GE604 := GW604; have NB563_604 := bn_ BK563 hg; have NB604_563 := bm_ BK563 hg; have NB569_604 := bn_ BK569 hg; have NB604_569 := bm_ BK569 hg; have NB573_604 := bn_ BK573 hg; have NB604_573 := bm_ BK573 hg; have NB579_604 := bn_ BK579 hg; have NB604_579 := bm_ BK579 hg; have NB583_604 := bn_ BK583 hg; have NB604_583 := bm_ BK583 hg; have NB587_604 := bn_ BK587 hg; have NB604_587 := bm_ BK587 hg; have NB593_604 := bn_ BK593 hg; have NB604_593 := bm_ BK593 hg; replace BK563 := bb_ BK563 hb; replace BK569 := bb_ BK569 hb; replace BK573 := bb_ BK573 hb; replace BK579 := bb_ BK579 hb; replace BK583 := bb_ BK583 hb; replace BK587 := bb_ BK587 hb; replace BK593 := bb_ BK593 hb; replace HB := Aside0.mk (below_step (by repeat (first | (with_reducible first | exact HB.out | apply below_alloc | apply pw_below_drewN | apply below_drew1 | refine below_set ?_ (Aside0.out (by assumption))) | exact HB.out)) hb); clear hb hbox hg; have hnb118 := NB604_563.out; have hnc118 := NB563_604.out; have hnb119 := NB604_569.out; have hnc119 := NB569_604.out; have hnb120 := NB604_573.out; have hnc120 := NB573_604.out; have hnb121 := NB604_579.out; have hnc121 := NB579_604.out; have hnb122 := NB604_583.out; have hnc122 := NB583_604.out; have hnb123 := NB604_587.out; have hnc123 := NB587_604.out; have hnb124 := NB604_593.out; have hnc124 := NB593_604.out; have hcz125_0 : w117.cell? ⟨gb604, 0, none⟩ = some (.int .u64 0) := (blk_cell BK604.out 0).trans rfl; have hcz125_1 : w117.cell? ⟨gb604, 1, none⟩ = some (.int .u64 0) := (blk_cell BK604.out 1).trans rfl; have hfz125_0 := blk_frozen BK604.out 0; have hfz125_1 := blk_frozen BK604.out 1) | ((with_reducible refine gate_callee (f := 32) rfl ?_); refine goesL_ (some 91) rfl rfl Try.func32 (by kernel_rfl) rfl #[.int .u64 0] rfl (by (try simp only [List.map_toArray, List.map_cons, List.map_nil]); first | done | rfl | (simp only [List.length_drop, List.length_take]; rfl)) ?_; (with_reducible refine (wide_Of.calls 0 t605 t606 _ A14.out).mono ?_); rintro e w126 ⟨rfl, hb⟩; refine ⟨_, rfl, ?_⟩; replace BK563 := Aside0.mk (blk_below (g := gb563) (o := .cells #[.int .u64 18446744073709551615, .int .u64 18446744073709551615] 46 (0, 0)) (by (with_reducible repeat (first | refine blk_drewN ?_ _ | refine blk_drew ?_ | refine blk_alloc ?_ _)); refine blk_far ?_ NB563_604.out _; (with_reducible repeat (first | refine blk_drewN ?_ _ | refine blk_drew ?_ | refine blk_alloc ?_ _)); refine blk_far ?_ NB563_604.out _; (with_reducible repeat (first | refine blk_drewN ?_ _ | refine blk_drew ?_ | refine blk_alloc ?_ _)); exact BK563.out) hb); replace BK569 := Aside0.mk (blk_below (g := gb569) (o := .cells #[.int .u64 t566, .int .u64 t567] 46 (0, 0)) (by (with_reducible repeat (first | refine blk_drewN ?_ _ | refine blk_drew ?_ | refine blk_alloc ?_ _)); refine blk_far ?_ NB569_604.out _; (with_reducible repeat (first | refine blk_drewN ?_ _ | refine blk_drew ?_ | refine blk_alloc ?_ _)); refine blk_far ?_ NB569_604.out _; (with_reducible repeat (first | refine blk_drewN ?_ _ | refine blk_drew ?_ | refine blk_alloc ?_ _)); exact BK569.out) hb); replace BK573 := Aside0.mk (blk_below (g := gb573) (o := .cells #[.int .u64 t570, .int .u64 t571] 46 (0, 0)) (by (with_reducible repeat (first | refine blk_drewN ?_ _ | refine blk_drew ?_ | refine blk_alloc ?_ _)); refine blk_far ?_ NB573_604.out _; (with_reducible repeat (first | refine blk_drewN ?_ _ | refine blk_drew ?_ | refine blk_alloc ?_ _)); refine blk_far ?_ NB573_604.out _; (with_reducible repeat (first | refine blk_drewN ?_ _ | refine blk_drew ?_ | refine blk_alloc ?_ _)); exact BK573.out) hb); replace BK579 := Aside0.mk (blk_below (g := gb579) (o := .cells #[.int .u64 t576, .int .u64 t577] 46 (0, 0)) (by (with_reducible repeat (first | refine blk_drewN ?_ _ | refine blk_drew ?_ | refine blk_alloc ?_ _)); refine blk_far ?_ NB579_604.out _; (with_reducible repeat (first | refine blk_drewN ?_ _ | refine blk_drew ?_ | refine blk_alloc ?_ _)); refine blk_far ?_ NB579_604.out _; (with_reducible repeat (first | refine blk_drewN ?_ _ | refine blk_drew ?_ | refine blk_alloc ?_ _)); exact BK579.out) hb); replace BK583 := Aside0.mk (blk_below (g := gb583) (o := .cells #[.int .u64 t580, .int .u64 t581] 46 (0, 0)) (by (with_reducible repeat (first | refine blk_drewN ?_ _ | refine blk_drew ?_ | refine blk_alloc ?_ _)); refine blk_far ?_ NB583_604.out _; (with_reducible repeat (first | refine blk_drewN ?_ _ | refine blk_drew ?_ | refine blk_alloc ?_ _)); refine blk_far ?_ NB583_604.out _; (with_reducible repeat (first | refine blk_drewN ?_ _ | refine blk_drew ?_ | refine blk_alloc ?_ _)); exact BK583.out) hb); replace BK587 := Aside0.mk (blk_below (g := gb587) (o := .cells #[.int .u64 t584, .int .u64 t585] 46 (0, 0)) (by (with_reducible repeat (first | refine blk_drewN ?_ _ | refine blk_drew ?_ | refine blk_alloc ?_ _)); refine blk_far ?_ NB587_604.out _; (with_reducible repeat (first | refine blk_drewN ?_ _ | refine blk_drew ?_ | refine blk_alloc ?_ _)); refine blk_far ?_ NB587_604.out _; (with_reducible repeat (first | refine blk_drewN ?_ _ | refine blk_drew ?_ | refine blk_alloc ?_ _)); exact BK587.out) hb); replace BK593 := Aside0.mk (blk_below (g := gb593) (o := .cells #[.int .u64 t590, .int .u64 t591] 46 (0, 0)) (by (with_reducible repeat (first | refine blk_drewN ?_ _ | refine blk_drew ?_ | refine blk_alloc ?_ _)); refine blk_far ?_ NB593_604.out _; (with_reducible repeat (first | refine blk_drewN ?_ _ | refine blk_drew ?_ | refine blk_alloc ?_ _)); refine blk_far ?_ NB593_604.out _; (with_reducible repeat (first | refine blk_drewN ?_ _ | refine blk_drew ?_ | refine blk_alloc ?_ _)); exact BK593.out) hb); replace BK604 := Aside0.mk (blk_below (g := gb604) (o := .cells #[.int .u64 t600, .int .u64 t601] 46 (0, 0)) (by (with_reducible repeat (first | refine blk_drewN ?_ _ | refine blk_drew ?_ | refine blk_alloc ?_ _)); refine blk_put (cs := #[.int .u64 t600, .int .u64 0]) ?_ 1 _ rfl; (with_reducible repeat (first | refine blk_drewN ?_ _ | refine blk_drew ?_ | refine blk_alloc ?_ _)); refine blk_put (cs := #[.int .u64 0, .int .u64 0]) ?_ 0 _ rfl; (with_reducible repeat (first | refine blk_drewN ?_ _ | refine blk_drew ?_ | refine blk_alloc ?_ _)); exact BK604.out) hb); replace HB := Aside0.mk (below_step (by repeat (first | (with_reducible first | exact HB.out | apply below_alloc | apply pw_below_drewN | apply below_drew1 | refine below_set ?_ (Aside0.out (by assumption))) | exact HB.out)) hb); (try clear hb); (try clear hb2); (try clear hk); (try clear hi)) | ((with_reducible refine gate_callee (f := 35) rfl ?_); refine goesL_ (some 92) rfl rfl Try.func35 (by kernel_rfl) rfl #[.agg #[.int .u64 t605, .int .u64 t606], .int .u64 0] rfl (by (try simp only [List.map_toArray, List.map_cons, List.map_nil]); first | done | rfl | (simp only [List.length_drop, List.length_take]; rfl)) ?_; (with_reducible refine (wide_Up.calls k t605 t606 0 t607 t608 t609 _ A15.out).mono ?_); rintro e w127 ⟨rfl, hb⟩; refine ⟨_, rfl, ?_⟩; replace BK563 := bb_ BK563 hb; replace BK569 := bb_ BK569 hb; replace BK573 := bb_ BK573 hb; replace BK579 := bb_ BK579 hb; replace BK583 := bb_ BK583 hb; replace BK587 := bb_ BK587 hb; replace BK593 := bb_ BK593 hb; replace BK604 := bb_ BK604 hb; replace HB := Aside0.mk (below_step (by repeat (first | (with_reducible first | exact HB.out | apply below_alloc | apply pw_below_drewN | apply below_drew1 | refine below_set ?_ (Aside0.out (by assumption))) | exact HB.out)) hb); (try clear hb); (try clear hb2); (try clear hk); (try clear hi)) | ((with_reducible refine gate_dst (N := 21) rfl ?_); refine box_event ?hg (N := 21) ?hd (cs := #[.int .u64 0, .int .u64 0]) (t := 46) ?hr ?_; (case hd => rfl); (case hg => rfl); (case hr => first | (go_simp; done) | (go_simp; rfl)); intro gb610 hg w128 hbox hb; have BK610 := Aside0.mk (hbox); have GW610 := Aside0.mk ((by rw [hg]; exact (below_size (by repeat (first | (with_reducible first | exact HB.out | apply below_alloc | apply pw_below_drewN | apply below_drew1 | refine below_set ?_ (Aside0.out (by assumption))) | exact HB.out))) : w.heap.size ≤ gb610)); have GE610 := GW610; have NB563_610 := bn_ BK563 hg; have NB610_563 := bm_ BK563 hg; have NB569_610 := bn_ BK569 hg; have NB610_569 := bm_ BK569 hg; have NB573_610 := bn_ BK573 hg; have NB610_573 := bm_ BK573 hg; have NB579_610 := bn_ BK579 hg; have NB610_579 := bm_ BK579 hg; have NB583_610 := bn_ BK583 hg; have NB610_583 := bm_ BK583 hg; have NB587_610 := bn_ BK587 hg; have NB610_587 := bm_ BK587 hg; have NB593_610 := bn_ BK593 hg; have NB610_593 := bm_ BK593 hg; have NB604_610 := bn_ BK604 hg; have NB610_604 := bm_ BK604 hg; replace BK563 := bb_ BK563 hb; replace BK569 := bb_ BK569 hb; replace BK573 := bb_ BK573 hb; replace BK579 := bb_ BK579 hb; replace BK583 := bb_ BK583 hb; replace BK587 := bb_ BK587 hb; replace BK593 := bb_ BK593 hb; replace BK604 := bb_ BK604 hb; replace HB := Aside0.mk (below_step (by repeat (first | (with_reducible first | exact HB.out | apply below_alloc | apply pw_below_drewN | apply below_drew1 | refine below_set ?_ (Aside0.out (by assumption))) | exact HB.out)) hb); clear hb hbox hg; have hnb129 := NB610_563.out; have hnc129 := NB563_610.out; have hnb130 := NB610_569.out; have hnc130 := NB569_610.out; have hnb131 := NB610_573.out; have hnc131 := NB573_610.out; have hnb132 := NB610_579.out; have hnc132 := NB579_610.out; have hnb133 := NB610_583.out; have hnc133 := NB583_610.out; have hnb134 := NB610_587.out; have hnc134 := NB587_610.out; have hnb135 := NB610_593.out; have hnc135 := NB593_610.out; have hnb136 := NB610_604.out; have hnc136 := NB604_610.out; have hcz137_0 : w128.cell? ⟨gb610, 0, none⟩ = some (.int .u64 0) := (blk_cell BK610.out 0).trans rfl; have hcz137_1 : w128.cell? ⟨gb610, 1, none⟩ = some (.int .u64 0) := (blk_cell BK610.out 1).trans rfl; have hfz137_0 := blk_frozen BK610.out 0; have hfz137_1 := blk_frozen BK610.out 1; have hcz138_0 : w128.cell? ⟨gb563, 0, none⟩ = some (.int .u64 18446744073709551615) := (blk_cell BK563.out 0).trans rfl; have hcz138_1 : w128.cell? ⟨gb563, 1, none⟩ = some (.int .u64 18446744073709551615) := (blk_cell BK563.out 1).trans rfl; have hfz138_0 := blk_frozen BK563.out 0; have hfz138_1 := blk_frozen BK563.out 1) | ((with_reducible refine gate_callee (f := 33) rfl ?_); refine goesL_ (some 97) rfl rfl Try.func33 (by kernel_rfl) rfl #[.agg #[.int .u64 18446744073709551615, .int .u64 18446744073709551615], .int .u64 1] rfl (by (try simp only [List.map_toArray, List.map_cons, List.map_nil]); first | done | rfl | (simp only [List.length_drop, List.length_take]; rfl)) ?_; (with_reducible refine (wide_Div.calls k 18446744073709551615 18446744073709551615 1 t611 t612 t613 t614 _ A16.out).mono ?_); rintro e w139 ⟨rfl, hb⟩; refine ⟨_, rfl, ?_⟩; replace BK563 := Aside0.mk (blk_below (g := gb563) (o := .cells #[.int .u64 18446744073709551615, .int .u64 18446744073709551615] 46 (0, 0)) (by (with_reducible repeat (first | refine blk_drewN ?_ _ | refine blk_drew ?_ | refine blk_alloc ?_ _)); refine blk_far ?_ NB563_610.out _; (with_reducible repeat (first | refine blk_drewN ?_ _ | refine blk_drew ?_ | refine blk_alloc ?_ _)); refine blk_far ?_ NB563_610.out _; (with_reducible repeat (first | refine blk_drewN ?_ _ | refine blk_drew ?_ | refine blk_alloc ?_ _)); exact BK563.out) hb); replace BK569 := Aside0.mk (blk_below (g := gb569) (o := .cells #[.int .u64 t566, .int .u64 t567] 46 (0, 0)) (by (with_reducible repeat (first | refine blk_drewN ?_ _ | refine blk_drew ?_ | refine blk_alloc ?_ _)); refine blk_far ?_ NB569_610.out _; (with_reducible repeat (first | refine blk_drewN ?_ _ | refine blk_drew ?_ | refine blk_alloc ?_ _)); refine blk_far ?_ NB569_610.out _; (with_reducible repeat (first | refine blk_drewN ?_ _ | refine blk_drew ?_ | refine blk_alloc ?_ _)); exact BK569.out) hb); replace BK573 := Aside0.mk (blk_below (g := gb573) (o := .cells #[.int .u64 t570, .int .u64 t571] 46 (0, 0)) (by (with_reducible repeat (first | refine blk_drewN ?_ _ | refine blk_drew ?_ | refine blk_alloc ?_ _)); refine blk_far ?_ NB573_610.out _; (with_reducible repeat (first | refine blk_drewN ?_ _ | refine blk_drew ?_ | refine blk_alloc ?_ _)); refine blk_far ?_ NB573_610.out _; (with_reducible repeat (first | refine blk_drewN ?_ _ | refine blk_drew ?_ | refine blk_alloc ?_ _)); exact BK573.out) hb); replace BK579 := Aside0.mk (blk_below (g := gb579) (o := .cells #[.int .u64 t576, .int .u64 t577] 46 (0, 0)) (by (with_reducible repeat (first | refine blk_drewN ?_ _ | refine blk_drew ?_ | refine blk_alloc ?_ _)); refine blk_far ?_ NB579_610.out _; (with_reducible repeat (first | refine blk_drewN ?_ _ | refine blk_drew ?_ | refine blk_alloc ?_ _)); refine blk_far ?_ NB579_610.out _; (with_reducible repeat (first | refine blk_drewN ?_ _ | refine blk_drew ?_ | refine blk_alloc ?_ _)); exact BK579.out) hb); replace BK583 := Aside0.mk (blk_below (g := gb583) (o := .cells #[.int .u64 t580, .int .u64 t581] 46 (0, 0)) (by (with_reducible repeat (first | refine blk_drewN ?_ _ | refine blk_drew ?_ | refine blk_alloc ?_ _)); refine blk_far ?_ NB583_610.out _; (with_reducible repeat (first | refine blk_drewN ?_ _ | refine blk_drew ?_ | refine blk_alloc ?_ _)); refine blk_far ?_ NB583_610.out _; (with_reducible repeat (first | refine blk_drewN ?_ _ | refine blk_drew ?_ | refine blk_alloc ?_ _)); exact BK583.out) hb); replace BK587 := Aside0.mk (blk_below (g := gb587) (o := .cells #[.int .u64 t584, .int .u64 t585] 46 (0, 0)) (by (with_reducible repeat (first | refine blk_drewN ?_ _ | refine blk_drew ?_ | refine blk_alloc ?_ _)); refine blk_far ?_ NB587_610.out _; (with_reducible repeat (first | refine blk_drewN ?_ _ | refine blk_drew ?_ | refine blk_alloc ?_ _)); refine blk_far ?_ NB587_610.out _; (with_reducible repeat (first | refine blk_drewN ?_ _ | refine blk_drew ?_ | refine blk_alloc ?_ _)); exact BK587.out) hb); replace BK593 := Aside0.mk (blk_below (g := gb593) (o := .cells #[.int .u64 t590, .int .u64 t591] 46 (0, 0)) (by (with_reducible repeat (first | refine blk_drewN ?_ _ | refine blk_drew ?_ | refine blk_alloc ?_ _)); refine blk_far ?_ NB593_610.out _; (with_reducible repeat (first | refine blk_drewN ?_ _ | refine blk_drew ?_ | refine blk_alloc ?_ _)); refine blk_far ?_ NB593_610.out _; (with_reducible repeat (first | refine blk_drewN ?_ _ | refine blk_drew ?_ | refine blk_alloc ?_ _)); exact BK593.out) hb); replace BK604 := Aside0.mk (blk_below (g := gb604) (o := .cells #[.int .u64 t600, .int .u64 t601] 46 (0, 0)) (by (with_reducible repeat (first | refine blk_drewN ?_ _ | refine blk_drew ?_ | refine blk_alloc ?_ _)); refine blk_far ?_ NB604_610.out _; (with_reducible repeat (first | refine blk_drewN ?_ _ | refine blk_drew ?_ | refine blk_alloc ?_ _)); refine blk_far ?_ NB604_610.out _; (with_reducible repeat (first | refine blk_drewN ?_ _ | refine blk_drew ?_ | refine blk_alloc ?_ _)); exact BK604.out) hb); replace BK610 := Aside0.mk (blk_below (g := gb610) (o := .cells #[.int .u64 t607, .int .u64 t608] 46 (0, 0)) (by (with_reducible repeat (first | refine blk_drewN ?_ _ | refine blk_drew ?_ | refine blk_alloc ?_ _)); refine blk_put (cs := #[.int .u64 t607, .int .u64 0]) ?_ 1 _ rfl; (with_reducible repeat (first | refine blk_drewN ?_ _ | refine blk_drew ?_ | refine blk_alloc ?_ _)); refine blk_put (cs := #[.int .u64 0, .int .u64 0]) ?_ 0 _ rfl; (with_reducible repeat (first | refine blk_drewN ?_ _ | refine blk_drew ?_ | refine blk_alloc ?_ _)); exact BK610.out) hb); replace HB := Aside0.mk (below_step (by repeat (first | (with_reducible first | exact HB.out | apply below_alloc | apply pw_below_drewN | apply below_drew1 | refine below_set ?_ (Aside0.out (by assumption))) | exact HB.out)) hb); (try clear hb); (try clear hb2); (try clear hk); (try clear hi)) | ((with_reducible refine gate_dst (N := 23) rfl ?_); refine box_event ?hg (N := 23) ?hd (cs := #[.int .u64 0, .int .u64 0]) (t := 46) ?hr ?_; (case hd => rfl); (case hg => rfl); (case hr => first | (go_simp; done) | (go_simp; rfl)); intro gb615 hg w140 hbox hb; have BK615 := Aside0.mk (hbox); have GW615 := Aside0.mk ((by rw [hg]; exact (below_size (by repeat (first | (with_reducible first | exact HB.out | apply below_alloc | apply pw_below_drewN | apply below_drew1 | refine below_set ?_ (Aside0.out (by assumption))) | exact HB.out))) : w.heap.size ≤ gb615)); have GE615 := GW615; have NB563_615 := bn_ BK563 hg; have NB615_563 := bm_ BK563 hg; have NB569_615 := bn_ BK569 hg; have NB615_569 := bm_ BK569 hg; have NB573_615 := bn_ BK573 hg; have NB615_573 := bm_ BK573 hg; have NB579_615 := bn_ BK579 hg; have NB615_579 := bm_ BK579 hg; have NB583_615 := bn_ BK583 hg; have NB615_583 := bm_ BK583 hg; have NB587_615 := bn_ BK587 hg; have NB615_587 := bm_ BK587 hg; have NB593_615 := bn_ BK593 hg; have NB615_593 := bm_ BK593 hg; have NB604_615 := bn_ BK604 hg; have NB615_604 := bm_ BK604 hg; have NB610_615 := bn_ BK610 hg; have NB615_610 := bm_ BK610 hg; replace BK563 := bb_ BK563 hb; replace BK569 := bb_ BK569 hb; replace BK573 := bb_ BK573 hb; replace BK579 := bb_ BK579 hb; replace BK583 := bb_ BK583 hb; replace BK587 := bb_ BK587 hb; replace BK593 := bb_ BK593 hb; replace BK604 := bb_ BK604 hb; replace BK610 := bb_ BK610 hb; replace HB := Aside0.mk (below_step (by repeat (first | (with_reducible first | exact HB.out | apply below_alloc | apply pw_below_drewN | apply below_drew1 | refine below_set ?_ (Aside0.out (by assumption))) | exact HB.out)) hb); clear hb hbox hg; have hnb141 := NB615_563.out; have hnc141 := NB563_615.out; have hnb142 := NB615_569.out; have hnc142 := NB569_615.out; have hnb143 := NB615_573.out; have hnc143 := NB573_615.out; have hnb144 := NB615_579.out; have hnc144 := NB579_615.out; have hnb145 := NB615_583.out; have hnc145 := NB583_615.out; have hnb146 := NB615_587.out; have hnc146 := NB587_615.out; have hnb147 := NB615_593.out; have hnc147 := NB593_615.out; have hnb148 := NB615_604.out; have hnc148 := NB604_615.out; have hnb149 := NB615_610.out; have hnc149 := NB610_615.out; have hcz150_0 : w140.cell? ⟨gb615, 0, none⟩ = some (.int .u64 0) := (blk_cell BK615.out 0).trans rfl; have hcz150_1 : w140.cell? ⟨gb615, 1, none⟩ = some (.int .u64 0) := (blk_cell BK615.out 1).trans rfl; have hfz150_0 := blk_frozen BK615.out 0; have hfz150_1 := blk_frozen BK615.out 1; have hcz151_0 : w140.cell? ⟨gb563, 0, none⟩ = some (.int .u64 18446744073709551615) := (blk_cell BK563.out 0).trans rfl; have hcz151_1 : w140.cell? ⟨gb563, 1, none⟩ = some (.int .u64 18446744073709551615) := (blk_cell BK563.out 1).trans rfl; have hfz151_0 := blk_frozen BK563.out 0; have hfz151_1 := blk_frozen BK563.out 1) | ((with_reducible refine gate_callee (f := 33) rfl ?_); refine goesL_ (some 103) rfl rfl Try.func33 (by kernel_rfl) rfl #[.agg #[.int .u64 18446744073709551615, .int .u64 18446744073709551615], .int .u64 18446744073709551615] rfl (by (try simp only [List.map_toArray, List.map_cons, List.map_nil]); first | done | rfl | (simp only [List.length_drop, List.length_take]; rfl)) ?_; (with_reducible refine (wide_Div.calls k 18446744073709551615 18446744073709551615 18446744073709551615 t616 t617 t618 t619 _ A17.out).mono ?_); rintro e w152 ⟨rfl, hb⟩; refine ⟨_, rfl, ?_⟩; replace BK563 := Aside0.mk (blk_below (g := gb563) (o := .cells #[.int .u64 18446744073709551615, .int .u64 18446744073709551615] 46 (0, 0)) (by (with_reducible repeat (first | refine blk_drewN ?_ _ | refine blk_drew ?_ | refine blk_alloc ?_ _)); refine blk_far ?_ NB563_615.out _; (with_reducible repeat (first | refine blk_drewN ?_ _ | refine blk_drew ?_ | refine blk_alloc ?_ _)); refine blk_far ?_ NB563_615.out _; (with_reducible repeat (first | refine blk_drewN ?_ _ | refine blk_drew ?_ | refine blk_alloc ?_ _)); exact BK563.out) hb); replace BK569 := Aside0.mk (blk_below (g := gb569) (o := .cells #[.int .u64 t566, .int .u64 t567] 46 (0, 0)) (by (with_reducible repeat (first | refine blk_drewN ?_ _ | refine blk_drew ?_ | refine blk_alloc ?_ _)); refine blk_far ?_ NB569_615.out _; (with_reducible repeat (first | refine blk_drewN ?_ _ | refine blk_drew ?_ | refine blk_alloc ?_ _)); refine blk_far ?_ NB569_615.out _; (with_reducible repeat (first | refine blk_drewN ?_ _ | refine blk_drew ?_ | refine blk_alloc ?_ _)); exact BK569.out) hb); replace BK573 := Aside0.mk (blk_below (g := gb573) (o := .cells #[.int .u64 t570, .int .u64 t571] 46 (0, 0)) (by (with_reducible repeat (first | refine blk_drewN ?_ _ | refine blk_drew ?_ | refine blk_alloc ?_ _)); refine blk_far ?_ NB573_615.out _; (with_reducible repeat (first | refine blk_drewN ?_ _ | refine blk_drew ?_ | refine blk_alloc ?_ _)); refine blk_far ?_ NB573_615.out _; (with_reducible repeat (first | refine blk_drewN ?_ _ | refine blk_drew ?_ | refine blk_alloc ?_ _)); exact BK573.out) hb); replace BK579 := Aside0.mk (blk_below (g := gb579) (o := .cells #[.int .u64 t576, .int .u64 t577] 46 (0, 0)) (by (with_reducible repeat (first | refine blk_drewN ?_ _ | refine blk_drew ?_ | refine blk_alloc ?_ _)); refine blk_far ?_ NB579_615.out _; (with_reducible repeat (first | refine blk_drewN ?_ _ | refine blk_drew ?_ | refine blk_alloc ?_ _)); refine blk_far ?_ NB579_615.out _; (with_reducible repeat (first | refine blk_drewN ?_ _ | refine blk_drew ?_ | refine blk_alloc ?_ _)); exact BK579.out) hb); replace BK583 := Aside0.mk (blk_below (g := gb583) (o := .cells #[.int .u64 t580, .int .u64 t581] 46 (0, 0)) (by (with_reducible repeat (first | refine blk_drewN ?_ _ | refine blk_drew ?_ | refine blk_alloc ?_ _)); refine blk_far ?_ NB583_615.out _; (with_reducible repeat (first | refine blk_drewN ?_ _ | refine blk_drew ?_ | refine blk_alloc ?_ _)); refine blk_far ?_ NB583_615.out _; (with_reducible repeat (first | refine blk_drewN ?_ _ | refine blk_drew ?_ | refine blk_alloc ?_ _)); exact BK583.out) hb); replace BK587 := Aside0.mk (blk_below (g := gb587) (o := .cells #[.int .u64 t584, .int .u64 t585] 46 (0, 0)) (by (with_reducible repeat (first | refine blk_drewN ?_ _ | refine blk_drew ?_ | refine blk_alloc ?_ _)); refine blk_far ?_ NB587_615.out _; (with_reducible repeat (first | refine blk_drewN ?_ _ | refine blk_drew ?_ | refine blk_alloc ?_ _)); refine blk_far ?_ NB587_615.out _; (with_reducible repeat (first | refine blk_drewN ?_ _ | refine blk_drew ?_ | refine blk_alloc ?_ _)); exact BK587.out) hb); replace BK593 := Aside0.mk (blk_below (g := gb593) (o := .cells #[.int .u64 t590, .int .u64 t591] 46 (0, 0)) (by (with_reducible repeat (first | refine blk_drewN ?_ _ | refine blk_drew ?_ | refine blk_alloc ?_ _)); refine blk_far ?_ NB593_615.out _; (with_reducible repeat (first | refine blk_drewN ?_ _ | refine blk_drew ?_ | refine blk_alloc ?_ _)); refine blk_far ?_ NB593_615.out _; (with_reducible repeat (first | refine blk_drewN ?_ _ | refine blk_drew ?_ | refine blk_alloc ?_ _)); exact BK593.out) hb); replace BK604 := Aside0.mk (blk_below (g := gb604) (o := .cells #[.int .u64 t600, .int .u64 t601] 46 (0, 0)) (by (with_reducible repeat (first | refine blk_drewN ?_ _ | refine blk_drew ?_ | refine blk_alloc ?_ _)); refine blk_far ?_ NB604_615.out _; (with_reducible repeat (first | refine blk_drewN ?_ _ | refine blk_drew ?_ | refine blk_alloc ?_ _)); refine blk_far ?_ NB604_615.out _; (with_reducible repeat (first | refine blk_drewN ?_ _ | refine blk_drew ?_ | refine blk_alloc ?_ _)); exact BK604.out) hb); replace BK610 := Aside0.mk (blk_below (g := gb610) (o := .cells #[.int .u64 t607, .int .u64 t608] 46 (0, 0)) (by (with_reducible repeat (first | refine blk_drewN ?_ _ | refine blk_drew ?_ | refine blk_alloc ?_ _)); refine blk_far ?_ NB610_615.out _; (with_reducible repeat (first | refine blk_drewN ?_ _ | refine blk_drew ?_ | refine blk_alloc ?_ _)); refine blk_far ?_ NB610_615.out _; (with_reducible repeat (first | refine blk_drewN ?_ _ | refine blk_drew ?_ | refine blk_alloc ?_ _)); exact BK610.out) hb); replace BK615 := Aside0.mk (blk_below (g := gb615) (o := .cells #[.int .u64 t611, .int .u64 t612] 46 (0, 0)) (by (with_reducible repeat (first | refine blk_drewN ?_ _ | refine blk_drew ?_ | refine blk_alloc ?_ _)); refine blk_put (cs := #[.int .u64 t611, .int .u64 0]) ?_ 1 _ rfl; (with_reducible repeat (first | refine blk_drewN ?_ _ | refine blk_drew ?_ | refine blk_alloc ?_ _)); refine blk_put (cs := #[.int .u64 0, .int .u64 0]) ?_ 0 _ rfl; (with_reducible repeat (first | refine blk_drewN ?_ _ | refine blk_drew ?_ | refine blk_alloc ?_ _)); exact BK615.out) hb); replace HB := Aside0.mk (below_step (by repeat (first | (with_reducible first | exact HB.out | apply below_alloc | apply pw_below_drewN | apply below_drew1 | refine below_set ?_ (Aside0.out (by assumption))) | exact HB.out)) hb); (try clear hb); (try clear hb2); (try clear hk); (try clear hi)) | ((with_reducible refine gate_dst (N := 26) rfl ?_); refine box_event ?hg (N := 26) ?hd (cs := #[.int .u64 0, .int .u64 0]) (t := 46) ?hr ?_; (case hd => rfl); (case hg => rfl); (case hr => first | (go_simp; done) | (go_simp; rfl)); intro gb620 hg w153 hbox hb; have BK620 := Aside0.mk (hbox); have GW620 := Aside0.mk ((by rw [hg]; exact (below_size (by repeat (first | (with_reducible first | exact HB.out | apply below_alloc | apply pw_below_drewN | apply below_drew1 | refine below_set ?_ (Aside0.out (by assumption))) | exact HB.out))) : w.heap.size ≤ gb620)); have GE620 := GW620; have NB563_620 := bn_ BK563 hg; have NB620_563 := bm_ BK563 hg; have NB569_620 := bn_ BK569 hg; have NB620_569 := bm_ BK569 hg; have NB573_620 := bn_ BK573 hg; have NB620_573 := bm_ BK573 hg; have NB579_620 := bn_ BK579 hg; have NB620_579 := bm_ BK579 hg; have NB583_620 := bn_ BK583 hg; have NB620_583 := bm_ BK583 hg; have NB587_620 := bn_ BK587 hg; have NB620_587 := bm_ BK587 hg; have NB593_620 := bn_ BK593 hg; have NB620_593 := bm_ BK593 hg; have NB604_620 := bn_ BK604 hg; have NB620_604 := bm_ BK604 hg; have NB610_620 := bn_ BK610 hg; have NB620_610 := bm_ BK610 hg; have NB615_620 := bn_ BK615 hg; have NB620_615 := bm_ BK615 hg; replace BK563 := bb_ BK563 hb; replace BK569 := bb_ BK569 hb; replace BK573 := bb_ BK573 hb; replace BK579 := bb_ BK579 hb; replace BK583 := bb_ BK583 hb; replace BK587 := bb_ BK587 hb; replace BK593 := bb_ BK593 hb; replace BK604 := bb_ BK604 hb; replace BK610 := bb_ BK610 hb; replace BK615 := bb_ BK615 hb; replace HB := Aside0.mk (below_step (by repeat (first | (with_reducible first | exact HB.out | apply below_alloc | apply pw_below_drewN | apply below_drew1 | refine below_set ?_ (Aside0.out (by assumption))) | exact HB.out)) hb); clear hb hbox hg; have hnb154 := NB620_563.out; have hnc154 := NB563_620.out; have hnb155 := NB620_569.out; have hnc155 := NB569_620.out; have hnb156 := NB620_573.out; have hnc156 := NB573_620.out; have hnb157 := NB620_579.out; have hnc157 := NB579_620.out; have hnb158 := NB620_583.out; have hnc158 := NB583_620.out; have hnb159 := NB620_587.out; have hnc159 := NB587_620.out; have hnb160 := NB620_593.out; have hnc160 := NB593_620.out; have hnb161 := NB620_604.out; have hnc161 := NB604_620.out; have hnb162 := NB620_610.out; have hnc162 := NB610_620.out; have hnb163 := NB620_615.out; have hnc163 := NB615_620.out; have hcz164_0 : w153.cell? ⟨gb620, 0, none⟩ = some (.int .u64 0) := (blk_cell BK620.out 0).trans rfl; have hcz164_1 : w153.cell? ⟨gb620, 1, none⟩ = some (.int .u64 0) := (blk_cell BK620.out 1).trans rfl; have hfz164_0 := blk_frozen BK620.out 0; have hfz164_1 := blk_frozen BK620.out 1; have hcz165_0 : w153.cell? ⟨gb563, 0, none⟩ = some (.int .u64 18446744073709551615) := (blk_cell BK563.out 0).trans rfl; have hcz165_1 : w153.cell? ⟨gb563, 1, none⟩ = some (.int .u64 18446744073709551615) := (blk_cell BK563.out 1).trans rfl; have hfz165_0 := blk_frozen BK563.out 0; have hfz165_1 := blk_frozen BK563.out 1) | ((with_reducible refine gate_callee (f := 35) rfl ?_); refine goesL_ (some 109) rfl rfl Try.func35 (by kernel_rfl) rfl #[.agg #[.int .u64 18446744073709551615, .int .u64 18446744073709551615], .int .u64 18446744073709551615] rfl (by (try simp only [List.map_toArray, List.map_cons, List.map_nil]); first | done | rfl | (simp only [List.length_drop, List.length_take]; rfl)) ?_; (with_reducible refine (wide_Up.calls k 18446744073709551615 18446744073709551615 18446744073709551615 t621 t622 t623 _ A18.out).mono ?_); rintro e w166 ⟨rfl, hb⟩; refine ⟨_, rfl, ?_⟩; replace BK563 := Aside0.mk (blk_below (g := gb563) (o := .cells #[.int .u64 18446744073709551615, .int .u64 18446744073709551615] 46 (0, 0)) (by (with_reducible repeat (first | refine blk_drewN ?_ _ | refine blk_drew ?_ | refine blk_alloc ?_ _)); refine blk_far ?_ NB563_620.out _; (with_reducible repeat (first | refine blk_drewN ?_ _ | refine blk_drew ?_ | refine blk_alloc ?_ _)); refine blk_far ?_ NB563_620.out _; (with_reducible repeat (first | refine blk_drewN ?_ _ | refine blk_drew ?_ | refine blk_alloc ?_ _)); exact BK563.out) hb); replace BK569 := Aside0.mk (blk_below (g := gb569) (o := .cells #[.int .u64 t566, .int .u64 t567] 46 (0, 0)) (by (with_reducible repeat (first | refine blk_drewN ?_ _ | refine blk_drew ?_ | refine blk_alloc ?_ _)); refine blk_far ?_ NB569_620.out _; (with_reducible repeat (first | refine blk_drewN ?_ _ | refine blk_drew ?_ | refine blk_alloc ?_ _)); refine blk_far ?_ NB569_620.out _; (with_reducible repeat (first | refine blk_drewN ?_ _ | refine blk_drew ?_ | refine blk_alloc ?_ _)); exact BK569.out) hb); replace BK573 := Aside0.mk (blk_below (g := gb573) (o := .cells #[.int .u64 t570, .int .u64 t571] 46 (0, 0)) (by (with_reducible repeat (first | refine blk_drewN ?_ _ | refine blk_drew ?_ | refine blk_alloc ?_ _)); refine blk_far ?_ NB573_620.out _; (with_reducible repeat (first | refine blk_drewN ?_ _ | refine blk_drew ?_ | refine blk_alloc ?_ _)); refine blk_far ?_ NB573_620.out _; (with_reducible repeat (first | refine blk_drewN ?_ _ | refine blk_drew ?_ | refine blk_alloc ?_ _)); exact BK573.out) hb); replace BK579 := Aside0.mk (blk_below (g := gb579) (o := .cells #[.int .u64 t576, .int .u64 t577] 46 (0, 0)) (by (with_reducible repeat (first | refine blk_drewN ?_ _ | refine blk_drew ?_ | refine blk_alloc ?_ _)); refine blk_far ?_ NB579_620.out _; (with_reducible repeat (first | refine blk_drewN ?_ _ | refine blk_drew ?_ | refine blk_alloc ?_ _)); refine blk_far ?_ NB579_620.out _; (with_reducible repeat (first | refine blk_drewN ?_ _ | refine blk_drew ?_ | refine blk_alloc ?_ _)); exact BK579.out) hb); replace BK583 := Aside0.mk (blk_below (g := gb583) (o := .cells #[.int .u64 t580, .int .u64 t581] 46 (0, 0)) (by (with_reducible repeat (first | refine blk_drewN ?_ _ | refine blk_drew ?_ | refine blk_alloc ?_ _)); refine blk_far ?_ NB583_620.out _; (with_reducible repeat (first | refine blk_drewN ?_ _ | refine blk_drew ?_ | refine blk_alloc ?_ _)); refine blk_far ?_ NB583_620.out _; (with_reducible repeat (first | refine blk_drewN ?_ _ | refine blk_drew ?_ | refine blk_alloc ?_ _)); exact BK583.out) hb); replace BK587 := Aside0.mk (blk_below (g := gb587) (o := .cells #[.int .u64 t584, .int .u64 t585] 46 (0, 0)) (by (with_reducible repeat (first | refine blk_drewN ?_ _ | refine blk_drew ?_ | refine blk_alloc ?_ _)); refine blk_far ?_ NB587_620.out _; (with_reducible repeat (first | refine blk_drewN ?_ _ | refine blk_drew ?_ | refine blk_alloc ?_ _)); refine blk_far ?_ NB587_620.out _; (with_reducible repeat (first | refine blk_drewN ?_ _ | refine blk_drew ?_ | refine blk_alloc ?_ _)); exact BK587.out) hb); replace BK593 := Aside0.mk (blk_below (g := gb593) (o := .cells #[.int .u64 t590, .int .u64 t591] 46 (0, 0)) (by (with_reducible repeat (first | refine blk_drewN ?_ _ | refine blk_drew ?_ | refine blk_alloc ?_ _)); refine blk_far ?_ NB593_620.out _; (with_reducible repeat (first | refine blk_drewN ?_ _ | refine blk_drew ?_ | refine blk_alloc ?_ _)); refine blk_far ?_ NB593_620.out _; (with_reducible repeat (first | refine blk_drewN ?_ _ | refine blk_drew ?_ | refine blk_alloc ?_ _)); exact BK593.out) hb); replace BK604 := Aside0.mk (blk_below (g := gb604) (o := .cells #[.int .u64 t600, .int .u64 t601] 46 (0, 0)) (by (with_reducible repeat (first | refine blk_drewN ?_ _ | refine blk_drew ?_ | refine blk_alloc ?_ _)); refine blk_far ?_ NB604_620.out _; (with_reducible repeat (first | refine blk_drewN ?_ _ | refine blk_drew ?_ | refine blk_alloc ?_ _)); refine blk_far ?_ NB604_620.out _; (with_reducible repeat (first | refine blk_drewN ?_ _ | refine blk_drew ?_ | refine blk_alloc ?_ _)); exact BK604.out) hb); replace BK610 := Aside0.mk (blk_below (g := gb610) (o := .cells #[.int .u64 t607, .int .u64 t608] 46 (0, 0)) (by (with_reducible repeat (first | refine blk_drewN ?_ _ | refine blk_drew ?_ | refine blk_alloc ?_ _)); refine blk_far ?_ NB610_620.out _; (with_reducible repeat (first | refine blk_drewN ?_ _ | refine blk_drew ?_ | refine blk_alloc ?_ _)); refine blk_far ?_ NB610_620.out _; (with_reducible repeat (first | refine blk_drewN ?_ _ | refine blk_drew ?_ | refine blk_alloc ?_ _)); exact BK610.out) hb); replace BK615 := Aside0.mk (blk_below (g := gb615) (o := .cells #[.int .u64 t611, .int .u64 t612] 46 (0, 0)) (by (with_reducible repeat (first | refine blk_drewN ?_ _ | refine blk_drew ?_ | refine blk_alloc ?_ _)); refine blk_far ?_ NB615_620.out _; (with_reducible repeat (first | refine blk_drewN ?_ _ | refine blk_drew ?_ | refine blk_alloc ?_ _)); refine blk_far ?_ NB615_620.out _; (with_reducible repeat (first | refine blk_drewN ?_ _ | refine blk_drew ?_ | refine blk_alloc ?_ _)); exact BK615.out) hb); replace BK620 := Aside0.mk (blk_below (g := gb620) (o := .cells #[.int .u64 t616, .int .u64 t617] 46 (0, 0)) (by (with_reducible repeat (first | refine blk_drewN ?_ _ | refine blk_drew ?_ | refine blk_alloc ?_ _)); refine blk_put (cs := #[.int .u64 t616, .int .u64 0]) ?_ 1 _ rfl; (with_reducible repeat (first | refine blk_drewN ?_ _ | refine blk_drew ?_ | refine blk_alloc ?_ _)); refine blk_put (cs := #[.int .u64 0, .int .u64 0]) ?_ 0 _ rfl; (with_reducible repeat (first | refine blk_drewN ?_ _ | refine blk_drew ?_ | refine blk_alloc ?_ _)); exact BK620.out) hb); replace HB := Aside0.mk (below_step (by repeat (first | (with_reducible first | exact HB.out | apply below_alloc | apply pw_below_drewN | apply below_drew1 | refine below_set ?_ (Aside0.out (by assumption))) | exact HB.out)) hb); (try clear hb); (try clear hb2); (try clear hk); (try clear hi)) | ((with_reducible refine gate_dst (N := 29) rfl ?_); refine box_event ?hg (N := 29) ?hd (cs := #[.int .u64 0, .int .u64 0]) (t := 46) ?hr ?_; (case hd => rfl); (case hg => rfl); (case hr => first | (go_simp; done) | (go_simp; rfl)); intro gb624 hg w167 hbox hb; have BK624 := Aside0.mk (hbox); have GW624 := Aside0.mk ((by rw [hg]; exact (below_size (by repeat (first | (with_reducible first | exact HB.out | apply below_alloc | apply pw_below_drewN | apply below_drew1 | refine below_set ?_ (Aside0.out (by assumption))) | exact HB.out))) : w.heap.size ≤ gb624)); have GE624 := GW624; have NB563_624 := bn_ BK563 hg; have NB624_563 := bm_ BK563 hg; have NB569_624 := bn_ BK569 hg; have NB624_569 := bm_ BK569 hg; have NB573_624 := bn_ BK573 hg; have NB624_573 := bm_ BK573 hg; have NB579_624 := bn_ BK579 hg; have NB624_579 := bm_ BK579 hg; have NB583_624 := bn_ BK583 hg; have NB624_583 := bm_ BK583 hg; have NB587_624 := bn_ BK587 hg; have NB624_587 := bm_ BK587 hg; have NB593_624 := bn_ BK593 hg; have NB624_593 := bm_ BK593 hg; have NB604_624 := bn_ BK604 hg; have NB624_604 := bm_ BK604 hg; have NB610_624 := bn_ BK610 hg; have NB624_610 := bm_ BK610 hg; have NB615_624 := bn_ BK615 hg; have NB624_615 := bm_ BK615 hg; have NB620_624 := bn_ BK620 hg; have NB624_620 := bm_ BK620 hg; replace BK563 := bb_ BK563 hb; replace BK569 := bb_ BK569 hb; replace BK573 := bb_ BK573 hb; replace BK579 := bb_ BK579 hb; replace BK583 := bb_ BK583 hb; replace BK587 := bb_ BK587 hb; replace BK593 := bb_ BK593 hb; replace BK604 := bb_ BK604 hb; replace BK610 := bb_ BK610 hb; replace BK615 := bb_ BK615 hb; replace BK620 := bb_ BK620 hb; replace HB := Aside0.mk (below_step (by repeat (first | (with_reducible first | exact HB.out | apply below_alloc | apply pw_below_drewN | apply below_drew1 | refine below_set ?_ (Aside0.out (by assumption))) | exact HB.out)) hb); clear hb hbox hg; have hnb168 := NB624_563.out; have hnc168 := NB563_624.out; have hnb169 := NB624_569.out; have hnc169 := NB569_624.out; have hnb170 := NB624_573.out; have hnc170 := NB573_624.out; have hnb171 := NB624_579.out; have hnc171 := NB579_624.out; have hnb172 := NB624_583.out; have hnc172 := NB583_624.out; have hnb173 := NB624_587.out; have hnc173 := NB587_624.out; have hnb174 := NB624_593.out; have hnc174 := NB593_624.out; have hnb175 := NB624_604.out; have hnc175 := NB604_624.out; have hnb176 := NB624_610.out; have hnc176 := NB610_624.out; have hnb177 := NB624_615.out; have hnc177 := NB615_624.out; have hnb178 := NB624_620.out; have hnc178 := NB620_624.out; have hcz179_0 : w167.cell? ⟨gb624, 0, none⟩ = some (.int .u64 0) := (blk_cell BK624.out 0).trans rfl; have hcz179_1 : w167.cell? ⟨gb624, 1, none⟩ = some (.int .u64 0) := (blk_cell BK624.out 1).trans rfl; have hfz179_0 := blk_frozen BK624.out 0; have hfz179_1 := blk_frozen BK624.out 1; have hcz180_0 : w167.cell? ⟨gb563, 0, none⟩ = some (.int .u64 18446744073709551615) := (blk_cell BK563.out 0).trans rfl; have hcz180_1 : w167.cell? ⟨gb563, 1, none⟩ = some (.int .u64 18446744073709551615) := (blk_cell BK563.out 1).trans rfl; have hfz180_0 := blk_frozen BK563.out 0; have hfz180_1 := blk_frozen BK563.out 1) | ((with_reducible refine gate_callee (f := 35) rfl ?_); refine goesL_ (some 114) rfl rfl Try.func35 (by kernel_rfl) rfl #[.agg #[.int .u64 18446744073709551615, .int .u64 18446744073709551615], .int .u64 2] rfl (by (try simp only [List.map_toArray, List.map_cons, List.map_nil]); first | done | rfl | (simp only [List.length_drop, List.length_take]; rfl)) ?_; (with_reducible refine (wide_Up.calls k 18446744073709551615 18446744073709551615 2 t625 t626 t627 _ A19.out).mono ?_); rintro e w181 ⟨rfl, hb⟩; refine ⟨_, rfl, ?_⟩; replace BK563 := Aside0.mk (blk_below (g := gb563) (o := .cells #[.int .u64 18446744073709551615, .int .u64 18446744073709551615] 46 (0, 0)) (by (with_reducible repeat (first | refine blk_drewN ?_ _ | refine blk_drew ?_ | refine blk_alloc ?_ _)); refine blk_far ?_ NB563_624.out _; (with_reducible repeat (first | refine blk_drewN ?_ _ | refine blk_drew ?_ | refine blk_alloc ?_ _)); refine blk_far ?_ NB563_624.out _; (with_reducible repeat (first | refine blk_drewN ?_ _ | refine blk_drew ?_ | refine blk_alloc ?_ _)); exact BK563.out) hb); replace BK569 := Aside0.mk (blk_below (g := gb569) (o := .cells #[.int .u64 t566, .int .u64 t567] 46 (0, 0)) (by (with_reducible repeat (first | refine blk_drewN ?_ _ | refine blk_drew ?_ | refine blk_alloc ?_ _)); refine blk_far ?_ NB569_624.out _; (with_reducible repeat (first | refine blk_drewN ?_ _ | refine blk_drew ?_ | refine blk_alloc ?_ _)); refine blk_far ?_ NB569_624.out _; (with_reducible repeat (first | refine blk_drewN ?_ _ | refine blk_drew ?_ | refine blk_alloc ?_ _)); exact BK569.out) hb); replace BK573 := Aside0.mk (blk_below (g := gb573) (o := .cells #[.int .u64 t570, .int .u64 t571] 46 (0, 0)) (by (with_reducible repeat (first | refine blk_drewN ?_ _ | refine blk_drew ?_ | refine blk_alloc ?_ _)); refine blk_far ?_ NB573_624.out _; (with_reducible repeat (first | refine blk_drewN ?_ _ | refine blk_drew ?_ | refine blk_alloc ?_ _)); refine blk_far ?_ NB573_624.out _; (with_reducible repeat (first | refine blk_drewN ?_ _ | refine blk_drew ?_ | refine blk_alloc ?_ _)); exact BK573.out) hb); replace BK579 := Aside0.mk (blk_below (g := gb579) (o := .cells #[.int .u64 t576, .int .u64 t577] 46 (0, 0)) (by (with_reducible repeat (first | refine blk_drewN ?_ _ | refine blk_drew ?_ | refine blk_alloc ?_ _)); refine blk_far ?_ NB579_624.out _; (with_reducible repeat (first | refine blk_drewN ?_ _ | refine blk_drew ?_ | refine blk_alloc ?_ _)); refine blk_far ?_ NB579_624.out _; (with_reducible repeat (first | refine blk_drewN ?_ _ | refine blk_drew ?_ | refine blk_alloc ?_ _)); exact BK579.out) hb); replace BK583 := Aside0.mk (blk_below (g := gb583) (o := .cells #[.int .u64 t580, .int .u64 t581] 46 (0, 0)) (by (with_reducible repeat (first | refine blk_drewN ?_ _ | refine blk_drew ?_ | refine blk_alloc ?_ _)); refine blk_far ?_ NB583_624.out _; (with_reducible repeat (first | refine blk_drewN ?_ _ | refine blk_drew ?_ | refine blk_alloc ?_ _)); refine blk_far ?_ NB583_624.out _; (with_reducible repeat (first | refine blk_drewN ?_ _ | refine blk_drew ?_ | refine blk_alloc ?_ _)); exact BK583.out) hb); replace BK587 := Aside0.mk (blk_below (g := gb587) (o := .cells #[.int .u64 t584, .int .u64 t585] 46 (0, 0)) (by (with_reducible repeat (first | refine blk_drewN ?_ _ | refine blk_drew ?_ | refine blk_alloc ?_ _)); refine blk_far ?_ NB587_624.out _; (with_reducible repeat (first | refine blk_drewN ?_ _ | refine blk_drew ?_ | refine blk_alloc ?_ _)); refine blk_far ?_ NB587_624.out _; (with_reducible repeat (first | refine blk_drewN ?_ _ | refine blk_drew ?_ | refine blk_alloc ?_ _)); exact BK587.out) hb); replace BK593 := Aside0.mk (blk_below (g := gb593) (o := .cells #[.int .u64 t590, .int .u64 t591] 46 (0, 0)) (by (with_reducible repeat (first | refine blk_drewN ?_ _ | refine blk_drew ?_ | refine blk_alloc ?_ _)); refine blk_far ?_ NB593_624.out _; (with_reducible repeat (first | refine blk_drewN ?_ _ | refine blk_drew ?_ | refine blk_alloc ?_ _)); refine blk_far ?_ NB593_624.out _; (with_reducible repeat (first | refine blk_drewN ?_ _ | refine blk_drew ?_ | refine blk_alloc ?_ _)); exact BK593.out) hb); replace BK604 := Aside0.mk (blk_below (g := gb604) (o := .cells #[.int .u64 t600, .int .u64 t601] 46 (0, 0)) (by (with_reducible repeat (first | refine blk_drewN ?_ _ | refine blk_drew ?_ | refine blk_alloc ?_ _)); refine blk_far ?_ NB604_624.out _; (with_reducible repeat (first | refine blk_drewN ?_ _ | refine blk_drew ?_ | refine blk_alloc ?_ _)); refine blk_far ?_ NB604_624.out _; (with_reducible repeat (first | refine blk_drewN ?_ _ | refine blk_drew ?_ | refine blk_alloc ?_ _)); exact BK604.out) hb); replace BK610 := Aside0.mk (blk_below (g := gb610) (o := .cells #[.int .u64 t607, .int .u64 t608] 46 (0, 0)) (by (with_reducible repeat (first | refine blk_drewN ?_ _ | refine blk_drew ?_ | refine blk_alloc ?_ _)); refine blk_far ?_ NB610_624.out _; (with_reducible repeat (first | refine blk_drewN ?_ _ | refine blk_drew ?_ | refine blk_alloc ?_ _)); refine blk_far ?_ NB610_624.out _; (with_reducible repeat (first | refine blk_drewN ?_ _ | refine blk_drew ?_ | refine blk_alloc ?_ _)); exact BK610.out) hb); replace BK615 := Aside0.mk (blk_below (g := gb615) (o := .cells #[.int .u64 t611, .int .u64 t612] 46 (0, 0)) (by (with_reducible repeat (first | refine blk_drewN ?_ _ | refine blk_drew ?_ | refine blk_alloc ?_ _)); refine blk_far ?_ NB615_624.out _; (with_reducible repeat (first | refine blk_drewN ?_ _ | refine blk_drew ?_ | refine blk_alloc ?_ _)); refine blk_far ?_ NB615_624.out _; (with_reducible repeat (first | refine blk_drewN ?_ _ | refine blk_drew ?_ | refine blk_alloc ?_ _)); exact BK615.out) hb); replace BK620 := Aside0.mk (blk_below (g := gb620) (o := .cells #[.int .u64 t616, .int .u64 t617] 46 (0, 0)) (by (with_reducible repeat (first | refine blk_drewN ?_ _ | refine blk_drew ?_ | refine blk_alloc ?_ _)); refine blk_far ?_ NB620_624.out _; (with_reducible repeat (first | refine blk_drewN ?_ _ | refine blk_drew ?_ | refine blk_alloc ?_ _)); refine blk_far ?_ NB620_624.out _; (with_reducible repeat (first | refine blk_drewN ?_ _ | refine blk_drew ?_ | refine blk_alloc ?_ _)); exact BK620.out) hb); replace BK624 := Aside0.mk (blk_below (g := gb624) (o := .cells #[.int .u64 t621, .int .u64 t622] 46 (0, 0)) (by (with_reducible repeat (first | refine blk_drewN ?_ _ | refine blk_drew ?_ | refine blk_alloc ?_ _)); refine blk_put (cs := #[.int .u64 t621, .int .u64 0]) ?_ 1 _ rfl; (with_reducible repeat (first | refine blk_drewN ?_ _ | refine blk_drew ?_ | refine blk_alloc ?_ _)); refine blk_put (cs := #[.int .u64 0, .int .u64 0]) ?_ 0 _ rfl; (with_reducible repeat (first | refine blk_drewN ?_ _ | refine blk_drew ?_ | refine blk_alloc ?_ _)); exact BK624.out) hb); replace HB := Aside0.mk (below_step (by repeat (first | (with_reducible first | exact HB.out | apply below_alloc | apply pw_below_drewN | apply below_drew1 | refine below_set ?_ (Aside0.out (by assumption))) | exact HB.out)) hb); (try clear hb); (try clear hb2); (try clear hk); (try clear hi)) | ((with_reducible refine gate_dst (N := 31) rfl ?_); refine box_event ?hg (N := 31) ?hd (cs := #[.int .u64 0, .int .u64 0]) (t := 46) ?hr ?_; (case hd => rfl); (case hg => rfl); (case hr => first | (go_simp; done) | (go_simp; rfl)); intro gb628 hg w182 hbox hb; have BK628 := Aside0.mk (hbox); have GW628 := Aside0.mk ((by rw [hg]; exact (below_size (by repeat (first | (with_reducible first | exact HB.out | apply below_alloc | apply pw_below_drewN | apply below_drew1 | refine below_set ?_ (Aside0.out (by assumption))) | exact HB.out))) : w.heap.size ≤ gb628)); have GE628 := GW628; have NB563_628 := bn_ BK563 hg; have NB628_563 := bm_ BK563 hg; have NB569_628 := bn_ BK569 hg; have NB628_569 := bm_ BK569 hg; have NB573_628 := bn_ BK573 hg; have NB628_573 := bm_ BK573 hg; have NB579_628 := bn_ BK579 hg; have NB628_579 := bm_ BK579 hg; have NB583_628 := bn_ BK583 hg; have NB628_583 := bm_ BK583 hg; have NB587_628 := bn_ BK587 hg; have NB628_587 := bm_ BK587 hg; have NB593_628 := bn_ BK593 hg; have NB628_593 := bm_ BK593 hg; have NB604_628 := bn_ BK604 hg; have NB628_604 := bm_ BK604 hg; have NB610_628 := bn_ BK610 hg; have NB628_610 := bm_ BK610 hg; have NB615_628 := bn_ BK615 hg; have NB628_615 := bm_ BK615 hg; have NB620_628 := bn_ BK620 hg; have NB628_620 := bm_ BK620 hg; have NB624_628 := bn_ BK624 hg; have NB628_624 := bm_ BK624 hg; replace BK563 := bb_ BK563 hb; replace BK569 := bb_ BK569 hb; replace BK573 := bb_ BK573 hb; replace BK579 := bb_ BK579 hb; replace BK583 := bb_ BK583 hb; replace BK587 := bb_ BK587 hb; replace BK593 := bb_ BK593 hb; replace BK604 := bb_ BK604 hb; replace BK610 := bb_ BK610 hb; replace BK615 := bb_ BK615 hb; replace BK620 := bb_ BK620 hb; replace BK624 := bb_ BK624 hb; replace HB := Aside0.mk (below_step (by repeat (first | (with_reducible first | exact HB.out | apply below_alloc | apply pw_below_drewN | apply below_drew1 | refine below_set ?_ (Aside0.out (by assumption))) | exact HB.out)) hb); clear hb hbox hg; have hnb183 := NB628_563.out; have hnc183 := NB563_628.out; have hnb184 := NB628_569.out; have hnc184 := NB569_628.out; have hnb185 := NB628_573.out; have hnc185 := NB573_628.out; have hnb186 := NB628_579.out; have hnc186 := NB579_628.out; have hnb187 := NB628_583.out; have hnc187 := NB583_628.out; have hnb188 := NB628_587.out; have hnc188 := NB587_628.out; have hnb189 := NB628_593.out; have hnc189 := NB593_628.out; have hnb190 := NB628_604.out; have hnc190 := NB604_628.out; have hnb191 := NB628_610.out; have hnc191 := NB610_628.out; have hnb192 := NB628_615.out; have hnc192 := NB615_628.out; have hnb193 := NB628_620.out; have hnc193 := NB620_628.out; have hnb194 := NB628_624.out; have hnc194 := NB624_628.out; have hcz195_0 : w182.cell? ⟨gb628, 0, none⟩ = some (.int .u64 0) := (blk_cell BK628.out 0).trans rfl; have hcz195_1 : w182.cell? ⟨gb628, 1, none⟩ = some (.int .u64 0) := (blk_cell BK628.out 1).trans rfl; have hfz195_0 := blk_frozen BK628.out 0; have hfz195_1 := blk_frozen BK628.out 1) | ((with_reducible refine gate_callee (f := 32) rfl ?_); refine goesL_ (some 118) rfl rfl Try.func32 (by kernel_rfl) rfl #[.int .u64 0] rfl (by (try simp only [List.map_toArray, List.map_cons, List.map_nil]); first | done | rfl | (simp only [List.length_drop, List.length_take]; rfl)) ?_; (with_reducible refine (wide_Of.calls 0 t629 t630 _ A20.out).mono ?_); rintro e w196 ⟨rfl, hb⟩; refine ⟨_, rfl, ?_⟩; replace BK563 := Aside0.mk (blk_below (g := gb563) (o := .cells #[.int .u64 18446744073709551615, .int .u64 18446744073709551615] 46 (0, 0)) (by (with_reducible repeat (first | refine blk_drewN ?_ _ | refine blk_drew ?_ | refine blk_alloc ?_ _)); refine blk_far ?_ NB563_628.out _; (with_reducible repeat (first | refine blk_drewN ?_ _ | refine blk_drew ?_ | refine blk_alloc ?_ _)); refine blk_far ?_ NB563_628.out _; (with_reducible repeat (first | refine blk_drewN ?_ _ | refine blk_drew ?_ | refine blk_alloc ?_ _)); exact BK563.out) hb); replace BK569 := Aside0.mk (blk_below (g := gb569) (o := .cells #[.int .u64 t566, .int .u64 t567] 46 (0, 0)) (by (with_reducible repeat (first | refine blk_drewN ?_ _ | refine blk_drew ?_ | refine blk_alloc ?_ _)); refine blk_far ?_ NB569_628.out _; (with_reducible repeat (first | refine blk_drewN ?_ _ | refine blk_drew ?_ | refine blk_alloc ?_ _)); refine blk_far ?_ NB569_628.out _; (with_reducible repeat (first | refine blk_drewN ?_ _ | refine blk_drew ?_ | refine blk_alloc ?_ _)); exact BK569.out) hb); replace BK573 := Aside0.mk (blk_below (g := gb573) (o := .cells #[.int .u64 t570, .int .u64 t571] 46 (0, 0)) (by (with_reducible repeat (first | refine blk_drewN ?_ _ | refine blk_drew ?_ | refine blk_alloc ?_ _)); refine blk_far ?_ NB573_628.out _; (with_reducible repeat (first | refine blk_drewN ?_ _ | refine blk_drew ?_ | refine blk_alloc ?_ _)); refine blk_far ?_ NB573_628.out _; (with_reducible repeat (first | refine blk_drewN ?_ _ | refine blk_drew ?_ | refine blk_alloc ?_ _)); exact BK573.out) hb); replace BK579 := Aside0.mk (blk_below (g := gb579) (o := .cells #[.int .u64 t576, .int .u64 t577] 46 (0, 0)) (by (with_reducible repeat (first | refine blk_drewN ?_ _ | refine blk_drew ?_ | refine blk_alloc ?_ _)); refine blk_far ?_ NB579_628.out _; (with_reducible repeat (first | refine blk_drewN ?_ _ | refine blk_drew ?_ | refine blk_alloc ?_ _)); refine blk_far ?_ NB579_628.out _; (with_reducible repeat (first | refine blk_drewN ?_ _ | refine blk_drew ?_ | refine blk_alloc ?_ _)); exact BK579.out) hb); replace BK583 := Aside0.mk (blk_below (g := gb583) (o := .cells #[.int .u64 t580, .int .u64 t581] 46 (0, 0)) (by (with_reducible repeat (first | refine blk_drewN ?_ _ | refine blk_drew ?_ | refine blk_alloc ?_ _)); refine blk_far ?_ NB583_628.out _; (with_reducible repeat (first | refine blk_drewN ?_ _ | refine blk_drew ?_ | refine blk_alloc ?_ _)); refine blk_far ?_ NB583_628.out _; (with_reducible repeat (first | refine blk_drewN ?_ _ | refine blk_drew ?_ | refine blk_alloc ?_ _)); exact BK583.out) hb); replace BK587 := Aside0.mk (blk_below (g := gb587) (o := .cells #[.int .u64 t584, .int .u64 t585] 46 (0, 0)) (by (with_reducible repeat (first | refine blk_drewN ?_ _ | refine blk_drew ?_ | refine blk_alloc ?_ _)); refine blk_far ?_ NB587_628.out _; (with_reducible repeat (first | refine blk_drewN ?_ _ | refine blk_drew ?_ | refine blk_alloc ?_ _)); refine blk_far ?_ NB587_628.out _; (with_reducible repeat (first | refine blk_drewN ?_ _ | refine blk_drew ?_ | refine blk_alloc ?_ _)); exact BK587.out) hb); replace BK593 := Aside0.mk (blk_below (g := gb593) (o := .cells #[.int .u64 t590, .int .u64 t591] 46 (0, 0)) (by (with_reducible repeat (first | refine blk_drewN ?_ _ | refine blk_drew ?_ | refine blk_alloc ?_ _)); refine blk_far ?_ NB593_628.out _; (with_reducible repeat (first | refine blk_drewN ?_ _ | refine blk_drew ?_ | refine blk_alloc ?_ _)); refine blk_far ?_ NB593_628.out _; (with_reducible repeat (first | refine blk_drewN ?_ _ | refine blk_drew ?_ | refine blk_alloc ?_ _)); exact BK593.out) hb); replace BK604 := Aside0.mk (blk_below (g := gb604) (o := .cells #[.int .u64 t600, .int .u64 t601] 46 (0, 0)) (by (with_reducible repeat (first | refine blk_drewN ?_ _ | refine blk_drew ?_ | refine blk_alloc ?_ _)); refine blk_far ?_ NB604_628.out _; (with_reducible repeat (first | refine blk_drewN ?_ _ | refine blk_drew ?_ | refine blk_alloc ?_ _)); refine blk_far ?_ NB604_628.out _; (with_reducible repeat (first | refine blk_drewN ?_ _ | refine blk_drew ?_ | refine blk_alloc ?_ _)); exact BK604.out) hb); replace BK610 := Aside0.mk (blk_below (g := gb610) (o := .cells #[.int .u64 t607, .int .u64 t608] 46 (0, 0)) (by (with_reducible repeat (first | refine blk_drewN ?_ _ | refine blk_drew ?_ | refine blk_alloc ?_ _)); refine blk_far ?_ NB610_628.out _; (with_reducible repeat (first | refine blk_drewN ?_ _ | refine blk_drew ?_ | refine blk_alloc ?_ _)); refine blk_far ?_ NB610_628.out _; (with_reducible repeat (first | refine blk_drewN ?_ _ | refine blk_drew ?_ | refine blk_alloc ?_ _)); exact BK610.out) hb); replace BK615 := Aside0.mk (blk_below (g := gb615) (o := .cells #[.int .u64 t611, .int .u64 t612] 46 (0, 0)) (by (with_reducible repeat (first | refine blk_drewN ?_ _ | refine blk_drew ?_ | refine blk_alloc ?_ _)); refine blk_far ?_ NB615_628.out _; (with_reducible repeat (first | refine blk_drewN ?_ _ | refine blk_drew ?_ | refine blk_alloc ?_ _)); refine blk_far ?_ NB615_628.out _; (with_reducible repeat (first | refine blk_drewN ?_ _ | refine blk_drew ?_ | refine blk_alloc ?_ _)); exact BK615.out) hb); replace BK620 := Aside0.mk (blk_below (g := gb620) (o := .cells #[.int .u64 t616, .int .u64 t617] 46 (0, 0)) (by (with_reducible repeat (first | refine blk_drewN ?_ _ | refine blk_drew ?_ | refine blk_alloc ?_ _)); refine blk_far ?_ NB620_628.out _; (with_reducible repeat (first | refine blk_drewN ?_ _ | refine blk_drew ?_ | refine blk_alloc ?_ _)); refine blk_far ?_ NB620_628.out _; (with_reducible repeat (first | refine blk_drewN ?_ _ | refine blk_drew ?_ | refine blk_alloc ?_ _)); exact BK620.out) hb); replace BK624 := Aside0.mk (blk_below (g := gb624) (o := .cells #[.int .u64 t621, .int .u64 t622] 46 (0, 0)) (by (with_reducible repeat (first | refine blk_drewN ?_ _ | refine blk_drew ?_ | refine blk_alloc ?_ _)); refine blk_far ?_ NB624_628.out _; (with_reducible repeat (first | refine blk_drewN ?_ _ | refine blk_drew ?_ | refine blk_alloc ?_ _)); refine blk_far ?_ NB624_628.out _; (with_reducible repeat (first | refine blk_drewN ?_ _ | refine blk_drew ?_ | refine blk_alloc ?_ _)); exact BK624.out) hb); replace BK628 := Aside0.mk (blk_below (g := gb628) (o := .cells #[.int .u64 t625, .int .u64 t626] 46 (0, 0)) (by (with_reducible repeat (first | refine blk_drewN ?_ _ | refine blk_drew ?_ | refine blk_alloc ?_ _)); refine blk_put (cs := #[.int .u64 t625, .int .u64 0]) ?_ 1 _ rfl; (with_reducible repeat (first | refine blk_drewN ?_ _ | refine blk_drew ?_ | refine blk_alloc ?_ _)); refine blk_put (cs := #[.int .u64 0, .int .u64 0]) ?_ 0 _ rfl; (with_reducible repeat (first | refine blk_drewN ?_ _ | refine blk_drew ?_ | refine blk_alloc ?_ _)); exact BK628.out) hb); replace HB := Aside0.mk (below_step (by repeat (first | (with_reducible first | exact HB.out | apply below_alloc | apply pw_below_drewN | apply below_drew1 | refine below_set ?_ (Aside0.out (by assumption))) | exact HB.out)) hb); (try clear hb); (try clear hb2); (try clear hk); (try clear hi)) | ((with_reducible refine gate_callee (f := 35) rfl ?_); refine goesL_ (some 119) rfl rfl Try.func35 (by kernel_rfl) rfl #[.agg #[.int .u64 t629, .int .u64 t630], .int .u64 7] rfl (by (try simp only [List.map_toArray, List.map_cons, List.map_nil]); first | done | rfl | (simp only [List.length_drop, List.length_take]; rfl)) ?_; (with_reducible refine (wide_Up.calls k t629 t630 7 t631 t632 t633 _ A21.out).mono ?_); rintro e w197 ⟨rfl, hb⟩; refine ⟨_, rfl, ?_⟩; replace BK563 := bb_ BK563 hb; replace BK569 := bb_ BK569 hb; replace BK573 := bb_ BK573 hb; replace BK579 := bb_ BK579 hb; replace BK583 := bb_ BK583 hb; replace BK587 := bb_ BK587 hb; replace BK593 := bb_ BK593 hb; replace BK604 := bb_ BK604 hb; replace BK610 := bb_ BK610 hb; replace BK615 := bb_ BK615 hb; replace BK620 := bb_ BK620 hb; replace BK624 := bb_ BK624 hb; replace BK628 := bb_ BK628 hb; replace HB := Aside0.mk (below_step (by repeat (first | (with_reducible first | exact HB.out | apply below_alloc | apply pw_below_drewN | apply below_drew1 | refine below_set ?_ (Aside0.out (by assumption))) | exact HB.out)) hb); (try clear hb); (try clear hb2); (try clear hk); (try clear hi)) | ((with_reducible refine gate_dst (N := 33) rfl ?_); refine box_event ?hg (N := 33) ?hd (cs := #[.int .u64 0, .int .u64 0]) (t := 46) ?hr ?_; (case hd => rfl); (case hg => rfl); (case hr => first | (go_simp; done) | (go_simp; rfl)); intro gb634 hg w198 hbox hb; have BK634 := Aside0.mk (hbox); have GW634 := Aside0.mk ((by rw [hg]; exact (below_size (by repeat (first | (with_reducible first | exact HB.out | apply below_alloc | apply pw_below_drewN | apply below_drew1 | refine below_set ?_ (Aside0.out (by assumption))) | exact HB.out))) : w.heap.size ≤ gb634)); have GE634 := GW634; have NB563_634 := bn_ BK563 hg; have NB634_563 := bm_ BK563 hg; have NB569_634 := bn_ BK569 hg; have NB634_569 := bm_ BK569 hg; have NB573_634 := bn_ BK573 hg; have NB634_573 := bm_ BK573 hg; have NB579_634 := bn_ BK579 hg; have NB634_579 := bm_ BK579 hg; have NB583_634 := bn_ BK583 hg; have NB634_583 := bm_ BK583 hg; have NB587_634 := bn_ BK587 hg; have NB634_587 := bm_ BK587 hg; have NB593_634 := bn_ BK593 hg; have NB634_593 := bm_ BK593 hg; have NB604_634 := bn_ BK604 hg; have NB634_604 := bm_ BK604 hg; have NB610_634 := bn_ BK610 hg; have NB634_610 := bm_ BK610 hg; have NB615_634 := bn_ BK615 hg; have NB634_615 := bm_ BK615 hg; have NB620_634 := bn_ BK620 hg; have NB634_620 := bm_ BK620 hg; have NB624_634 := bn_ BK624 hg; have NB634_624 := bm_ BK624 hg; have NB628_634 := bn_ BK628 hg; have NB634_628 := bm_ BK628 hg; replace BK563 := bb_ BK563 hb; replace BK569 := bb_ BK569 hb; replace BK573 := bb_ BK573 hb; replace BK579 := bb_ BK579 hb; replace BK583 := bb_ BK583 hb; replace BK587 := bb_ BK587 hb; replace BK593 := bb_ BK593 hb; replace BK604 := bb_ BK604 hb; replace BK610 := bb_ BK610 hb; replace BK615 := bb_ BK615 hb; replace BK620 := bb_ BK620 hb; replace BK624 := bb_ BK624 hb; replace BK628 := bb_ BK628 hb; replace HB := Aside0.mk (below_step (by repeat (first | (with_reducible first | exact HB.out | apply below_alloc | apply pw_below_drewN | apply below_drew1 | refine below_set ?_ (Aside0.out (by assumption))) | exact HB.out)) hb); clear hb hbox hg; have hnb199 := NB634_563.out; have hnc199 := NB563_634.out; have hnb200 := NB634_569.out; have hnc200 := NB569_634.out; have hnb201 := NB634_573.out; have hnc201 := NB573_634.out; have hnb202 := NB634_579.out; have hnc202 := NB579_634.out; have hnb203 := NB634_583.out; have hnc203 := NB583_634.out; have hnb204 := NB634_587.out; have hnc204 := NB587_634.out; have hnb205 := NB634_593.out; have hnc205 := NB593_634.out; have hnb206 := NB634_604.out; have hnc206 := NB604_634.out; have hnb207 := NB634_610.out; have hnc207 := NB610_634.out; have hnb208 := NB634_615.out; have hnc208 := NB615_634.out; have hnb209 := NB634_620.out; have hnc209 := NB620_634.out; have hnb210 := NB634_624.out; have hnc210 := NB624_634.out; have hnb211 := NB634_628.out; have hnc211 := NB628_634.out; have hcz212_0 : w198.cell? ⟨gb634, 0, none⟩ = some (.int .u64 0) := (blk_cell BK634.out 0).trans rfl; have hcz212_1 : w198.cell? ⟨gb634, 1, none⟩ = some (.int .u64 0) := (blk_cell BK634.out 1).trans rfl; have hfz212_0 := blk_frozen BK634.out 0; have hfz212_1 := blk_frozen BK634.out 1))
 have n0_ : Aside0 (((w198.setCell ⟨gb634, 0, none⟩ (.int .u64 t631)).setCell ⟨gb634, 1, none⟩ (.int .u64 t632)).heap[gb563]? = some (.cells #[.int .u64 18446744073709551615, .int .u64 18446744073709551615] 46 (0, 0))) := ⟨by (with_reducible repeat (first | refine blk_drewN ?_ _ | refine blk_drew ?_ | refine blk_alloc ?_ _)); refine blk_far ?_ NB563_634.out _; (with_reducible repeat (first | refine blk_drewN ?_ _ | refine blk_drew ?_ | refine blk_alloc ?_ _)); refine blk_far ?_ NB563_634.out _; (with_reducible repeat (first | refine blk_drewN ?_ _ | refine blk_drew ?_ | refine blk_alloc ?_ _)); exact BK563.out⟩
 have n1_ : Aside0 (((w198.setCell ⟨gb634, 0, none⟩ (.int .u64 t631)).setCell ⟨gb634, 1, none⟩ (.int .u64 t632)).heap[gb569]? = some (.cells #[.int .u64 t566, .int .u64 t567] 46 (0, 0))) := ⟨by (with_reducible repeat (first | refine blk_drewN ?_ _ | refine blk_drew ?_ | refine blk_alloc ?_ _)); refine blk_far ?_ NB569_634.out _; (with_reducible repeat (first | refine blk_drewN ?_ _ | refine blk_drew ?_ | refine blk_alloc ?_ _)); refine blk_far ?_ NB569_634.out _; (with_reducible repeat (first | refine blk_drewN ?_ _ | refine blk_drew ?_ | refine blk_alloc ?_ _)); exact BK569.out⟩
 have n2_ : Aside0 (((w198.setCell ⟨gb634, 0, none⟩ (.int .u64 t631)).setCell ⟨gb634, 1, none⟩ (.int .u64 t632)).heap[gb573]? = some (.cells #[.int .u64 t570, .int .u64 t571] 46 (0, 0))) := ⟨by (with_reducible repeat (first | refine blk_drewN ?_ _ | refine blk_drew ?_ | refine blk_alloc ?_ _)); refine blk_far ?_ NB573_634.out _; (with_reducible repeat (first | refine blk_drewN ?_ _ | refine blk_drew ?_ | refine blk_alloc ?_ _)); refine blk_far ?_ NB573_634.out _; (with_reducible repeat (first | refine blk_drewN ?_ _ | refine blk_drew ?_ | refine blk_alloc ?_ _)); exact BK573.out⟩
 have n3_ : Aside0 (((w198.setCell ⟨gb634, 0, none⟩ (.int .u64 t631)).setCell ⟨gb634, 1, none⟩ (.int .u64 t632)).heap[gb579]? = some (.cells #[.int .u64 t576, .int .u64 t577] 46 (0, 0))) := ⟨by (with_reducible repeat (first | refine blk_drewN ?_ _ | refine blk_drew ?_ | refine blk_alloc ?_ _)); refine blk_far ?_ NB579_634.out _; (with_reducible repeat (first | refine blk_drewN ?_ _ | refine blk_drew ?_ | refine blk_alloc ?_ _)); refine blk_far ?_ NB579_634.out _; (with_reducible repeat (first | refine blk_drewN ?_ _ | refine blk_drew ?_ | refine blk_alloc ?_ _)); exact BK579.out⟩
 have n4_ : Aside0 (((w198.setCell ⟨gb634, 0, none⟩ (.int .u64 t631)).setCell ⟨gb634, 1, none⟩ (.int .u64 t632)).heap[gb583]? = some (.cells #[.int .u64 t580, .int .u64 t581] 46 (0, 0))) := ⟨by (with_reducible repeat (first | refine blk_drewN ?_ _ | refine blk_drew ?_ | refine blk_alloc ?_ _)); refine blk_far ?_ NB583_634.out _; (with_reducible repeat (first | refine blk_drewN ?_ _ | refine blk_drew ?_ | refine blk_alloc ?_ _)); refine blk_far ?_ NB583_634.out _; (with_reducible repeat (first | refine blk_drewN ?_ _ | refine blk_drew ?_ | refine blk_alloc ?_ _)); exact BK583.out⟩
 have n5_ : Aside0 (((w198.setCell ⟨gb634, 0, none⟩ (.int .u64 t631)).setCell ⟨gb634, 1, none⟩ (.int .u64 t632)).heap[gb587]? = some (.cells #[.int .u64 t584, .int .u64 t585] 46 (0, 0))) := ⟨by (with_reducible repeat (first | refine blk_drewN ?_ _ | refine blk_drew ?_ | refine blk_alloc ?_ _)); refine blk_far ?_ NB587_634.out _; (with_reducible repeat (first | refine blk_drewN ?_ _ | refine blk_drew ?_ | refine blk_alloc ?_ _)); refine blk_far ?_ NB587_634.out _; (with_reducible repeat (first | refine blk_drewN ?_ _ | refine blk_drew ?_ | refine blk_alloc ?_ _)); exact BK587.out⟩
 have n6_ : Aside0 (((w198.setCell ⟨gb634, 0, none⟩ (.int .u64 t631)).setCell ⟨gb634, 1, none⟩ (.int .u64 t632)).heap[gb593]? = some (.cells #[.int .u64 t590, .int .u64 t591] 46 (0, 0))) := ⟨by (with_reducible repeat (first | refine blk_drewN ?_ _ | refine blk_drew ?_ | refine blk_alloc ?_ _)); refine blk_far ?_ NB593_634.out _; (with_reducible repeat (first | refine blk_drewN ?_ _ | refine blk_drew ?_ | refine blk_alloc ?_ _)); refine blk_far ?_ NB593_634.out _; (with_reducible repeat (first | refine blk_drewN ?_ _ | refine blk_drew ?_ | refine blk_alloc ?_ _)); exact BK593.out⟩
 have n7_ : Aside0 (((w198.setCell ⟨gb634, 0, none⟩ (.int .u64 t631)).setCell ⟨gb634, 1, none⟩ (.int .u64 t632)).heap[gb604]? = some (.cells #[.int .u64 t600, .int .u64 t601] 46 (0, 0))) := ⟨by (with_reducible repeat (first | refine blk_drewN ?_ _ | refine blk_drew ?_ | refine blk_alloc ?_ _)); refine blk_far ?_ NB604_634.out _; (with_reducible repeat (first | refine blk_drewN ?_ _ | refine blk_drew ?_ | refine blk_alloc ?_ _)); refine blk_far ?_ NB604_634.out _; (with_reducible repeat (first | refine blk_drewN ?_ _ | refine blk_drew ?_ | refine blk_alloc ?_ _)); exact BK604.out⟩
 have n8_ : Aside0 (((w198.setCell ⟨gb634, 0, none⟩ (.int .u64 t631)).setCell ⟨gb634, 1, none⟩ (.int .u64 t632)).heap[gb610]? = some (.cells #[.int .u64 t607, .int .u64 t608] 46 (0, 0))) := ⟨by (with_reducible repeat (first | refine blk_drewN ?_ _ | refine blk_drew ?_ | refine blk_alloc ?_ _)); refine blk_far ?_ NB610_634.out _; (with_reducible repeat (first | refine blk_drewN ?_ _ | refine blk_drew ?_ | refine blk_alloc ?_ _)); refine blk_far ?_ NB610_634.out _; (with_reducible repeat (first | refine blk_drewN ?_ _ | refine blk_drew ?_ | refine blk_alloc ?_ _)); exact BK610.out⟩
 have n9_ : Aside0 (((w198.setCell ⟨gb634, 0, none⟩ (.int .u64 t631)).setCell ⟨gb634, 1, none⟩ (.int .u64 t632)).heap[gb615]? = some (.cells #[.int .u64 t611, .int .u64 t612] 46 (0, 0))) := ⟨by (with_reducible repeat (first | refine blk_drewN ?_ _ | refine blk_drew ?_ | refine blk_alloc ?_ _)); refine blk_far ?_ NB615_634.out _; (with_reducible repeat (first | refine blk_drewN ?_ _ | refine blk_drew ?_ | refine blk_alloc ?_ _)); refine blk_far ?_ NB615_634.out _; (with_reducible repeat (first | refine blk_drewN ?_ _ | refine blk_drew ?_ | refine blk_alloc ?_ _)); exact BK615.out⟩
 have n10_ : Aside0 (((w198.setCell ⟨gb634, 0, none⟩ (.int .u64 t631)).setCell ⟨gb634, 1, none⟩ (.int .u64 t632)).heap[gb620]? = some (.cells #[.int .u64 t616, .int .u64 t617] 46 (0, 0))) := ⟨by (with_reducible repeat (first | refine blk_drewN ?_ _ | refine blk_drew ?_ | refine blk_alloc ?_ _)); refine blk_far ?_ NB620_634.out _; (with_reducible repeat (first | refine blk_drewN ?_ _ | refine blk_drew ?_ | refine blk_alloc ?_ _)); refine blk_far ?_ NB620_634.out _; (with_reducible repeat (first | refine blk_drewN ?_ _ | refine blk_drew ?_ | refine blk_alloc ?_ _)); exact BK620.out⟩
 have n11_ : Aside0 (((w198.setCell ⟨gb634, 0, none⟩ (.int .u64 t631)).setCell ⟨gb634, 1, none⟩ (.int .u64 t632)).heap[gb624]? = some (.cells #[.int .u64 t621, .int .u64 t622] 46 (0, 0))) := ⟨by (with_reducible repeat (first | refine blk_drewN ?_ _ | refine blk_drew ?_ | refine blk_alloc ?_ _)); refine blk_far ?_ NB624_634.out _; (with_reducible repeat (first | refine blk_drewN ?_ _ | refine blk_drew ?_ | refine blk_alloc ?_ _)); refine blk_far ?_ NB624_634.out _; (with_reducible repeat (first | refine blk_drewN ?_ _ | refine blk_drew ?_ | refine blk_alloc ?_ _)); exact BK624.out⟩
 have n12_ : Aside0 (((w198.setCell ⟨gb634, 0, none⟩ (.int .u64 t631)).setCell ⟨gb634, 1, none⟩ (.int .u64 t632)).heap[gb628]? = some (.cells #[.int .u64 t625, .int .u64 t626] 46 (0, 0))) := ⟨by (with_reducible repeat (first | refine blk_drewN ?_ _ | refine blk_drew ?_ | refine blk_alloc ?_ _)); refine blk_far ?_ NB628_634.out _; (with_reducible repeat (first | refine blk_drewN ?_ _ | refine blk_drew ?_ | refine blk_alloc ?_ _)); refine blk_far ?_ NB628_634.out _; (with_reducible repeat (first | refine blk_drewN ?_ _ | refine blk_drew ?_ | refine blk_alloc ?_ _)); exact BK628.out⟩
 have n13_ : Aside0 (((w198.setCell ⟨gb634, 0, none⟩ (.int .u64 t631)).setCell ⟨gb634, 1, none⟩ (.int .u64 t632)).heap[gb634]? = some (.cells #[.int .u64 t631, .int .u64 t632] 46 (0, 0))) := ⟨by (with_reducible repeat (first | refine blk_drewN ?_ _ | refine blk_drew ?_ | refine blk_alloc ?_ _)); refine blk_put (cs := #[.int .u64 t631, .int .u64 0]) ?_ 1 _ rfl; (with_reducible repeat (first | refine blk_drewN ?_ _ | refine blk_drew ?_ | refine blk_alloc ?_ _)); refine blk_put (cs := #[.int .u64 0, .int .u64 0]) ?_ 0 _ rfl; (with_reducible repeat (first | refine blk_drewN ?_ _ | refine blk_drew ?_ | refine blk_alloc ?_ _)); exact BK634.out⟩
 have n14_ : Aside0 (Below w.heap.size w ((w198.setCell ⟨gb634, 0, none⟩ (.int .u64 t631)).setCell ⟨gb634, 1, none⟩ (.int .u64 t632))) := ⟨by repeat (first | (with_reducible first | exact HB.out | apply below_alloc | apply pw_below_drewN | apply below_drew1 | refine below_set ?_ GE563.out | refine below_set ?_ GE569.out | refine below_set ?_ GE573.out | refine below_set ?_ GE579.out | refine below_set ?_ GE583.out | refine below_set ?_ GE587.out | refine below_set ?_ GE593.out | refine below_set ?_ GE604.out | refine below_set ?_ GE610.out | refine below_set ?_ GE615.out | refine below_set ?_ GE620.out | refine below_set ?_ GE624.out | refine below_set ?_ GE628.out | refine below_set ?_ GE634.out) | exact HB.out)⟩
 (try clear BK563)
 (try clear BK569)
 (try clear BK573)
 (try clear BK579)
 (try clear BK583)
 (try clear BK587)
 (try clear BK593)
 (try clear BK604)
 (try clear BK610)
 (try clear BK615)
 (try clear BK620)
 (try clear BK624)
 (try clear BK628)
 (try clear BK634)
 (try clear HB)
 generalize ((w198.setCell ⟨gb634, 0, none⟩ (.int .u64 t631)).setCell ⟨gb634, 1, none⟩ (.int .u64 t632)) = w213 at n0_ n1_ n2_ n3_ n4_ n5_ n6_ n7_ n8_ n9_ n10_ n11_ n12_ n13_ n14_ ⊢
 have BK563 := n0_
 have BK569 := n1_
 have BK573 := n2_
 have BK579 := n3_
 have BK583 := n4_
 have BK587 := n5_
 have BK593 := n6_
 have BK604 := n7_
 have BK610 := n8_
 have BK615 := n9_
 have BK620 := n10_
 have BK624 := n11_
 have BK628 := n12_
 have BK634 := n13_
 have HB := n14_
 clear n0_ n1_ n2_ n3_ n4_ n5_ n6_ n7_ n8_ n9_ n10_ n11_ n12_ n13_ n14_
 replace BK563 := Aside0.mk (blk_drew BK563.out)
 replace BK569 := Aside0.mk (blk_drew BK569.out)
 replace BK573 := Aside0.mk (blk_drew BK573.out)
 replace BK579 := Aside0.mk (blk_drew BK579.out)
 replace BK583 := Aside0.mk (blk_drew BK583.out)
 replace BK587 := Aside0.mk (blk_drew BK587.out)
 replace BK593 := Aside0.mk (blk_drew BK593.out)
 replace BK604 := Aside0.mk (blk_drew BK604.out)
 replace BK610 := Aside0.mk (blk_drew BK610.out)
 replace BK615 := Aside0.mk (blk_drew BK615.out)
 replace BK620 := Aside0.mk (blk_drew BK620.out)
 replace BK624 := Aside0.mk (blk_drew BK624.out)
 replace BK628 := Aside0.mk (blk_drew BK628.out)
 replace BK634 := Aside0.mk (blk_drew BK634.out)
 replace HB := Aside0.mk (below_drew1 HB.out)
 refine start_ (n := 50) (S := fun w' => w'.cell? ⟨gb579, 0, none⟩ = some (.int .u64 t576) ∧ w'.cell? ⟨gb579, 1, none⟩ = some (.int .u64 t577) ∧ w'.cell? ⟨gb563, 0, none⟩ = some (.int .u64 18446744073709551615) ∧ w'.cell? ⟨gb563, 1, none⟩ = some (.int .u64 18446744073709551615) ∧ w'.cell? ⟨gb583, 0, none⟩ = some (.int .u64 t580) ∧ w'.cell? ⟨gb583, 1, none⟩ = some (.int .u64 t581) ∧ w'.cell? ⟨gb593, 0, none⟩ = some (.int .u64 t590) ∧ w'.cell? ⟨gb593, 1, none⟩ = some (.int .u64 t591)) (ds := []) #[false, false, false, false, false, false, false, false, false, false, false, false, false, false, false, false, false, false, false, false, false, false, false, false, false, false, false, false, false, false, false, false, false, false, false, false, false, false, false, false, false, false, false, false, false, false, false, false, false, false] (by kernel_rfl) rfl rfl ⟨(blk_cell BK579.out 0).trans rfl, (blk_cell BK579.out 1).trans rfl, (blk_cell BK563.out 0).trans rfl, (blk_cell BK563.out 1).trans rfl, (blk_cell BK583.out 0).trans rfl, (blk_cell BK583.out 1).trans rfl, (blk_cell BK593.out 0).trans rfl, (blk_cell BK593.out 1).trans rfl⟩ (fun hHeld => ?_); refine with_tabW spigotlaw01_WideNames.tab17 spigotlaw01_WideNames.bits17 (fun HT_ HW_ => ?_)
 generalize w213.drew = w214 at BK563 BK569 BK573 BK579 BK583 BK587 BK593 BK604 BK610 BK615 BK620 BK624 BK628 BK634 HB hHeld ⊢
 refine pure_ (i := 0) (N := some 122) (v := ?_) (a' := ?_) #[true, false, false, false, false, false, false, false, false, false, false, false, false, false, false, false, false, false, false, false, false, false, false, false, false, false, false, false, false, false, false, false, false, false, false, false, false, false, false, false, false, false, false, false, false, false, false, false, false, false] rfl rfl (any_of HT_.out (by kernel_rfl)) (fun _ _ _ h => h) (Or.inl ⟨by rfl, ?_⟩) ?_ ?_
 rotate_left
 ·intro w'
  go_simp
  with_reducible rfl
 rotate_left
 ·simp only [Act.put, List.setIfInBounds_toArray, List.set_cons_zero, List.set_cons_succ, i64_w, i32_w]
  rfl
 refine pure_ (i := 1) (N := some 123) (v := ?_) (a' := ?_) #[true, true, false, false, false, false, false, false, false, false, false, false, false, false, false, false, false, false, false, false, false, false, false, false, false, false, false, false, false, false, false, false, false, false, false, false, false, false, false, false, false, false, false, false, false, false, false, false, false, false] rfl rfl (any_of HT_.out (by kernel_rfl)) (fun _ _ _ h => h) (Or.inl ⟨by rfl, ?_⟩) ?_ ?_
 rotate_left
 ·intro w'
  go_simp
  with_reducible rfl
 rotate_left
 ·simp only [Act.put, List.setIfInBounds_toArray, List.set_cons_zero, List.set_cons_succ, i64_w, i32_w]
  rfl
 refine pure_ (i := 2) (N := some 124) (v := ?_) (a' := ?_) #[true, true, true, false, false, false, false, false, false, false, false, false, false, false, false, false, false, false, false, false, false, false, false, false, false, false, false, false, false, false, false, false, false, false, false, false, false, false, false, false, false, false, false, false, false, false, false, false, false, false] rfl rfl (any_of HT_.out (by kernel_rfl)) (fun _ _ _ h => h) (Or.inl ⟨by rfl, ?_⟩) ?_ ?_
 rotate_left
 ·intro w'
  go_simp
  with_reducible rfl
 rotate_left
 ·simp only [Act.put, List.setIfInBounds_toArray, List.set_cons_zero, List.set_cons_succ, i64_w, i32_w]
  rfl
 refine pure_ (i := 3) (N := some 125) (v := ?_) (a' := ?_) #[true, true, true, true, false, false, false, false, false, false, false, false, false, false, false, false, false, false, false, false, false, false, false, false, false, false, false, false, false, false, false, false, false, false, false, false, false, false, false, false, false, false, false, false, false, false, false, false, false, false] rfl rfl (any_of HT_.out (by kernel_rfl)) (fun _ _ _ h => h) (Or.inl ⟨by rfl, ?_⟩) ?_ ?_
 rotate_left
 ·intro w'
  go_simp
  with_reducible rfl
 rotate_left
 ·simp only [Act.put, List.setIfInBounds_toArray, List.set_cons_zero, List.set_cons_succ, i64_w, i32_w]
  rfl
 refine pure_ (i := 4) (N := some 126) (v := ?_) (a' := ?_) #[true, true, true, true, true, false, false, false, false, false, false, false, false, false, false, false, false, false, false, false, false, false, false, false, false, false, false, false, false, false, false, false, false, false, false, false, false, false, false, false, false, false, false, false, false, false, false, false, false, false] rfl rfl (any_of HT_.out (by kernel_rfl)) (fun _ _ _ h => h) (Or.inl ⟨by rfl, ?_⟩) ?_ ?_
 rotate_left
 ·intro w'
  go_simp
  with_reducible rfl
 rotate_left
 ·simp only [Act.put, List.setIfInBounds_toArray, List.set_cons_zero, List.set_cons_succ, i64_w, i32_w]
  rfl
 refine pure_ (i := 5) (N := some 127) (v := ?_) (a' := ?_) #[true, true, true, true, true, true, false, false, false, false, false, false, false, false, false, false, false, false, false, false, false, false, false, false, false, false, false, false, false, false, false, false, false, false, false, false, false, false, false, false, false, false, false, false, false, false, false, false, false, false] rfl rfl (any_of HT_.out (by kernel_rfl)) (fun _ _ _ h => h) (Or.inl ⟨by rfl, ?_⟩) ?_ ?_
 rotate_left
 ·intro w'
  go_simp
  with_reducible rfl
 rotate_left
 ·simp only [Act.put, List.setIfInBounds_toArray, List.set_cons_zero, List.set_cons_succ, i64_w, i32_w]
  rfl
 refine pure_ (i := 6) (N := some 128) (v := ?_) (a' := ?_) #[true, true, true, true, true, true, true, false, false, false, false, false, false, false, false, false, false, false, false, false, false, false, false, false, false, false, false, false, false, false, false, false, false, false, false, false, false, false, false, false, false, false, false, false, false, false, false, false, false, false] rfl rfl (any_of HT_.out (by kernel_rfl)) (fun _ _ _ h => h) (Or.inl ⟨by rfl, ?_⟩) ?_ ?_
 rotate_left
 ·intro w'
  go_simp
  with_reducible rfl
 rotate_left
 ·simp only [Act.put, List.setIfInBounds_toArray, List.set_cons_zero, List.set_cons_succ, i64_w, i32_w]
  rfl
 refine pure_ (i := 7) (N := some 129) (v := ?_) (a' := ?_) #[true, true, true, true, true, true, true, true, false, false, false, false, false, false, false, false, false, false, false, false, false, false, false, false, false, false, false, false, false, false, false, false, false, false, false, false, false, false, false, false, false, false, false, false, false, false, false, false, false, false] rfl rfl (any_of HT_.out (by kernel_rfl)) (fun _ _ _ h => h) (Or.inl ⟨by rfl, ?_⟩) ?_ ?_
 rotate_left
 ·intro w'
  go_simp
  with_reducible rfl
 rotate_left
 ·simp only [Act.put, List.setIfInBounds_toArray, List.set_cons_zero, List.set_cons_succ, i64_w, i32_w]
  rfl
 refine pure_ (i := 8) (N := some 130) (v := ?_) (a' := ?_) #[true, true, true, true, true, true, true, true, true, false, false, false, false, false, false, false, false, false, false, false, false, false, false, false, false, false, false, false, false, false, false, false, false, false, false, false, false, false, false, false, false, false, false, false, false, false, false, false, false, false] rfl rfl (any_of HT_.out (by kernel_rfl)) (fun _ _ _ h => h) (Or.inl ⟨by rfl, ?_⟩) ?_ ?_
 rotate_left
 ·intro w'
  go_simp
  with_reducible rfl
 rotate_left
 ·simp only [Act.put, List.setIfInBounds_toArray, List.set_cons_zero, List.set_cons_succ, i64_w, i32_w]
  rfl
 refine pure_ (i := 9) (N := some 131) (v := ?_) (a' := ?_) #[true, true, true, true, true, true, true, true, true, true, false, false, false, false, false, false, false, false, false, false, false, false, false, false, false, false, false, false, false, false, false, false, false, false, false, false, false, false, false, false, false, false, false, false, false, false, false, false, false, false] rfl rfl (any_of HT_.out (by kernel_rfl)) (fun _ _ _ h => h) (Or.inl ⟨by rfl, ?_⟩) ?_ ?_
 rotate_left
 ·intro w'
  go_simp
  with_reducible rfl
 rotate_left
 ·simp only [Act.put, List.setIfInBounds_toArray, List.set_cons_zero, List.set_cons_succ, i64_w, i32_w]
  rfl
 refine pure_ (i := 10) (N := some 132) (v := ?_) (a' := ?_) #[true, true, true, true, true, true, true, true, true, true, true, false, false, false, false, false, false, false, false, false, false, false, false, false, false, false, false, false, false, false, false, false, false, false, false, false, false, false, false, false, false, false, false, false, false, false, false, false, false, false] rfl rfl (any_of HT_.out (by kernel_rfl)) (fun _ _ _ h => h) (Or.inl ⟨by rfl, ?_⟩) ?_ ?_
 rotate_left
 ·intro w'
  go_simp
  with_reducible rfl
 rotate_left
 ·simp only [Act.put, List.setIfInBounds_toArray, List.set_cons_zero, List.set_cons_succ, i64_w, i32_w]
  rfl
 refine take_ (i := 11) (N := some 133) (v := ?_) (a' := ?_) #[true, true, true, true, true, true, true, true, true, true, true, true, false, false, false, false, false, false, false, false, false, false, false, false, false, false, false, false, false, false, false, false, false, false, false, false, false, false, false, false, false, false, false, false, false, false, false, false, false, false] rfl rfl (take_ofW HT_.out HW_.out (by kernel_rfl)) (fun _ _ _ h => h) (Or.inl ⟨by rfl, ?_⟩) hHeld ?_ ?_
 rotate_left
 ·rintro w' ⟨s0, s1, s2, s3, s4, s5, s6, s7⟩
  go_simp
  with_reducible rfl
 rotate_left
 ·simp only [Act.put, List.setIfInBounds_toArray, List.set_cons_zero, List.set_cons_succ, i64_w, i32_w]
  rfl
 refine take_ (i := 12) (N := some 134) (v := ?_) (a' := ?_) #[true, true, true, true, true, true, true, true, true, true, true, true, true, false, false, false, false, false, false, false, false, false, false, false, false, false, false, false, false, false, false, false, false, false, false, false, false, false, false, false, false, false, false, false, false, false, false, false, false, false] rfl rfl (take_ofW HT_.out HW_.out (by kernel_rfl)) (fun _ _ _ h => h) (Or.inl ⟨by rfl, ?_⟩) hHeld ?_ ?_
 rotate_left
 ·rintro w' ⟨s0, s1, s2, s3, s4, s5, s6, s7⟩
  go_simp
  with_reducible rfl
 rotate_left
 ·simp only [Act.put, List.setIfInBounds_toArray, List.set_cons_zero, List.set_cons_succ, i64_w, i32_w]
  rfl
 refine pure_ (i := 13) (N := some 135) (v := ?_) (a' := ?_) #[true, true, true, true, true, true, true, true, true, true, true, true, true, true, false, false, false, false, false, false, false, false, false, false, false, false, false, false, false, false, false, false, false, false, false, false, false, false, false, false, false, false, false, false, false, false, false, false, false, false] rfl rfl (any_of HT_.out (by kernel_rfl)) (fun _ _ _ h => h) (Or.inl ⟨by rfl, ?_⟩) ?_ ?_
 rotate_left
 ·intro w'
  go_simp
  with_reducible rfl
 rotate_left
 ·simp only [Act.put, List.setIfInBounds_toArray, List.set_cons_zero, List.set_cons_succ, i64_w, i32_w]
  rfl
 refine pure_ (i := 14) (N := some 136) (v := ?_) (a' := ?_) #[true, true, true, true, true, true, true, true, true, true, true, true, true, true, true, false, false, false, false, false, false, false, false, false, false, false, false, false, false, false, false, false, false, false, false, false, false, false, false, false, false, false, false, false, false, false, false, false, false, false] rfl rfl (any_of HT_.out (by kernel_rfl)) (fun _ _ _ h => h) (Or.inl ⟨by rfl, ?_⟩) ?_ ?_
 rotate_left
 ·intro w'
  go_simp
  with_reducible rfl
 rotate_left
 ·simp only [Act.put, List.setIfInBounds_toArray, List.set_cons_zero, List.set_cons_succ, i64_w, i32_w]
  rfl
 refine pure_ (i := 15) (N := some 137) (v := ?_) (a' := ?_) #[true, true, true, true, true, true, true, true, true, true, true, true, true, true, true, true, false, false, false, false, false, false, false, false, false, false, false, false, false, false, false, false, false, false, false, false, false, false, false, false, false, false, false, false, false, false, false, false, false, false] rfl rfl (any_of HT_.out (by kernel_rfl)) (fun _ _ _ h => h) (Or.inl ⟨by rfl, ?_⟩) ?_ ?_
 rotate_left
 ·intro w'
  go_simp
  with_reducible rfl
 rotate_left
 ·simp only [Act.put, List.setIfInBounds_toArray, List.set_cons_zero, List.set_cons_succ, i64_w, i32_w]
  rfl
 refine pure_ (i := 16) (N := some 138) (v := ?_) (a' := ?_) #[true, true, true, true, true, true, true, true, true, true, true, true, true, true, true, true, true, false, false, false, false, false, false, false, false, false, false, false, false, false, false, false, false, false, false, false, false, false, false, false, false, false, false, false, false, false, false, false, false, false] rfl rfl (any_of HT_.out (by kernel_rfl)) (fun _ _ _ h => h) (Or.inl ⟨by rfl, ?_⟩) ?_ ?_
 rotate_left
 ·intro w'
  go_simp
  with_reducible rfl
 rotate_left
 ·simp only [Act.put, List.setIfInBounds_toArray, List.set_cons_zero, List.set_cons_succ, i64_w, i32_w]
  rfl
 refine pure_ (i := 17) (N := some 139) (v := ?_) (a' := ?_) #[true, true, true, true, true, true, true, true, true, true, true, true, true, true, true, true, true, true, false, false, false, false, false, false, false, false, false, false, false, false, false, false, false, false, false, false, false, false, false, false, false, false, false, false, false, false, false, false, false, false] rfl rfl (any_of HT_.out (by kernel_rfl)) (fun _ _ _ h => h) (Or.inl ⟨by rfl, ?_⟩) ?_ ?_
 rotate_left
 ·intro w'
  go_simp
  with_reducible rfl
 rotate_left
 ·simp only [Act.put, List.setIfInBounds_toArray, List.set_cons_zero, List.set_cons_succ, i64_w, i32_w]
  rfl
 refine pure_ (i := 18) (N := some 140) (v := ?_) (a' := ?_) #[true, true, true, true, true, true, true, true, true, true, true, true, true, true, true, true, true, true, true, false, false, false, false, false, false, false, false, false, false, false, false, false, false, false, false, false, false, false, false, false, false, false, false, false, false, false, false, false, false, false] rfl rfl (any_of HT_.out (by kernel_rfl)) (fun _ _ _ h => h) (Or.inl ⟨by rfl, ?_⟩) ?_ ?_
 rotate_left
 ·intro w'
  go_simp
  with_reducible rfl
 rotate_left
 ·simp only [Act.put, List.setIfInBounds_toArray, List.set_cons_zero, List.set_cons_succ, i64_w, i32_w]
  rfl
 refine pure_ (i := 19) (N := some 141) (v := ?_) (a' := ?_) #[true, true, true, true, true, true, true, true, true, true, true, true, true, true, true, true, true, true, true, true, false, false, false, false, false, false, false, false, false, false, false, false, false, false, false, false, false, false, false, false, false, false, false, false, false, false, false, false, false, false] rfl rfl (any_of HT_.out (by kernel_rfl)) (fun _ _ _ h => h) (Or.inl ⟨by rfl, ?_⟩) ?_ ?_
 rotate_left
 ·intro w'
  go_simp
  with_reducible rfl
 rotate_left
 ·simp only [Act.put, List.setIfInBounds_toArray, List.set_cons_zero, List.set_cons_succ, i64_w, i32_w]
  rfl
 refine pure_ (i := 21) (N := some 143) (v := ?_) (a' := ?_) #[true, true, true, true, true, true, true, true, true, true, true, true, true, true, true, true, true, true, true, true, false, true, false, false, false, false, false, false, false, false, false, false, false, false, false, false, false, false, false, false, false, false, false, false, false, false, false, false, false, false] rfl rfl (any_of HT_.out (by kernel_rfl)) (fun _ _ _ h => h) (Or.inl ⟨by rfl, ?_⟩) ?_ ?_
 rotate_left
 ·intro w'
  go_simp
  with_reducible rfl
 rotate_left
 ·simp only [Act.put, List.setIfInBounds_toArray, List.set_cons_zero, List.set_cons_succ, i64_w, i32_w]
  rfl
 refine take_ (i := 20) (N := some 142) (v := ?_) (a' := ?_) #[true, true, true, true, true, true, true, true, true, true, true, true, true, true, true, true, true, true, true, true, true, true, false, false, false, false, false, false, false, false, false, false, false, false, false, false, false, false, false, false, false, false, false, false, false, false, false, false, false, false] rfl rfl (take_ofW HT_.out HW_.out (by kernel_rfl)) (fun _ _ _ h => h) (Or.inl ⟨by rfl, ?_⟩) hHeld ?_ ?_
 rotate_left
 ·rintro w' ⟨s0, s1, s2, s3, s4, s5, s6, s7⟩
  go_simp
  with_reducible rfl
 rotate_left
 ·simp only [Act.put, List.setIfInBounds_toArray, List.set_cons_zero, List.set_cons_succ, i64_w, i32_w]
  rfl
 refine pure_ (i := 22) (N := some 144) (v := ?_) (a' := ?_) #[true, true, true, true, true, true, true, true, true, true, true, true, true, true, true, true, true, true, true, true, true, true, true, false, false, false, false, false, false, false, false, false, false, false, false, false, false, false, false, false, false, false, false, false, false, false, false, false, false, false] rfl rfl (any_of HT_.out (by kernel_rfl)) (fun _ _ _ h => h) (Or.inl ⟨by rfl, ?_⟩) ?_ ?_
 rotate_left
 ·intro w'
  go_simp
  with_reducible rfl
 rotate_left
 ·simp only [Act.put, List.setIfInBounds_toArray, List.set_cons_zero, List.set_cons_succ, i64_w, i32_w]
  rfl
 refine pure_ (i := 23) (N := some 145) (v := ?_) (a' := ?_) #[true, true, true, true, true, true, true, true, true, true, true, true, true, true, true, true, true, true, true, true, true, true, true, true, false, false, false, false, false, false, false, false, false, false, false, false, false, false, false, false, false, false, false, false, false, false, false, false, false, false] rfl rfl (any_of HT_.out (by kernel_rfl)) (fun _ _ _ h => h) (Or.inl ⟨by rfl, ?_⟩) ?_ ?_
 rotate_left
 ·intro w'
  go_simp
  with_reducible rfl
 rotate_left
 ·simp only [Act.put, List.setIfInBounds_toArray, List.set_cons_zero, List.set_cons_succ, i64_w, i32_w]
  rfl
 refine pure_ (i := 24) (N := some 146) (v := ?_) (a' := ?_) #[true, true, true, true, true, true, true, true, true, true, true, true, true, true, true, true, true, true, true, true, true, true, true, true, true, false, false, false, false, false, false, false, false, false, false, false, false, false, false, false, false, false, false, false, false, false, false, false, false, false] rfl rfl (any_of HT_.out (by kernel_rfl)) (fun _ _ _ h => h) (Or.inl ⟨by rfl, ?_⟩) ?_ ?_
 rotate_left
 ·intro w'
  go_simp
  with_reducible rfl
 rotate_left
 ·simp only [Act.put, List.setIfInBounds_toArray, List.set_cons_zero, List.set_cons_succ, i64_w, i32_w]
  rfl
 refine pure_ (i := 25) (N := some 147) (v := ?_) (a' := ?_) #[true, true, true, true, true, true, true, true, true, true, true, true, true, true, true, true, true, true, true, true, true, true, true, true, true, true, false, false, false, false, false, false, false, false, false, false, false, false, false, false, false, false, false, false, false, false, false, false, false, false] rfl rfl (any_of HT_.out (by kernel_rfl)) (fun _ _ _ h => h) (Or.inl ⟨by rfl, ?_⟩) ?_ ?_
 rotate_left
 ·intro w'
  go_simp
  with_reducible rfl
 rotate_left
 ·simp only [Act.put, List.setIfInBounds_toArray, List.set_cons_zero, List.set_cons_succ, i64_w, i32_w]
  rfl
 refine pure_ (i := 26) (N := some 148) (v := ?_) (a' := ?_) #[true, true, true, true, true, true, true, true, true, true, true, true, true, true, true, true, true, true, true, true, true, true, true, true, true, true, true, false, false, false, false, false, false, false, false, false, false, false, false, false, false, false, false, false, false, false, false, false, false, false] rfl rfl (any_of HT_.out (by kernel_rfl)) (fun _ _ _ h => h) (Or.inl ⟨by rfl, ?_⟩) ?_ ?_
 rotate_left
 ·intro w'
  go_simp
  with_reducible rfl
 rotate_left
 ·simp only [Act.put, List.setIfInBounds_toArray, List.set_cons_zero, List.set_cons_succ, i64_w, i32_w]
  rfl
 refine pure_ (i := 27) (N := some 149) (v := ?_) (a' := ?_) #[true, true, true, true, true, true, true, true, true, true, true, true, true, true, true, true, true, true, true, true, true, true, true, true, true, true, true, true, false, false, false, false, false, false, false, false, false, false, false, false, false, false, false, false, false, false, false, false, false, false] rfl rfl (any_of HT_.out (by kernel_rfl)) (fun _ _ _ h => h) (Or.inl ⟨by rfl, ?_⟩) ?_ ?_
 rotate_left
 ·intro w'
  go_simp
  with_reducible rfl
 rotate_left
 ·simp only [Act.put, List.setIfInBounds_toArray, List.set_cons_zero, List.set_cons_succ, i64_w, i32_w]
  rfl
 refine pure_ (i := 28) (N := some 150) (v := ?_) (a' := ?_) #[true, true, true, true, true, true, true, true, true, true, true, true, true, true, true, true, true, true, true, true, true, true, true, true, true, true, true, true, true, false, false, false, false, false, false, false, false, false, false, false, false, false, false, false, false, false, false, false, false, false] rfl rfl (any_of HT_.out (by kernel_rfl)) (fun _ _ _ h => h) (Or.inl ⟨by rfl, ?_⟩) ?_ ?_
 rotate_left
 ·intro w'
  go_simp
  with_reducible rfl
 rotate_left
 ·simp only [Act.put, List.setIfInBounds_toArray, List.set_cons_zero, List.set_cons_succ, i64_w, i32_w]
  rfl
 refine pure_ (i := 29) (N := some 151) (v := ?_) (a' := ?_) #[true, true, true, true, true, true, true, true, true, true, true, true, true, true, true, true, true, true, true, true, true, true, true, true, true, true, true, true, true, true, false, false, false, false, false, false, false, false, false, false, false, false, false, false, false, false, false, false, false, false] rfl rfl (any_of HT_.out (by kernel_rfl)) (fun _ _ _ h => h) (Or.inl ⟨by rfl, ?_⟩) ?_ ?_
 rotate_left
 ·intro w'
  go_simp
  with_reducible rfl
 rotate_left
 ·simp only [Act.put, List.setIfInBounds_toArray, List.set_cons_zero, List.set_cons_succ, i64_w, i32_w]
  rfl
 refine pure_ (i := 30) (N := some 152) (v := ?_) (a' := ?_) #[true, true, true, true, true, true, true, true, true, true, true, true, true, true, true, true, true, true, true, true, true, true, true, true, true, true, true, true, true, true, true, false, false, false, false, false, false, false, false, false, false, false, false, false, false, false, false, false, false, false] rfl rfl (any_of HT_.out (by kernel_rfl)) (fun _ _ _ h => h) (Or.inl ⟨by rfl, ?_⟩) ?_ ?_
 rotate_left
 ·intro w'
  go_simp
  with_reducible rfl
 rotate_left
 ·simp only [Act.put, List.setIfInBounds_toArray, List.set_cons_zero, List.set_cons_succ, i64_w, i32_w]
  rfl
 refine pure_ (i := 31) (N := some 153) (v := ?_) (a' := ?_) #[true, true, true, true, true, true, true, true, true, true, true, true, true, true, true, true, true, true, true, true, true, true, true, true, true, true, true, true, true, true, true, true, false, false, false, false, false, false, false, false, false, false, false, false, false, false, false, false, false, false] rfl rfl (any_of HT_.out (by kernel_rfl)) (fun _ _ _ h => h) (Or.inl ⟨by rfl, ?_⟩) ?_ ?_
 rotate_left
 ·intro w'
  go_simp
  with_reducible rfl
 rotate_left
 ·simp only [Act.put, List.setIfInBounds_toArray, List.set_cons_zero, List.set_cons_succ, i64_w, i32_w]
  rfl
 refine pure_ (i := 32) (N := some 154) (v := ?_) (a' := ?_) #[true, true, true, true, true, true, true, true, true, true, true, true, true, true, true, true, true, true, true, true, true, true, true, true, true, true, true, true, true, true, true, true, true, false, false, false, false, false, false, false, false, false, false, false, false, false, false, false, false, false] rfl rfl (any_of HT_.out (by kernel_rfl)) (fun _ _ _ h => h) (Or.inl ⟨by rfl, ?_⟩) ?_ ?_
 rotate_left
 ·intro w'
  go_simp
  with_reducible rfl
 rotate_left
 ·simp only [Act.put, List.setIfInBounds_toArray, List.set_cons_zero, List.set_cons_succ, i64_w, i32_w]
  rfl
 refine take_ (i := 33) (N := some 155) (v := ?_) (a' := ?_) #[true, true, true, true, true, true, true, true, true, true, true, true, true, true, true, true, true, true, true, true, true, true, true, true, true, true, true, true, true, true, true, true, true, true, false, false, false, false, false, false, false, false, false, false, false, false, false, false, false, false] rfl rfl (take_ofW HT_.out HW_.out (by kernel_rfl)) (fun _ _ _ h => h) (Or.inl ⟨by rfl, ?_⟩) hHeld ?_ ?_
 rotate_left
 ·rintro w' ⟨s0, s1, s2, s3, s4, s5, s6, s7⟩
  go_simp
  with_reducible rfl
 rotate_left
 ·simp only [Act.put, List.setIfInBounds_toArray, List.set_cons_zero, List.set_cons_succ, i64_w, i32_w]
  rfl
 refine one_ (i := 34) (N := some 156) #[true, true, true, true, true, true, true, true, true, true, true, true, true, true, true, true, true, true, true, true, true, true, true, true, true, true, true, true, true, true, true, true, true, true, true, false, false, false, false, false, false, false, false, false, false, false, false, false, false, false] rfl rfl (one_of HT_.out (by kernel_rfl)) (by decide) (fun K hK => ?_)
 refine goes_ Try.func32 (by kernel_rfl) rfl #[.int .u64 18446744073709551615] (by rfl) rfl rfl (by (try simp only [List.map_toArray, List.map_cons, List.map_nil]); first | done | rfl | (simp only [List.length_drop, List.length_take]; rfl)) ?_
 with_reducible refine (wide_Of.calls 18446744073709551615 t635 t636 _ A30.out).mono ?_
 rintro e w215 ⟨rfl, hb⟩
 refine ⟨_, rfl, ?_⟩
 replace BK563 := bb_ BK563 hb
 replace BK569 := bb_ BK569 hb
 replace BK573 := bb_ BK573 hb
 replace BK579 := bb_ BK579 hb
 replace BK583 := bb_ BK583 hb
 replace BK587 := bb_ BK587 hb
 replace BK593 := bb_ BK593 hb
 replace BK604 := bb_ BK604 hb
 replace BK610 := bb_ BK610 hb
 replace BK615 := bb_ BK615 hb
 replace BK620 := bb_ BK620 hb
 replace BK624 := bb_ BK624 hb
 replace BK628 := bb_ BK628 hb
 replace BK634 := bb_ BK634 hb
 replace HB := Aside0.mk (below_step (by repeat (first | (with_reducible first | exact HB.out | apply below_alloc | apply pw_below_drewN | apply below_drew1 | refine below_set ?_ (Aside0.out (by assumption))) | exact HB.out)) hb)
 (try clear hb)
 (try clear hb2)
 (try clear hk)
 (try clear hi)
 refine hK.out _ _ ⟨(blk_cell BK579.out 0).trans rfl, (blk_cell BK579.out 1).trans rfl, (blk_cell BK563.out 0).trans rfl, (blk_cell BK563.out 1).trans rfl, (blk_cell BK583.out 0).trans rfl, (blk_cell BK583.out 1).trans rfl, (blk_cell BK593.out 0).trans rfl, (blk_cell BK593.out 1).trans rfl⟩ (fun hHeld => ?_)
 clear hK K
 refine norm_ (a' := ?_) ?_ ?_
 rotate_left
 ·show Act.put _ (some 156) _ = _
  simp only [Act.put, List.setIfInBounds_toArray, List.set_cons_zero, List.set_cons_succ, i64_w, i32_w]
  rfl
 refine pure_ (i := 35) (N := some 157) (v := ?_) (a' := ?_) #[true, true, true, true, true, true, true, true, true, true, true, true, true, true, true, true, true, true, true, true, true, true, true, true, true, true, true, true, true, true, true, true, true, true, true, true, false, false, false, false, false, false, false, false, false, false, false, false, false, false] rfl rfl (any_of HT_.out (by kernel_rfl)) (fun _ _ _ h => h) (Or.inl ⟨by rfl, ?_⟩) ?_ ?_
 rotate_left
 ·intro w'
  go_simp
  with_reducible rfl
 rotate_left
 ·simp only [Act.put, List.setIfInBounds_toArray, List.set_cons_zero, List.set_cons_succ, i64_w, i32_w]
  rfl
 refine pure_ (i := 36) (N := some 158) (v := ?_) (a' := ?_) #[true, true, true, true, true, true, true, true, true, true, true, true, true, true, true, true, true, true, true, true, true, true, true, true, true, true, true, true, true, true, true, true, true, true, true, true, true, false, false, false, false, false, false, false, false, false, false, false, false, false] rfl rfl (any_of HT_.out (by kernel_rfl)) (fun _ _ _ h => h) (Or.inl ⟨by rfl, ?_⟩) ?_ ?_
 rotate_left
 ·intro w'
  go_simp
  with_reducible rfl
 rotate_left
 ·simp only [Act.put, List.setIfInBounds_toArray, List.set_cons_zero, List.set_cons_succ, i64_w, i32_w]
  rfl
 refine pure_ (i := 37) (N := some 159) (v := ?_) (a' := ?_) #[true, true, true, true, true, true, true, true, true, true, true, true, true, true, true, true, true, true, true, true, true, true, true, true, true, true, true, true, true, true, true, true, true, true, true, true, true, true, false, false, false, false, false, false, false, false, false, false, false, false] rfl rfl (any_of HT_.out (by kernel_rfl)) (fun _ _ _ h => h) (Or.inl ⟨by rfl, ?_⟩) ?_ ?_
 rotate_left
 ·intro w'
  go_simp
  with_reducible rfl
 rotate_left
 ·simp only [Act.put, List.setIfInBounds_toArray, List.set_cons_zero, List.set_cons_succ, i64_w, i32_w]
  rfl
 refine pure_ (i := 38) (N := some 160) (v := ?_) (a' := ?_) #[true, true, true, true, true, true, true, true, true, true, true, true, true, true, true, true, true, true, true, true, true, true, true, true, true, true, true, true, true, true, true, true, true, true, true, true, true, true, true, false, false, false, false, false, false, false, false, false, false, false] rfl rfl (any_of HT_.out (by kernel_rfl)) (fun _ _ _ h => h) (Or.inl ⟨by rfl, ?_⟩) ?_ ?_
 rotate_left
 ·intro w'
  go_simp
  with_reducible rfl
 rotate_left
 ·simp only [Act.put, List.setIfInBounds_toArray, List.set_cons_zero, List.set_cons_succ, i64_w, i32_w]
  rfl
 refine pure_ (i := 39) (N := some 161) (v := ?_) (a' := ?_) #[true, true, true, true, true, true, true, true, true, true, true, true, true, true, true, true, true, true, true, true, true, true, true, true, true, true, true, true, true, true, true, true, true, true, true, true, true, true, true, true, false, false, false, false, false, false, false, false, false, false] rfl rfl (any_of HT_.out (by kernel_rfl)) (fun _ _ _ h => h) (Or.inl ⟨by rfl, ?_⟩) ?_ ?_
 rotate_left
 ·intro w'
  go_simp
  with_reducible rfl
 rotate_left
 ·simp only [Act.put, List.setIfInBounds_toArray, List.set_cons_zero, List.set_cons_succ, i64_w, i32_w]
  rfl
 refine pure_ (i := 40) (N := some 162) (v := ?_) (a' := ?_) #[true, true, true, true, true, true, true, true, true, true, true, true, true, true, true, true, true, true, true, true, true, true, true, true, true, true, true, true, true, true, true, true, true, true, true, true, true, true, true, true, true, false, false, false, false, false, false, false, false, false] rfl rfl (any_of HT_.out (by kernel_rfl)) (fun _ _ _ h => h) (Or.inl ⟨by rfl, ?_⟩) ?_ ?_
 rotate_left
 ·intro w'
  go_simp
  with_reducible rfl
 rotate_left
 ·simp only [Act.put, List.setIfInBounds_toArray, List.set_cons_zero, List.set_cons_succ, i64_w, i32_w]
  rfl
 refine pure_ (i := 41) (N := some 163) (v := ?_) (a' := ?_) #[true, true, true, true, true, true, true, true, true, true, true, true, true, true, true, true, true, true, true, true, true, true, true, true, true, true, true, true, true, true, true, true, true, true, true, true, true, true, true, true, true, true, false, false, false, false, false, false, false, false] rfl rfl (any_of HT_.out (by kernel_rfl)) (fun _ _ _ h => h) (Or.inl ⟨by rfl, ?_⟩) ?_ ?_
 rotate_left
 ·intro w'
  go_simp
  with_reducible rfl
 rotate_left
 ·simp only [Act.put, List.setIfInBounds_toArray, List.set_cons_zero, List.set_cons_succ, i64_w, i32_w]
  rfl
 refine pure_ (i := 42) (N := some 164) (v := ?_) (a' := ?_) #[true, true, true, true, true, true, true, true, true, true, true, true, true, true, true, true, true, true, true, true, true, true, true, true, true, true, true, true, true, true, true, true, true, true, true, true, true, true, true, true, true, true, true, false, false, false, false, false, false, false] rfl rfl (any_of HT_.out (by kernel_rfl)) (fun _ _ _ h => h) (Or.inl ⟨by rfl, ?_⟩) ?_ ?_
 rotate_left
 ·intro w'
  go_simp
  with_reducible rfl
 rotate_left
 ·simp only [Act.put, List.setIfInBounds_toArray, List.set_cons_zero, List.set_cons_succ, i64_w, i32_w]
  rfl
 refine pure_ (i := 43) (N := some 165) (v := ?_) (a' := ?_) #[true, true, true, true, true, true, true, true, true, true, true, true, true, true, true, true, true, true, true, true, true, true, true, true, true, true, true, true, true, true, true, true, true, true, true, true, true, true, true, true, true, true, true, true, false, false, false, false, false, false] rfl rfl (any_of HT_.out (by kernel_rfl)) (fun _ _ _ h => h) (Or.inl ⟨by rfl, ?_⟩) ?_ ?_
 rotate_left
 ·intro w'
  go_simp
  with_reducible rfl
 rotate_left
 ·simp only [Act.put, List.setIfInBounds_toArray, List.set_cons_zero, List.set_cons_succ, i64_w, i32_w]
  rfl
 refine pure_ (i := 44) (N := some 166) (v := ?_) (a' := ?_) #[true, true, true, true, true, true, true, true, true, true, true, true, true, true, true, true, true, true, true, true, true, true, true, true, true, true, true, true, true, true, true, true, true, true, true, true, true, true, true, true, true, true, true, true, true, false, false, false, false, false] rfl rfl (any_of HT_.out (by kernel_rfl)) (fun _ _ _ h => h) (Or.inl ⟨by rfl, ?_⟩) ?_ ?_
 rotate_left
 ·intro w'
  go_simp
  with_reducible rfl
 rotate_left
 ·simp only [Act.put, List.setIfInBounds_toArray, List.set_cons_zero, List.set_cons_succ, i64_w, i32_w]
  rfl
 refine pure_ (i := 45) (N := some 167) (v := ?_) (a' := ?_) #[true, true, true, true, true, true, true, true, true, true, true, true, true, true, true, true, true, true, true, true, true, true, true, true, true, true, true, true, true, true, true, true, true, true, true, true, true, true, true, true, true, true, true, true, true, true, false, false, false, false] rfl rfl (any_of HT_.out (by kernel_rfl)) (fun _ _ _ h => h) (Or.inl ⟨by rfl, ?_⟩) ?_ ?_
 rotate_left
 ·intro w'
  go_simp
  with_reducible rfl
 rotate_left
 ·simp only [Act.put, List.setIfInBounds_toArray, List.set_cons_zero, List.set_cons_succ, i64_w, i32_w]
  rfl
 refine pure_ (i := 46) (N := some 168) (v := ?_) (a' := ?_) #[true, true, true, true, true, true, true, true, true, true, true, true, true, true, true, true, true, true, true, true, true, true, true, true, true, true, true, true, true, true, true, true, true, true, true, true, true, true, true, true, true, true, true, true, true, true, true, false, false, false] rfl rfl (any_of HT_.out (by kernel_rfl)) (fun _ _ _ h => h) (Or.inl ⟨by rfl, ?_⟩) ?_ ?_
 rotate_left
 ·intro w'
  go_simp
  with_reducible rfl
 rotate_left
 ·simp only [Act.put, List.setIfInBounds_toArray, List.set_cons_zero, List.set_cons_succ, i64_w, i32_w]
  rfl
 refine pure_ (i := 47) (N := some 169) (v := ?_) (a' := ?_) #[true, true, true, true, true, true, true, true, true, true, true, true, true, true, true, true, true, true, true, true, true, true, true, true, true, true, true, true, true, true, true, true, true, true, true, true, true, true, true, true, true, true, true, true, true, true, true, true, false, false] rfl rfl (any_of HT_.out (by kernel_rfl)) (fun _ _ _ h => h) (Or.inl ⟨by rfl, ?_⟩) ?_ ?_
 rotate_left
 ·intro w'
  go_simp
  with_reducible rfl
 rotate_left
 ·simp only [Act.put, List.setIfInBounds_toArray, List.set_cons_zero, List.set_cons_succ, i64_w, i32_w]
  rfl
 refine pure_ (i := 48) (N := some 170) (v := ?_) (a' := ?_) #[true, true, true, true, true, true, true, true, true, true, true, true, true, true, true, true, true, true, true, true, true, true, true, true, true, true, true, true, true, true, true, true, true, true, true, true, true, true, true, true, true, true, true, true, true, true, true, true, true, false] rfl rfl (any_of HT_.out (by kernel_rfl)) (fun _ _ _ h => h) (Or.inl ⟨by rfl, ?_⟩) ?_ ?_
 rotate_left
 ·intro w'
  go_simp
  with_reducible rfl
 rotate_left
 ·simp only [Act.put, List.setIfInBounds_toArray, List.set_cons_zero, List.set_cons_succ, i64_w, i32_w]
  rfl
 refine pure_ (i := 49) (N := some 35) (v := ?_) (a' := ?_) #[true, true, true, true, true, true, true, true, true, true, true, true, true, true, true, true, true, true, true, true, true, true, true, true, true, true, true, true, true, true, true, true, true, true, true, true, true, true, true, true, true, true, true, true, true, true, true, true, true, true] rfl rfl (any_of HT_.out (by kernel_rfl)) (fun _ _ _ h => h) (Or.inl ⟨by rfl, ?_⟩) ?_ ?_
 rotate_left
 ·intro w'
  go_simp
  with_reducible rfl
 rotate_left
 ·simp only [Act.put, List.setIfInBounds_toArray, List.set_cons_zero, List.set_cons_succ, i64_w, i32_w]
  rfl
 refine done_ (done_of HT_.out (by kernel_rfl)) ?_
 have hcz216_0 : w215.cell? ⟨gb615, 0, none⟩ = some (.int .u64 t611) := (blk_cell BK615.out 0).trans rfl
 have hcz216_1 : w215.cell? ⟨gb615, 1, none⟩ = some (.int .u64 t612) := (blk_cell BK615.out 1).trans rfl
 have hfz216_0 := blk_frozen BK615.out 0
 have hfz216_1 := blk_frozen BK615.out 1
 have hcz217_0 : w215.cell? ⟨gb563, 0, none⟩ = some (.int .u64 18446744073709551615) := (blk_cell BK563.out 0).trans rfl
 have hcz217_1 : w215.cell? ⟨gb563, 1, none⟩ = some (.int .u64 18446744073709551615) := (blk_cell BK563.out 1).trans rfl
 have hfz217_0 := blk_frozen BK563.out 0
 have hfz217_1 := blk_frozen BK563.out 1
 have hcz218_0 : w215.cell? ⟨gb620, 0, none⟩ = some (.int .u64 t616) := (blk_cell BK620.out 0).trans rfl
 have hcz218_1 : w215.cell? ⟨gb620, 1, none⟩ = some (.int .u64 t617) := (blk_cell BK620.out 1).trans rfl
 have hfz218_0 := blk_frozen BK620.out 0
 have hfz218_1 := blk_frozen BK620.out 1
 have hcz219_0 : w215.cell? ⟨gb624, 0, none⟩ = some (.int .u64 t621) := (blk_cell BK624.out 0).trans rfl
 have hcz219_1 : w215.cell? ⟨gb624, 1, none⟩ = some (.int .u64 t622) := (blk_cell BK624.out 1).trans rfl
 have hfz219_0 := blk_frozen BK624.out 0
 have hfz219_1 := blk_frozen BK624.out 1
 have hcz220_0 : w215.cell? ⟨gb628, 0, none⟩ = some (.int .u64 t625) := (blk_cell BK628.out 0).trans rfl
 have hcz220_1 : w215.cell? ⟨gb628, 1, none⟩ = some (.int .u64 t626) := (blk_cell BK628.out 1).trans rfl
 have hfz220_0 := blk_frozen BK628.out 0
 have hfz220_1 := blk_frozen BK628.out 1
 have hcz221_0 : w215.cell? ⟨gb634, 0, none⟩ = some (.int .u64 t631) := (blk_cell BK634.out 0).trans rfl
 have hcz221_1 : w215.cell? ⟨gb634, 1, none⟩ = some (.int .u64 t632) := (blk_cell BK634.out 1).trans rfl
 have hfz221_0 := blk_frozen BK634.out 0
 have hfz221_1 := blk_frozen BK634.out 1
 try go_wp2_with (first | (go_at_call 30; (with_reducible refine (wide_Cmp.calls k 18446744073709551615 18446744073709551615 18446744073709551615 18446744073709551615 t637 _ A49.out).mono ?_); rintro e w222 ⟨rfl, hb⟩; replace BK563 := bb_ BK563 hb; replace BK569 := bb_ BK569 hb; replace BK573 := bb_ BK573 hb; replace BK579 := bb_ BK579 hb; replace BK583 := bb_ BK583 hb; replace BK587 := bb_ BK587 hb; replace BK593 := bb_ BK593 hb; replace BK604 := bb_ BK604 hb; replace BK610 := bb_ BK610 hb; replace BK615 := bb_ BK615 hb; replace BK620 := bb_ BK620 hb; replace BK624 := bb_ BK624 hb; replace BK628 := bb_ BK628 hb; replace BK634 := bb_ BK634 hb; replace HB := Aside0.mk (below_step (by repeat (first | (with_reducible first | exact HB.out | apply below_alloc | apply pw_below_drewN | apply below_drew1 | refine below_set ?_ (Aside0.out (by assumption))) | exact HB.out)) hb); (try clear hb); (try clear hb2); (try clear hk); (try clear hi)) | (go_at_call 32; (with_reducible refine (wide_Of.calls 18446744073709551615 t638 t639 _ A51.out).mono ?_); rintro e w223 ⟨rfl, hb⟩; replace BK563 := bb_ BK563 hb; replace BK569 := bb_ BK569 hb; replace BK573 := bb_ BK573 hb; replace BK579 := bb_ BK579 hb; replace BK583 := bb_ BK583 hb; replace BK587 := bb_ BK587 hb; replace BK593 := bb_ BK593 hb; replace BK604 := bb_ BK604 hb; replace BK610 := bb_ BK610 hb; replace BK615 := bb_ BK615 hb; replace BK620 := bb_ BK620 hb; replace BK624 := bb_ BK624 hb; replace BK628 := bb_ BK628 hb; replace BK634 := bb_ BK634 hb; replace HB := Aside0.mk (below_step (by repeat (first | (with_reducible first | exact HB.out | apply below_alloc | apply pw_below_drewN | apply below_drew1 | refine below_set ?_ (Aside0.out (by assumption))) | exact HB.out)) hb); (try clear hb); (try clear hb2); (try clear hk); (try clear hi)) | (go_at_call 30; (with_reducible refine (wide_Cmp.calls k 1 0 t638 t639 t640 _ A52.out).mono ?_); rintro e w224 ⟨rfl, hb⟩; replace BK563 := bb_ BK563 hb; replace BK569 := bb_ BK569 hb; replace BK573 := bb_ BK573 hb; replace BK579 := bb_ BK579 hb; replace BK583 := bb_ BK583 hb; replace BK587 := bb_ BK587 hb; replace BK593 := bb_ BK593 hb; replace BK604 := bb_ BK604 hb; replace BK610 := bb_ BK610 hb; replace BK615 := bb_ BK615 hb; replace BK620 := bb_ BK620 hb; replace BK624 := bb_ BK624 hb; replace BK628 := bb_ BK628 hb; replace BK634 := bb_ BK634 hb; replace HB := Aside0.mk (below_step (by repeat (first | (with_reducible first | exact HB.out | apply below_alloc | apply pw_below_drewN | apply below_drew1 | refine below_set ?_ (Aside0.out (by assumption))) | exact HB.out)) hb); (try clear hb); (try clear hb2); (try clear hk); (try clear hi)) | (go_at_call 32; (with_reducible refine (wide_Of.calls 1 t641 t642 _ A54.out).mono ?_); rintro e w225 ⟨rfl, hb⟩; replace BK563 := bb_ BK563 hb; replace BK569 := bb_ BK569 hb; replace BK573 := bb_ BK573 hb; replace BK579 := bb_ BK579 hb; replace BK583 := bb_ BK583 hb; replace BK587 := bb_ BK587 hb; replace BK593 := bb_ BK593 hb; replace BK604 := bb_ BK604 hb; replace BK610 := bb_ BK610 hb; replace BK615 := bb_ BK615 hb; replace BK620 := bb_ BK620 hb; replace BK624 := bb_ BK624 hb; replace BK628 := bb_ BK628 hb; replace BK634 := bb_ BK634 hb; replace HB := Aside0.mk (below_step (by repeat (first | (with_reducible first | exact HB.out | apply below_alloc | apply pw_below_drewN | apply below_drew1 | refine below_set ?_ (Aside0.out (by assumption))) | exact HB.out)) hb); (try clear hb); (try clear hb2); (try clear hk); (try clear hi)) | (go_at_call 32; (with_reducible refine (wide_Of.calls 2 t643 t644 _ A55.out).mono ?_); rintro e w226 ⟨rfl, hb⟩; replace BK563 := bb_ BK563 hb; replace BK569 := bb_ BK569 hb; replace BK573 := bb_ BK573 hb; replace BK579 := bb_ BK579 hb; replace BK583 := bb_ BK583 hb; replace BK587 := bb_ BK587 hb; replace BK593 := bb_ BK593 hb; replace BK604 := bb_ BK604 hb; replace BK610 := bb_ BK610 hb; replace BK615 := bb_ BK615 hb; replace BK620 := bb_ BK620 hb; replace BK624 := bb_ BK624 hb; replace BK628 := bb_ BK628 hb; replace BK634 := bb_ BK634 hb; replace HB := Aside0.mk (below_step (by repeat (first | (with_reducible first | exact HB.out | apply below_alloc | apply pw_below_drewN | apply below_drew1 | refine below_set ?_ (Aside0.out (by assumption))) | exact HB.out)) hb); (try clear hb); (try clear hb2); (try clear hk); (try clear hi)) | (go_at_call 30; (with_reducible refine (wide_Cmp.calls k t641 t642 t643 t644 t645 _ A56.out).mono ?_); rintro e w227 ⟨rfl, hb⟩; replace BK563 := bb_ BK563 hb; replace BK569 := bb_ BK569 hb; replace BK573 := bb_ BK573 hb; replace BK579 := bb_ BK579 hb; replace BK583 := bb_ BK583 hb; replace BK587 := bb_ BK587 hb; replace BK593 := bb_ BK593 hb; replace BK604 := bb_ BK604 hb; replace BK610 := bb_ BK610 hb; replace BK615 := bb_ BK615 hb; replace BK620 := bb_ BK620 hb; replace BK624 := bb_ BK624 hb; replace BK628 := bb_ BK628 hb; replace BK634 := bb_ BK634 hb; replace HB := Aside0.mk (below_step (by repeat (first | (with_reducible first | exact HB.out | apply below_alloc | apply pw_below_drewN | apply below_drew1 | refine below_set ?_ (Aside0.out (by assumption))) | exact HB.out)) hb); (try clear hb); (try clear hb2); (try clear hk); (try clear hi)) | (go_at_call 37; (with_reducible refine (wide_Mul.calls 0 18446744073709551615 t646 t647 _ A58.out).mono ?_); rintro e w228 ⟨rfl, hb⟩; replace BK563 := bb_ BK563 hb; replace BK569 := bb_ BK569 hb; replace BK573 := bb_ BK573 hb; replace BK579 := bb_ BK579 hb; replace BK583 := bb_ BK583 hb; replace BK587 := bb_ BK587 hb; replace BK593 := bb_ BK593 hb; replace BK604 := bb_ BK604 hb; replace BK610 := bb_ BK610 hb; replace BK615 := bb_ BK615 hb; replace BK620 := bb_ BK620 hb; replace BK624 := bb_ BK624 hb; replace BK628 := bb_ BK628 hb; replace BK634 := bb_ BK634 hb; replace HB := Aside0.mk (below_step (by repeat (first | (with_reducible first | exact HB.out | apply below_alloc | apply pw_below_drewN | apply below_drew1 | refine below_set ?_ (Aside0.out (by assumption))) | exact HB.out)) hb); (try clear hb); (try clear hb2); (try clear hk); (try clear hi)) | (go_at_call 39; (with_reducible refine (spigotlaw01_alive.calls k  t648 _ A60.out).mono ?_); rintro e w229 ⟨rfl, hb⟩; replace BK563 := bb_ BK563 hb; replace BK569 := bb_ BK569 hb; replace BK573 := bb_ BK573 hb; replace BK579 := bb_ BK579 hb; replace BK583 := bb_ BK583 hb; replace BK587 := bb_ BK587 hb; replace BK593 := bb_ BK593 hb; replace BK604 := bb_ BK604 hb; replace BK610 := bb_ BK610 hb; replace BK615 := bb_ BK615 hb; replace BK620 := bb_ BK620 hb; replace BK624 := bb_ BK624 hb; replace BK628 := bb_ BK628 hb; replace BK634 := bb_ BK634 hb; replace HB := Aside0.mk (below_step (by repeat (first | (with_reducible first | exact HB.out | apply below_alloc | apply pw_below_drewN | apply below_drew1 | refine below_set ?_ (Aside0.out (by assumption))) | exact HB.out)) hb); (try clear hb); (try clear hb2); (try clear hk); (try clear hi)))
 go_ret
 exact ⟨by first | rfl | (simp [errW_none, errW_some] <;> rfl) | (simp [*, errW_none, errW_some] <;> rfl), by repeat (first | (with_reducible first | exact HB.out | apply below_alloc | apply pw_below_drewN | apply below_drew1 | refine below_set ?_ GE563.out | refine below_set ?_ GE569.out | refine below_set ?_ GE573.out | refine below_set ?_ GE579.out | refine below_set ?_ GE583.out | refine below_set ?_ GE587.out | refine below_set ?_ GE593.out | refine below_set ?_ GE604.out | refine below_set ?_ GE610.out | refine below_set ?_ GE615.out | refine below_set ?_ GE620.out | refine below_set ?_ GE624.out | refine below_set ?_ GE628.out | refine below_set ?_ GE634.out) | exact HB.out)⟩

end Go.Proofs.Ytcdmjdghmbdikaa.X
