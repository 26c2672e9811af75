-- written by xprint.py, a program of this session over the kit's print
import Derived.Test.YtbfdpodlnijeoaaX0
import Derived.Test.YtbfdpodlnijeoaaX5
import Derived.Test.YtbfdpodlnijeoaaX12
import Derived.Test.YtbfdpodlnijeoaaX13
import Derived.Test.YtbfdpodlnijeoaaX14
import Derived.Test.YtbfdpodlnijeoaaX15
import Derived.Test.YtbfdpodlnijeoaaX20
import Derived.Test.YtbfdpodlnijeoaaX28
import Derived.Test.YtbfdpodlnijeoaaX34
namespace Go.Proofs.Ytbfdpodlnijeoaa.X
open Go.RowKit Go.Proofs.YtbfdpodlnijeoaaW.PrintWords Go.Proofs.YtbfdpodlnijeoaaW.PrintLast Go.Proofs.YtbfdpodlnijeoaaW.PrintMore
attribute [local go_sem] max2_int min2_int max_two min_two max_three min_three max_four min_four   -- for this text's walks alone
set_option linter.unusedVariables false
set_option linter.unusedSimpArgs false

/-! ### spigotlaw42_LeaseNames: function 8 -/
def spigotlaw42_LeaseNames.l0 : Nat → Bool → List (S31) → Int → Option (Bool)
  | 0, _, _, _ => none
  | k + 1, x7, x8, x9 => if x9 < (x8.length : Int) then ((spigotlaw42_given.f).bind fun bt794 => (if 0 ≤ x9 then ((lease_Step.f k bt794.1 bt794.2.1 bt794.2.2.1 bt794.2.2.2.1 bt794.2.2.2.2.1 bt794.2.2.2.2.2.1 bt794.2.2.2.2.2.2.1 bt794.2.2.2.2.2.2.2 ((rd_T31 x8 x9).f0) ((rd_T31 x8 x9).f1) ((rd_T31 x8 x9).f2) ((rd_T31 x8 x9).f3)).bind fun bt805 => (if x9 ≤ (wrap64 (x9 + 1)) then (if (wrap64 (x9 + 1)) ≤ (x8.length : Int) then ((lease_Spent.f k ((x8.take ((wrap64 (x9 + 1)) : Int).toNat).drop (x9 : Int).toNat) (([(-1)] : List Int))).bind fun bt825 => (if bt805.2.2.2.2.2.2.2.2.2 = 8 then (if bt825.2 = 8 then (spigotlaw42_LeaseNames.l0 k x7 x8 (wrap64 (x9 + 1))) else (none)) else (none))) else (none)) else (none))) else (none))) else ((spigotlaw42_given.f).bind fun bt827 => (if 0 < (bt827.2.2.2.2.2.2.2.length : Int) then (if 1 < (bt827.2.2.2.2.2.2.2.length : Int) then ((some ((bt827.2.2.2.2.2.2.2.set (0 : Int).toNat 1000000000000).set (1 : Int).toNat 999999999999 : List Int)).bind fun y839 => ((lease_Step.f k bt827.1 bt827.2.1 bt827.2.2.1 bt827.2.2.2.1 bt827.2.2.2.2.1 bt827.2.2.2.2.2.1 bt827.2.2.2.2.2.2.1 y839 1 0 0 0).bind fun bt840 => ((lease_Step.f k bt827.1 bt827.2.1 bt827.2.2.1 bt827.2.2.2.1 bt827.2.2.2.2.1 bt827.2.2.2.2.2.1 bt827.2.2.2.2.2.2.1 y839 1 1 0 0).bind fun bt853 => ((lease_Step.f k bt827.1 bt827.2.1 bt827.2.2.1 bt827.2.2.2.1 bt827.2.2.2.2.1 bt827.2.2.2.2.2.1 bt827.2.2.2.2.2.2.1 y839 3 0 99 0).bind fun bt866 => ((lease_Step.f k bt827.1 bt827.2.1 bt827.2.2.1 bt827.2.2.2.1 bt827.2.2.2.2.1 bt827.2.2.2.2.2.1 bt827.2.2.2.2.2.2.1 y839 4 0 0 0).bind fun bt879 => (if bt840.2.2.2.2.2.2.2.2.2 = 0 then (if bt840.2.2.2.2.2.2.2.2.1 = 0 then (if bt840.2.2.2.1 = 10 then (if bt853.2.2.2.2.2.2.2.2.2 = 0 then (if bt853.2.2.2.2.2.2.2.2.1 = 1 then (if bt853.2.2.2.1 = 9 then (if bt866.2.2.2.2.2.2.2.2.2 = 0 then (if bt866.2.2.2.2.2.2.2.2.1 = 1000000000000 then (if bt866.2.2.2.1 = 10 then (if bt866.2.2.2.2.2.1 = 99 then (if 0 < (bt866.2.2.2.2.2.2.2.1.length : Int) then (if (rd bt866.2.2.2.2.2.2.2.1 0) = 0 then (if bt879.2.2.2.2.2.2.2.2.2 = 0 then (if bt879.2.2.2.2.2.2.2.2.1 = 1000000000000 then (if 0 < (bt879.2.2.2.2.2.2.2.1.length : Int) then (if (rd bt879.2.2.2.2.2.2.2.1 0) = 0 then (if 1 < (bt879.2.2.2.2.2.2.2.1.length : Int) then ((spigotlaw42_given.f).bind fun bt895 => (if 0 < (bt895.2.2.2.2.2.2.2.length : Int) then ((some (bt895.2.2.2.2.2.2.2.set (0 : Int).toNat 2 : List Int)).bind fun y906 => ((lease_Step.f k 10 2 3 8 2 5 bt895.2.2.2.2.2.2.1 y906 3 0 5 0).bind fun bt907 => ((lease_Bound.f k 10 2 3 8 2 5 bt895.2.2.2.2.2.2.1 y906 5).bind fun bt920 => ((lease_Bound.f k 10 2 3 8 2 5 bt895.2.2.2.2.2.2.1 y906 18446744073709551615).bind fun bt922 => ((lease_Out.f k 10 2 3 8 2 5 bt895.2.2.2.2.2.2.1 y906).bind fun bt924 => (if bt907.2.2.2.2.2.2.2.2.2 = 0 then (if bt907.2.2.2.2.2.2.2.2.1 = 2 then (if bt907.2.2.2.1 = 10 then (if bt907.2.2.2.2.1 = 0 then (if bt920.2 = 0 then (if bt920.1 = 14 then (if bt922.2 = 0 then (if bt922.1 = 1000000000000000 then (if bt924.2 = 0 then ((spigotlaw42_given.f).bind fun bt926 => ((lease_Step.f k bt926.1 bt926.2.1 bt926.2.2.1 bt926.2.2.2.1 bt926.2.2.2.2.1 bt926.2.2.2.2.2.1 bt926.2.2.2.2.2.2.1 bt926.2.2.2.2.2.2.2 1 2 0 0).bind fun bt936 => ((spigotlaw42_given.f).bind fun bt949 => ((lease_Run.f k bt949.1 bt949.2.1 bt949.2.2.1 bt949.2.2.2.1 bt949.2.2.2.2.1 bt949.2.2.2.2.2.1 bt949.2.2.2.2.2.2.1 bt949.2.2.2.2.2.2.2 (List.replicate 101 z31)).bind fun bt962 => ((spigotlaw42_given.f).bind fun bt977 => ((lease_Run.f k bt977.1 bt977.2.1 bt977.2.2.1 bt977.2.2.2.1 bt977.2.2.2.2.1 bt977.2.2.2.2.2.1 bt977.2.2.2.2.2.2.1 bt977.2.2.2.2.2.2.2 (([(⟨1, 0, 0, 0⟩ : S31), (⟨1, 7, 0, 0⟩ : S31), (⟨0, 0, 0, 0⟩ : S31)] : List (S31)))).bind fun bt990 => ((spigotlaw42_given.f).bind fun bt1005 => ((lease_Run.f k bt1005.1 bt1005.2.1 bt1005.2.2.1 bt1005.2.2.2.1 bt1005.2.2.2.2.1 bt1005.2.2.2.2.2.1 bt1005.2.2.2.2.2.2.1 bt1005.2.2.2.2.2.2.2 ([] : List (S31))).bind fun bt1015 => ((lease_Spent.f k (List.replicate 101 z31) ([] : List Int)).bind fun bt1033 => ((lease_Spent.f k (([(⟨0, 0, 0, 0⟩ : S31)] : List (S31))) ([] : List Int)).bind fun bt1038 => ((lease_Spent.f k (([(⟨2, 0, 0, 3⟩ : S31)] : List (S31))) (([2] : List Int))).bind fun bt1046 => ((lease_Spent.f k (([(⟨2, 0, 0, 3⟩ : S31), (⟨1, 9, 0, 0⟩ : S31), (⟨2, 0, 0, 4⟩ : S31), (⟨2, 0, 0, 5⟩ : S31)] : List (S31))) (([3, 77, (-1), 5] : List Int))).bind fun bt1054 => (if bt936.2.2.2.2.2.2.2.2.2 = 2 then (if bt962.2.2.2.2.2.2.2.2.2 = 4 then (if bt990.2.2.2.2.2.2.2.2.2 = 2 then (if bt1015.2.2.2.2.2.2.2.2.2 = 0 then (if (bt1015.2.2.2.2.2.2.2.2.1.length : Int) = 0 then ((spigotlaw42_given.f).bind fun bt1056 => ((spigotref42_Same.f k bt1015.1 bt1015.2.1 bt1015.2.2.1 bt1015.2.2.2.1 bt1015.2.2.2.2.1 bt1015.2.2.2.2.2.1 bt1015.2.2.2.2.2.2.1 bt1015.2.2.2.2.2.2.2.1 bt1056.1 bt1056.2.1 bt1056.2.2.1 bt1056.2.2.2.1 bt1056.2.2.2.2.1 bt1056.2.2.2.2.2.1 bt1056.2.2.2.2.2.2.1 bt1056.2.2.2.2.2.2.2).bind fun t1066 => (if t1066 = true then (if bt1033.2 = 4 then (if bt1038.2 = 2 then (if bt1046.2 = 8 then (if bt1054.2 = 0 then (if x7 = true then (if (rd bt879.2.2.2.2.2.2.2.1 1) = 999999999999 then (if bt924.1 = 2 then (if bt1054.1 = 8 then ((spigotlaw42_alive.f k).bind fun t1067 => (some t1067)) else (none)) else (none)) else (none)) else (none)) else (none)) else (none)) else (none)) else (none)) else (none)))) else (none)) else (none)) else (none)) else (none)) else (none)))))))))))))) else (none)) else (none)) else (none)) else (none)) else (none)) else (none)) else (none)) else (none)) else (none))))))) else (none))) else (none)) else (none)) else (none)) else (none)) else (none)) else (none)) else (none)) else (none)) else (none)) else (none)) else (none)) else (none)) else (none)) else (none)) else (none)) else (none)) else (none))))))) else (none)) else (none)))
def spigotlaw42_LeaseNames.f (k : Nat)  : Option (Bool) := (spigotlaw42_given.f).bind fun bt699 => ((spigotlaw42_given.f).bind fun bt709 => ((spigotlaw42_given.f).bind fun bt719 => ((spigotlaw42_given.f).bind fun bt729 => ((spigotlaw42_given.f).bind fun bt739 => ((spigotlaw42_given.f).bind fun bt749 => (if 0 < (bt719.2.2.2.2.2.2.2.length : Int) then (if 1 < (bt729.2.2.2.2.2.2.2.length : Int) then ((lease_Check.f k bt699.1 bt699.2.1 bt699.2.2.1 bt699.2.2.2.1 bt699.2.2.2.2.1 bt699.2.2.2.2.2.1 bt699.2.2.2.2.2.2.1 ([] : List Int)).bind fun t770 => (if t770 = 8 then ((lease_Check.f k bt709.1 bt709.2.1 bt709.2.2.1 bt709.2.2.2.1 bt709.2.2.2.2.1 bt709.2.2.2.2.2.1 bt709.2.2.2.2.2.2.1 (List.replicate 13 0)).bind fun t771 => (if t771 = 8 then ((lease_Check.f k bt719.1 bt719.2.1 bt719.2.2.1 bt719.2.2.2.1 bt719.2.2.2.2.1 bt719.2.2.2.2.2.1 bt719.2.2.2.2.2.2.1 (bt719.2.2.2.2.2.2.2.set (0 : Int).toNat (-1))).bind fun t772 => (if t772 = 8 then ((lease_Check.f k bt729.1 bt729.2.1 bt729.2.2.1 bt729.2.2.2.1 bt729.2.2.2.2.1 bt729.2.2.2.2.2.1 bt729.2.2.2.2.2.2.1 (bt729.2.2.2.2.2.2.2.set (1 : Int).toNat 1000000000001)).bind fun t773 => (if t773 = 8 then ((lease_Check.f k bt739.1 bt739.2.1 bt739.2.2.1 bt739.2.2.2.1 bt739.2.2.2.2.1 bt739.2.2.2.2.2.1 0 bt739.2.2.2.2.2.2.2).bind fun t774 => (if t774 = 8 then ((lease_Check.f k bt749.1 bt749.2.1 bt749.2.2.1 bt749.2.2.2.1 bt749.2.2.2.2.1 bt749.2.2.2.2.2.1 1000000001 bt749.2.2.2.2.2.2.2).bind fun t775 => (if t775 = 8 then ((lease_Check.f k 0 0 0 0 0 0 1 (([0] : List Int))).bind fun t779 => (if t779 = 8 then ((spigotlaw42_given.f).bind fun bt780 => ((lease_Check.f k bt780.1 bt780.2.1 bt780.2.2.1 bt780.2.2.2.1 bt780.2.2.2.2.1 bt780.2.2.2.2.2.1 bt780.2.2.2.2.2.2.1 bt780.2.2.2.2.2.2.2).bind fun t790 => (spigotlaw42_LeaseNames.l0 k (t790 == 0) (([(⟨0, 0, 0, 0⟩ : S31), (⟨5, 0, 0, 0⟩ : S31), (⟨1, (-1), 0, 0⟩ : S31), (⟨1, 0, 0, 1⟩ : S31), (⟨3, 0, 0, 1⟩ : S31), (⟨4, 0, 0, 1⟩ : S31), (⟨2, 0, 0, (-1)⟩ : S31), (⟨2, 0, 0, 1000000001⟩ : S31)] : List (S31))) 0))) else (none))) else (none))) else (none))) else (none))) else (none))) else (none))) else (none))) else (none)) else (none)))))))
theorem spigotlaw42_LeaseNames.mono_l : ∀ k, (∀ y0 y1 y2, LeO (spigotlaw42_LeaseNames.l0 k y0 y1 y2) (spigotlaw42_LeaseNames.l0 (k + 1) y0 y1 y2))
  | 0 => fun _ _ _ r h => by simp [spigotlaw42_LeaseNames.l0] at h
  | k + 1 => by
    have ih0 := spigotlaw42_LeaseNames.mono_l k
    · intro y0 y1 y2
      unfold spigotlaw42_LeaseNames.l0
      repeat' first
      | (with_reducible exact ih0 _ _ _)
      | (with_reducible exact lease_Bound.mono _ _ _ _ _ _ _ _ _ _)
      | (with_reducible exact lease_Check.mono _ _ _ _ _ _ _ _ _)
      | (with_reducible exact lease_Out.mono _ _ _ _ _ _ _ _ _)
      | (with_reducible exact lease_Run.mono _ _ _ _ _ _ _ _ _ _)
      | (with_reducible exact lease_Spent.mono _ _ _)
      | (with_reducible exact lease_Step.mono _ _ _ _ _ _ _ _ _ _ _ _ _)
      | (with_reducible exact spigotlaw42_alive.mono _)
      | (with_reducible exact spigotref42_Same.mono _ _ _ _ _ _ _ _ _ _ _ _ _ _ _ _ _)
      | (with_reducible exact LeO.refl _)
      | (with_reducible exact LeO.none _)
      | (with_reducible refine LeO.ite ?_ ?_)
      | (with_reducible refine LeO.bind ?_ (fun _ => ?_))
      | exact ih0 _ _ _
      | exact lease_Bound.mono _ _ _ _ _ _ _ _ _ _
      | exact lease_Check.mono _ _ _ _ _ _ _ _ _
      | exact lease_Out.mono _ _ _ _ _ _ _ _ _
      | exact lease_Run.mono _ _ _ _ _ _ _ _ _ _
      | exact lease_Spent.mono _ _ _
      | exact lease_Step.mono _ _ _ _ _ _ _ _ _ _ _ _ _
      | exact spigotlaw42_alive.mono _
      | exact spigotref42_Same.mono _ _ _ _ _ _ _ _ _ _ _ _ _ _ _ _ _
      | exact LeO.none _
      | refine LeO.ite ?_ ?_
      | refine LeO.bind ?_ (fun _ => ?_)
theorem spigotlaw42_LeaseNames.mono : ∀ k, LeO (spigotlaw42_LeaseNames.f k ) (spigotlaw42_LeaseNames.f (k + 1) ) := by
  intro  k
  have ih0 := spigotlaw42_LeaseNames.mono_l k
  unfold spigotlaw42_LeaseNames.f
  repeat' first
      | (with_reducible exact ih0 _ _ _)
      | (with_reducible exact lease_Bound.mono _ _ _ _ _ _ _ _ _ _)
      | (with_reducible exact lease_Check.mono _ _ _ _ _ _ _ _ _)
      | (with_reducible exact lease_Out.mono _ _ _ _ _ _ _ _ _)
      | (with_reducible exact lease_Run.mono _ _ _ _ _ _ _ _ _ _)
      | (with_reducible exact lease_Spent.mono _ _ _)
      | (with_reducible exact lease_Step.mono _ _ _ _ _ _ _ _ _ _ _ _ _)
      | (with_reducible exact spigotlaw42_alive.mono _)
      | (with_reducible exact spigotref42_Same.mono _ _ _ _ _ _ _ _ _ _ _ _ _ _ _ _ _)
      | (with_reducible exact LeO.refl _)
      | (with_reducible exact LeO.none _)
      | (with_reducible refine LeO.ite ?_ ?_)
      | (with_reducible refine LeO.bind ?_ (fun _ => ?_))
      | exact ih0 _ _ _
      | exact lease_Bound.mono _ _ _ _ _ _ _ _ _ _
      | exact lease_Check.mono _ _ _ _ _ _ _ _ _
      | exact lease_Out.mono _ _ _ _ _ _ _ _ _
      | exact lease_Run.mono _ _ _ _ _ _ _ _ _ _
      | exact lease_Spent.mono _ _ _
      | exact lease_Step.mono _ _ _ _ _ _ _ _ _ _ _ _ _
      | exact spigotlaw42_alive.mono _
      | exact spigotref42_Same.mono _ _ _ _ _ _ _ _ _ _ _ _ _ _ _ _ _
      | exact LeO.none _
      | refine LeO.ite ?_ ?_
      | refine LeO.bind ?_ (fun _ => ?_)
def spigotlaw42_LeaseNames.T13 : Bool × List (List Nat × List Nat) := (true, [([], []), ([], []), ([], []), ([1, 2], [1, 2]), ([3], [3]), ([0, 4, 0], [0, 4]), ([5], [5]), ([6], [6]), ([6], [6]), ([6], [6]), ([], []), ([10, 7, 5, 0, 1, 2, 3, 4, 5, 6, 7, 10], [7, 10]), ([8, 11, 0, 1, 2, 3, 4, 5, 6, 7, 8, 10, 11], [8]), ([9, 12, 0, 1, 2, 3, 4, 5, 6, 7, 8, 9, 10, 11, 12], [9])])
def spigotlaw42_LeaseNames.B13 : List Nat := [0, 0, 0, 6, 14, 31, 63, 127, 127, 127, 0, 1279, 3583, 8191]
theorem spigotlaw42_LeaseNames.tab13 : rtab .any (opsOf Try.f8 13) = spigotlaw42_LeaseNames.T13 := by kernel_rfl
theorem spigotlaw42_LeaseNames.bits13 : waitsOk spigotlaw42_LeaseNames.T13.2 spigotlaw42_LeaseNames.B13 = true := by kernel_rfl
def spigotlaw42_LeaseNames.T34 : Bool × List (List Nat × List Nat) := (true, [([], []), ([], []), ([0, 1, 0], [0, 1]), ([2], [2]), ([3], [3]), ([3], [3]), ([3], [3]), ([], []), ([7, 4, 2, 0, 1, 2, 3, 4, 7], [4, 7]), ([5, 8, 0, 1, 2, 3, 4, 5, 7, 8], [5]), ([6, 9, 0, 1, 2, 3, 4, 5, 6, 7, 8, 9], [6])])
def spigotlaw42_LeaseNames.B34 : List Nat := [0, 0, 3, 7, 15, 15, 15, 0, 159, 447, 1023]
theorem spigotlaw42_LeaseNames.tab34 : rtab .any (opsOf Try.f8 34) = spigotlaw42_LeaseNames.T34 := by kernel_rfl
theorem spigotlaw42_LeaseNames.bits34 : waitsOk spigotlaw42_LeaseNames.T34.2 spigotlaw42_LeaseNames.B34 = true := by kernel_rfl
def spigotlaw42_LeaseNames.T41 : Bool × List (List Nat × List Nat) := (true, [([], []), ([0], [0]), ([1], [1]), ([2], [2]), ([3, 2], [2, 3]), ([2, 4], [2, 4]), ([5, 2], [5]), ([6], [6]), ([7, 6], [6, 7]), ([6, 8], [6, 8]), ([9, 6], [9]), ([10], [10]), ([11, 10], [10, 11]), ([10, 12], [10, 12]), ([13, 10], [13]), ([14], [14]), ([15, 14], [14, 15]), ([16, 14], [14, 16]), ([14, 17], [14, 17]), ([18, 14], [18]), ([19], [19]), ([19, 19], [19]), ([20, 21, 21, 19], [19, 20, 21]), ([19, 22], [19, 22]), ([23, 22], [23]), ([24], [24]), ([25, 24], [24, 25]), ([24, 26], [24, 26]), ([27, 24], [27]), ([28], [28]), ([29, 28], [28, 29]), ([28, 30], [28, 30]), ([31, 28], [31]), ([32], [32]), ([33, 32], [32, 33]), ([32, 34], [32, 34]), ([35, 32], [35]), ([36], [36]), ([37, 36], [36, 37]), ([36, 38], [36, 38]), ([39, 36], [39]), ([40], [40]), ([41, 40], [40, 41]), ([40, 42], [40, 42]), ([43, 40, 0, 1, 2, 3, 4, 5, 6, 7, 8, 9, 10, 11, 12, 13, 14, 15, 16, 17, 18, 19, 20, 21, 22, 23, 24, 25, 26, 27, 28, 29, 30, 31, 32, 33, 34, 35, 36, 37, 38, 39, 40, 41, 42, 43], [43])])
def spigotlaw42_LeaseNames.B41 : List Nat := [0, 1, 3, 7, 15, 31, 63, 127, 255, 511, 1023, 2047, 4095, 8191, 16383, 32767, 65535, 131071, 262143, 524287, 1048575, 1048575, 4194303, 8388607, 16777215, 33554431, 67108863, 134217727, 268435455, 536870911, 1073741823, 2147483647, 4294967295, 8589934591, 17179869183, 34359738367, 68719476735, 137438953471, 274877906943, 549755813887, 1099511627775, 2199023255551, 4398046511103, 8796093022207, 17592186044415]
theorem spigotlaw42_LeaseNames.tab41 : rtab .any (opsOf Try.f8 41) = spigotlaw42_LeaseNames.T41 := by kernel_rfl
theorem spigotlaw42_LeaseNames.bits41 : waitsOk spigotlaw42_LeaseNames.T41.2 spigotlaw42_LeaseNames.B41 = true := by kernel_rfl
theorem ip_ {p : Prop} (h : p) : p := h
section
variable {P : Program} {w : World} {g : Nat} {t t' : TypeId} {x y : Operand} {ρ : Operand → Value} {o : Oper} {c0 c1 c2 c3 c4 c5 c6 c7 v0 v1 v2 v3 v4 v5 v6 v7 : Value}
theorem st8_ (h : w.heap[g]? = some (.cells #[c0, c1, c2, c3, c4, c5, c6, c7] t' (0, 0))) (ho : o.op = .store t x y) (hx : ρ x = .pointer (some ⟨g, 0, none⟩)) (hy : ρ y = .agg #[v0, v1, v2, v3, v4, v5, v6, v7])
    (hi : (P.info? t).map (·.size) = some 8) (h1 : v0.oneCell' = true ∧ v1.oneCell' = true ∧ v2.oneCell' = true ∧ v3.oneCell' = true ∧ v4.oneCell' = true ∧ v5.oneCell' = true ∧ v6.oneCell' = true ∧ v7.oneCell' = true) :
    (execOp ρ o).run P w = .ok .skip ((((((((w.setCell ⟨g, 0, none⟩ v0).setCell ⟨g, 1, none⟩ v1).setCell ⟨g, 2, none⟩ v2).setCell ⟨g, 3, none⟩ v3).setCell ⟨g, 4, none⟩ v4).setCell ⟨g, 5, none⟩ v5).setCell ⟨g, 6, none⟩ v6).setCell ⟨g, 7, none⟩ v7) := by
  obtain ⟨a0, a1, a2, a3, a4, a5, a6, a7⟩ := h1
  have hs0 : w.cell? ⟨g, 0, none⟩ = some c0 := (blk_cell h 0).trans rfl
  have hf0 := blk_frozen h 0
  have hs1 : w.cell? ⟨g, 1, none⟩ = some c1 := (blk_cell h 1).trans rfl
  have hf1 := blk_frozen h 1
  have hs2 : w.cell? ⟨g, 2, none⟩ = some c2 := (blk_cell h 2).trans rfl
  have hf2 := blk_frozen h 2
  have hs3 : w.cell? ⟨g, 3, none⟩ = some c3 := (blk_cell h 3).trans rfl
  have hf3 := blk_frozen h 3
  have hs4 : w.cell? ⟨g, 4, none⟩ = some c4 := (blk_cell h 4).trans rfl
  have hf4 := blk_frozen h 4
  have hs5 : w.cell? ⟨g, 5, none⟩ = some c5 := (blk_cell h 5).trans rfl
  have hf5 := blk_frozen h 5
  have hs6 : w.cell? ⟨g, 6, none⟩ = some c6 := (blk_cell h 6).trans rfl
  have hf6 := blk_frozen h 6
  have hs7 : w.cell? ⟨g, 7, none⟩ = some c7 := (blk_cell h 7).trans rfl
  have hf7 := blk_frozen h 7
  obtain ⟨i, hi0, hi1⟩ : ∃ i, P.info? t = some i ∧ i.size = 8 := by cases hq : P.info? t with | none => simp [hq] at hi | some i => exact ⟨i, rfl, by simpa [hq] using hi⟩
  unfold execOp
  simp only [ho, hx, hy]
  clear h hi ho hx hy
  simp [go_sem, sizeOf, typeInfo, hi0, hi1, run_store, a0, a1, a2, a3, a4, a5, a6, a7, hs0, hs1, hs2, hs3, hs4, hs5, hs6, hs7, hf0, hf1, hf2, hf3, hf4, hf5, hf6, hf7]
end
set_option maxHeartbeats 40000000 in
set_option maxRecDepth 100000 in
theorem spigotlaw42_LeaseNames.calls (k : Nat)  (r : Bool) (w : World) (h : spigotlaw42_LeaseNames.f k  = some r) :
  Calls Try.prog 8 #[] w fun e w' => e = .returned (.bool r) ∧ Below w.heap.size w w' := by
 have hu29 := Try.underlying29
 have hu31 := Try.underlying31
 have hu23 := Try.underlying23
 have hu26 := Try.underlying26
 have HB := Aside0.mk (Below.refl w.heap.size w)
 have H : ((spigotlaw42_given.f).bind fun bt699 => ((spigotlaw42_given.f).bind fun bt709 => ((spigotlaw42_given.f).bind fun bt719 => ((spigotlaw42_given.f).bind fun bt729 => ((spigotlaw42_given.f).bind fun bt739 => ((spigotlaw42_given.f).bind fun bt749 => (if 0 < (bt719.2.2.2.2.2.2.2.length : Int) then (if 1 < (bt729.2.2.2.2.2.2.2.length : Int) then ((lease_Check.f k bt699.1 bt699.2.1 bt699.2.2.1 bt699.2.2.2.1 bt699.2.2.2.2.1 bt699.2.2.2.2.2.1 bt699.2.2.2.2.2.2.1 ([] : List Int)).bind fun t770 => (if t770 = 8 then ((lease_Check.f k bt709.1 bt709.2.1 bt709.2.2.1 bt709.2.2.2.1 bt709.2.2.2.2.1 bt709.2.2.2.2.2.1 bt709.2.2.2.2.2.2.1 (List.replicate 13 0)).bind fun t771 => (if t771 = 8 then ((lease_Check.f k bt719.1 bt719.2.1 bt719.2.2.1 bt719.2.2.2.1 bt719.2.2.2.2.1 bt719.2.2.2.2.2.1 bt719.2.2.2.2.2.2.1 (bt719.2.2.2.2.2.2.2.set (0 : Int).toNat (-1))).bind fun t772 => (if t772 = 8 then ((lease_Check.f k bt729.1 bt729.2.1 bt729.2.2.1 bt729.2.2.2.1 bt729.2.2.2.2.1 bt729.2.2.2.2.2.1 bt729.2.2.2.2.2.2.1 (bt729.2.2.2.2.2.2.2.set (1 : Int).toNat 1000000000001)).bind fun t773 => (if t773 = 8 then ((lease_Check.f k bt739.1 bt739.2.1 bt739.2.2.1 bt739.2.2.2.1 bt739.2.2.2.2.1 bt739.2.2.2.2.2.1 0 bt739.2.2.2.2.2.2.2).bind fun t774 => (if t774 = 8 then ((lease_Check.f k bt749.1 bt749.2.1 bt749.2.2.1 bt749.2.2.2.1 bt749.2.2.2.2.1 bt749.2.2.2.2.2.1 1000000001 bt749.2.2.2.2.2.2.2).bind fun t775 => (if t775 = 8 then ((lease_Check.f k 0 0 0 0 0 0 1 (([0] : List Int))).bind fun t779 => (if t779 = 8 then ((spigotlaw42_given.f).bind fun bt780 => ((lease_Check.f k bt780.1 bt780.2.1 bt780.2.2.1 bt780.2.2.2.1 bt780.2.2.2.2.1 bt780.2.2.2.2.2.1 bt780.2.2.2.2.2.2.1 bt780.2.2.2.2.2.2.2).bind fun t790 => (spigotlaw42_LeaseNames.l0 k (t790 == 0) (([(⟨0, 0, 0, 0⟩ : S31), (⟨5, 0, 0, 0⟩ : S31), (⟨1, (-1), 0, 0⟩ : S31), (⟨1, 0, 0, 1⟩ : S31), (⟨3, 0, 0, 1⟩ : S31), (⟨4, 0, 0, 1⟩ : S31), (⟨2, 0, 0, (-1)⟩ : S31), (⟨2, 0, 0, 1000000001⟩ : S31)] : List (S31))) 0))) else (none))) else (none))) else (none))) else (none))) else (none))) else (none))) else (none))) else (none)) else (none)))))))) = some r := h
 clear h
 have H0_ := bo_ H; clear H; obtain ⟨⟨t699, t700, t701, t702, t703, t704, t705, t706⟩, A1, H⟩ := H0_
 try dsimp only at H
 have H0_ := bo_ H; clear H; obtain ⟨⟨t709, t710, t711, t712, t713, t714, t715, t716⟩, A2, H⟩ := H0_
 try dsimp only at H
 have H0_ := bo_ H; clear H; obtain ⟨⟨t719, t720, t721, t722, t723, t724, t725, t726⟩, A3, H⟩ := H0_
 try dsimp only at H
 have H0_ := bo_ H; clear H; obtain ⟨⟨t729, t730, t731, t732, t733, t734, t735, t736⟩, A4, H⟩ := H0_
 try dsimp only at H
 have H0_ := bo_ H; clear H; obtain ⟨⟨t739, t740, t741, t742, t743, t744, t745, t746⟩, A5, H⟩ := H0_
 try dsimp only at H
 have H0_ := bo_ H; clear H; obtain ⟨⟨t749, t750, t751, t752, t753, t754, t755, t756⟩, A6, H⟩ := H0_
 try dsimp only at H
 obtain ⟨y765, hy765⟩ : ∃ y_ : List Int, y_ = (List.replicate 13 0) := ⟨_, rfl⟩
 replace H : (if 0 < (t726.length : Int) then (if 1 < (t736.length : Int) then ((lease_Check.f k t699 t700 t701 t702 t703 t704 t705 ([] : List Int)).bind fun t770 => (if t770 = 8 then ((lease_Check.f k t709 t710 t711 t712 t713 t714 t715 y765).bind fun t771 => (if t771 = 8 then ((lease_Check.f k t719 t720 t721 t722 t723 t724 t725 (t726.set (0 : Int).toNat (-1))).bind fun t772 => (if t772 = 8 then ((lease_Check.f k t729 t730 t731 t732 t733 t734 t735 (t736.set (1 : Int).toNat 1000000000001)).bind fun t773 => (if t773 = 8 then ((lease_Check.f k t739 t740 t741 t742 t743 t744 0 t746).bind fun t774 => (if t774 = 8 then ((lease_Check.f k t749 t750 t751 t752 t753 t754 1000000001 t756).bind fun t775 => (if t775 = 8 then ((lease_Check.f k 0 0 0 0 0 0 1 (([0] : List Int))).bind fun t779 => (if t779 = 8 then ((spigotlaw42_given.f).bind fun bt780 => ((lease_Check.f k bt780.1 bt780.2.1 bt780.2.2.1 bt780.2.2.2.1 bt780.2.2.2.2.1 bt780.2.2.2.2.2.1 bt780.2.2.2.2.2.2.1 bt780.2.2.2.2.2.2.2).bind fun t790 => (spigotlaw42_LeaseNames.l0 k (t790 == 0) (([(⟨0, 0, 0, 0⟩ : S31), (⟨5, 0, 0, 0⟩ : S31), (⟨1, (-1), 0, 0⟩ : S31), (⟨1, 0, 0, 1⟩ : S31), (⟨3, 0, 0, 1⟩ : S31), (⟨4, 0, 0, 1⟩ : S31), (⟨2, 0, 0, (-1)⟩ : S31), (⟨2, 0, 0, 1000000001⟩ : S31)] : List (S31))) 0))) else (none))) else (none))) else (none))) else (none))) else (none))) else (none))) else (none))) else (none)) else (none)) = some r := by first | (rw [hy765]; with_reducible exact H) | (have H2_ := (Option.bind_some _ _).symm.trans H; rw [hy765]; with_reducible exact H2_) | (have H2_ := (Option.bind_some _ _).symm.trans H; with_reducible exact H2_) | with_reducible exact H | (rw [hy765]; exact H) | exact H
 have Ny765 := Aside0.mk hy765
 clear hy765
 by_cases c7 : 0 < (t726.length : Int)
 rotate_left
 ·rw [if_neg c7] at H; exact absurd H (by simp)
 rw [if_pos c7] at H
 have c7b0 : decide (0 < (t726.length : Int)) = true := decide_eq_true c7
 have c7b1 : decide (0 < t726.length) = true := decide_eq_true (by omega)
 clear c7
 obtain ⟨y768, hy768⟩ : ∃ y_ : List Int, y_ = (t726.set (0 : Int).toNat (-1)) := ⟨_, rfl⟩
 replace H : (if 1 < (t736.length : Int) then ((lease_Check.f k t699 t700 t701 t702 t703 t704 t705 ([] : List Int)).bind fun t770 => (if t770 = 8 then ((lease_Check.f k t709 t710 t711 t712 t713 t714 t715 y765).bind fun t771 => (if t771 = 8 then ((lease_Check.f k t719 t720 t721 t722 t723 t724 t725 y768).bind fun t772 => (if t772 = 8 then ((lease_Check.f k t729 t730 t731 t732 t733 t734 t735 (t736.set (1 : Int).toNat 1000000000001)).bind fun t773 => (if t773 = 8 then ((lease_Check.f k t739 t740 t741 t742 t743 t744 0 t746).bind fun t774 => (if t774 = 8 then ((lease_Check.f k t749 t750 t751 t752 t753 t754 1000000001 t756).bind fun t775 => (if t775 = 8 then ((lease_Check.f k 0 0 0 0 0 0 1 (([0] : List Int))).bind fun t779 => (if t779 = 8 then ((spigotlaw42_given.f).bind fun bt780 => ((lease_Check.f k bt780.1 bt780.2.1 bt780.2.2.1 bt780.2.2.2.1 bt780.2.2.2.2.1 bt780.2.2.2.2.2.1 bt780.2.2.2.2.2.2.1 bt780.2.2.2.2.2.2.2).bind fun t790 => (spigotlaw42_LeaseNames.l0 k (t790 == 0) (([(⟨0, 0, 0, 0⟩ : S31), (⟨5, 0, 0, 0⟩ : S31), (⟨1, (-1), 0, 0⟩ : S31), (⟨1, 0, 0, 1⟩ : S31), (⟨3, 0, 0, 1⟩ : S31), (⟨4, 0, 0, 1⟩ : S31), (⟨2, 0, 0, (-1)⟩ : S31), (⟨2, 0, 0, 1000000001⟩ : S31)] : List (S31))) 0))) else (none))) else (none))) else (none))) else (none))) else (none))) else (none))) else (none))) else (none)) = some r := by first | (rw [hy768]; with_reducible exact H) | (have H2_ := (Option.bind_some _ _).symm.trans H; rw [hy768]; with_reducible exact H2_) | (have H2_ := (Option.bind_some _ _).symm.trans H; with_reducible exact H2_) | with_reducible exact H | (rw [hy768]; exact H) | exact H
 have Ny768 := Aside0.mk hy768
 clear hy768
 by_cases c9 : 1 < (t736.length : Int)
 rotate_left
 ·rw [if_neg c9] at H; exact absurd H (by simp)
 rw [if_pos c9] at H
 have c9b0 : decide (1 < (t736.length : Int)) = true := decide_eq_true c9
 have c9b1 : decide (1 < t736.length) = true := decide_eq_true (by omega)
 clear c9
 obtain ⟨y769, hy769⟩ : ∃ y_ : List Int, y_ = (t736.set (1 : Int).toNat 1000000000001) := ⟨_, rfl⟩
 replace H : ((lease_Check.f k t699 t700 t701 t702 t703 t704 t705 ([] : List Int)).bind fun t770 => (if t770 = 8 then ((lease_Check.f k t709 t710 t711 t712 t713 t714 t715 y765).bind fun t771 => (if t771 = 8 then ((lease_Check.f k t719 t720 t721 t722 t723 t724 t725 y768).bind fun t772 => (if t772 = 8 then ((lease_Check.f k t729 t730 t731 t732 t733 t734 t735 y769).bind fun t773 => (if t773 = 8 then ((lease_Check.f k t739 t740 t741 t742 t743 t744 0 t746).bind fun t774 => (if t774 = 8 then ((lease_Check.f k t749 t750 t751 t752 t753 t754 1000000001 t756).bind fun t775 => (if t775 = 8 then ((lease_Check.f k 0 0 0 0 0 0 1 (([0] : List Int))).bind fun t779 => (if t779 = 8 then ((spigotlaw42_given.f).bind fun bt780 => ((lease_Check.f k bt780.1 bt780.2.1 bt780.2.2.1 bt780.2.2.2.1 bt780.2.2.2.2.1 bt780.2.2.2.2.2.1 bt780.2.2.2.2.2.2.1 bt780.2.2.2.2.2.2.2).bind fun t790 => (spigotlaw42_LeaseNames.l0 k (t790 == 0) (([(⟨0, 0, 0, 0⟩ : S31), (⟨5, 0, 0, 0⟩ : S31), (⟨1, (-1), 0, 0⟩ : S31), (⟨1, 0, 0, 1⟩ : S31), (⟨3, 0, 0, 1⟩ : S31), (⟨4, 0, 0, 1⟩ : S31), (⟨2, 0, 0, (-1)⟩ : S31), (⟨2, 0, 0, 1000000001⟩ : S31)] : List (S31))) 0))) else (none))) else (none))) else (none))) else (none))) else (none))) else (none))) else (none))) = some r := by first | (rw [hy769]; with_reducible exact H) | (have H2_ := (Option.bind_some _ _).symm.trans H; rw [hy769]; with_reducible exact H2_) | (have H2_ := (Option.bind_some _ _).symm.trans H; with_reducible exact H2_) | with_reducible exact H | (rw [hy769]; exact H) | exact H
 have Ny769 := Aside0.mk hy769
 clear hy769
 have H0_ := bo_ H; clear H; obtain ⟨t770, A11, H⟩ := H0_
 try dsimp only at H
 replace H := ct_ H; obtain ⟨c12b0, c12b1, H⟩ := H
 have H0_ := bo_ H; clear H; obtain ⟨t771, A13, H⟩ := H0_
 try dsimp only at H
 replace H := ct_ H; obtain ⟨c14b0, c14b1, H⟩ := H
 have H0_ := bo_ H; clear H; obtain ⟨t772, A15, H⟩ := H0_
 try dsimp only at H
 replace H := ct_ H; obtain ⟨c16b0, c16b1, H⟩ := H
 have H0_ := bo_ H; clear H; obtain ⟨t773, A17, H⟩ := H0_
 try dsimp only at H
 replace H := ct_ H; obtain ⟨c18b0, c18b1, H⟩ := H
 have H0_ := bo_ H; clear H; obtain ⟨t774, A19, H⟩ := H0_
 try dsimp only at H
 replace H := ct_ H; obtain ⟨c20b0, c20b1, H⟩ := H
 have H0_ := bo_ H; clear H; obtain ⟨t775, A21, H⟩ := H0_
 try dsimp only at H
 replace H := ct_ H; obtain ⟨c22b0, c22b1, H⟩ := H
 obtain ⟨y776, hy776⟩ : ∃ y_ : List Int, y_ = (([0] : List Int)) := ⟨_, rfl⟩
 replace H : ((lease_Check.f k 0 0 0 0 0 0 1 y776).bind fun t779 => (if t779 = 8 then ((spigotlaw42_given.f).bind fun bt780 => ((lease_Check.f k bt780.1 bt780.2.1 bt780.2.2.1 bt780.2.2.2.1 bt780.2.2.2.2.1 bt780.2.2.2.2.2.1 bt780.2.2.2.2.2.2.1 bt780.2.2.2.2.2.2.2).bind fun t790 => (spigotlaw42_LeaseNames.l0 k (t790 == 0) (([(⟨0, 0, 0, 0⟩ : S31), (⟨5, 0, 0, 0⟩ : S31), (⟨1, (-1), 0, 0⟩ : S31), (⟨1, 0, 0, 1⟩ : S31), (⟨3, 0, 0, 1⟩ : S31), (⟨4, 0, 0, 1⟩ : S31), (⟨2, 0, 0, (-1)⟩ : S31), (⟨2, 0, 0, 1000000001⟩ : S31)] : List (S31))) 0))) else (none))) = some r := by first | (rw [hy776]; with_reducible exact H) | (have H2_ := (Option.bind_some _ _).symm.trans H; rw [hy776]; with_reducible exact H2_) | (have H2_ := (Option.bind_some _ _).symm.trans H; with_reducible exact H2_) | with_reducible exact H | (rw [hy776]; exact H) | exact H
 have Ny776 := Aside0.mk hy776
 clear hy776
 have H0_ := bo_ H; clear H; obtain ⟨t779, A23, H⟩ := H0_
 try dsimp only at H
 replace H := ct_ H; obtain ⟨c24b0, c24b1, H⟩ := H
 have H0_ := bo_ H; clear H; obtain ⟨⟨t780, t781, t782, t783, t784, t785, t786, t787⟩, A25, H⟩ := H0_
 try dsimp only at H
 have H0_ := bo_ H; clear H; obtain ⟨t790, A26, H⟩ := H0_
 try dsimp only at H
 obtain ⟨y791, hy791⟩ : ∃ y_ : List (S31), y_ = (([(⟨0, 0, 0, 0⟩ : S31), (⟨5, 0, 0, 0⟩ : S31), (⟨1, (-1), 0, 0⟩ : S31), (⟨1, 0, 0, 1⟩ : S31), (⟨3, 0, 0, 1⟩ : S31), (⟨4, 0, 0, 1⟩ : S31), (⟨2, 0, 0, (-1)⟩ : S31), (⟨2, 0, 0, 1000000001⟩ : S31)] : List (S31))) := ⟨_, rfl⟩
 replace H : (spigotlaw42_LeaseNames.l0 k (t790 == 0) y791 0) = some r := by first | (rw [hy791]; with_reducible exact H) | (have H2_ := (Option.bind_some _ _).symm.trans H; rw [hy791]; with_reducible exact H2_) | (have H2_ := (Option.bind_some _ _).symm.trans H; with_reducible exact H2_) | with_reducible exact H | (rw [hy791]; exact H) | exact H
 have Ny791 := Aside0.mk hy791
 clear hy791
 have H' := Aside0.mk H
 clear H
 go_enter Try.func8, Try.ntmps8
 try simp only [List.append]
 go_wp2_with (first | ((with_reducible refine gate_callee (f := 28) rfl ?_); (try refine ug_ (by rfl) ?_); refine goesA_ (some 61) Try.func28 #[] ?_; (with_reducible refine (spigotlaw42_given.calls  t699 t700 t701 t702 t703 t704 t705 t706 _ A1.out).mono ?_); rintro e w27 ⟨v707, rfl, ho0, hb⟩; refine ⟨_, rfl, ?_⟩; have HO708 := Aside0.mk (Kd.R_lower ho0 (below_size (hq_ HB))); replace HB := bs_ w hb; clear hb; (try clear ho0)) | ((with_reducible refine gate_callee (f := 28) rfl ?_); (try refine ug_ (by rfl) ?_); refine goesA_ (some 62) Try.func28 #[] ?_; (with_reducible refine (spigotlaw42_given.calls  t709 t710 t711 t712 t713 t714 t715 t716 _ A2.out).mono ?_); rintro e w28 ⟨v717, rfl, ho0, hb⟩; refine ⟨_, rfl, ?_⟩; have HO718 := Aside0.mk (Kd.R_lower (Kd.R_new' ho0 (Kd.R_lt (rs_ HO708))) (below_size (hq_ HB))); replace HO708 := Aside0.mk (Kd.R_elder' (rs_ HO708) (Kd.R_base ho0) hb); replace HB := bs_ w hb; (try clear hb); (try clear hb2); (try clear hk); (try clear hi); (try clear ho0)) | ((with_reducible refine gate_callee (f := 28) rfl ?_); (try refine ug_ (by rfl) ?_); refine goesA_ (some 63) Try.func28 #[] ?_; (with_reducible refine (spigotlaw42_given.calls  t719 t720 t721 t722 t723 t724 t725 t726 _ A3.out).mono ?_); rintro e w29 ⟨v727, rfl, ho0, hb⟩; refine ⟨_, rfl, ?_⟩; have HO728 := Aside0.mk (Kd.R_lower (Kd.R_new' (Kd.R_new' ho0 (Kd.R_lt (rs_ HO708))) (Kd.R_lt (rs_ HO718))) (below_size (hq_ HB))); replace HO708 := Aside0.mk (Kd.R_elder' (rs_ HO708) (Kd.R_base ho0) hb); replace HO718 := Aside0.mk (Kd.R_elder' (rs_ HO718) (Kd.R_base ho0) hb); replace HB := bs_ w hb; (try clear hb); (try clear hb2); (try clear hk); (try clear hi); (try clear ho0)) | ((with_reducible refine gate_callee (f := 28) rfl ?_); (try refine ug_ (by rfl) ?_); refine goesA_ (some 64) Try.func28 #[] ?_; (with_reducible refine (spigotlaw42_given.calls  t729 t730 t731 t732 t733 t734 t735 t736 _ A4.out).mono ?_); rintro e w30 ⟨v737, rfl, ho0, hb⟩; refine ⟨_, rfl, ?_⟩; have HO738 := Aside0.mk (Kd.R_lower (Kd.R_new' (Kd.R_new' (Kd.R_new' ho0 (Kd.R_lt (rs_ HO708))) (Kd.R_lt (rs_ HO718))) (Kd.R_lt (rs_ HO728))) (below_size (hq_ HB))); replace HO708 := Aside0.mk (Kd.R_elder' (rs_ HO708) (Kd.R_base ho0) hb); replace HO718 := Aside0.mk (Kd.R_elder' (rs_ HO718) (Kd.R_base ho0) hb); replace HO728 := Aside0.mk (Kd.R_elder' (rs_ HO728) (Kd.R_base ho0) hb); replace HB := bs_ w hb; (try clear hb); (try clear hb2); (try clear hk); (try clear hi); (try clear ho0)) | ((with_reducible refine gate_callee (f := 28) rfl ?_); (try refine ug_ (by rfl) ?_); refine goesA_ (some 65) Try.func28 #[] ?_; (with_reducible refine (spigotlaw42_given.calls  t739 t740 t741 t742 t743 t744 t745 t746 _ A5.out).mono ?_); rintro e w31 ⟨v747, rfl, ho0, hb⟩; refine ⟨_, rfl, ?_⟩; have HO748 := Aside0.mk (Kd.R_lower (Kd.R_new' (Kd.R_new' (Kd.R_new' (Kd.R_new' ho0 (Kd.R_lt (rs_ HO708))) (Kd.R_lt (rs_ HO718))) (Kd.R_lt (rs_ HO728))) (Kd.R_lt (rs_ HO738))) (below_size (hq_ HB))); replace HO708 := Aside0.mk (Kd.R_elder' (rs_ HO708) (Kd.R_base ho0) hb); replace HO718 := Aside0.mk (Kd.R_elder' (rs_ HO718) (Kd.R_base ho0) hb); replace HO728 := Aside0.mk (Kd.R_elder' (rs_ HO728) (Kd.R_base ho0) hb); replace HO738 := Aside0.mk (Kd.R_elder' (rs_ HO738) (Kd.R_base ho0) hb); replace HB := bs_ w hb; (try clear hb); (try clear hb2); (try clear hk); (try clear hi); (try clear ho0)) | ((with_reducible refine gate_callee (f := 28) rfl ?_); (try refine ug_ (by rfl) ?_); refine goesA_ (some 66) Try.func28 #[] ?_; (with_reducible refine (spigotlaw42_given.calls  t749 t750 t751 t752 t753 t754 t755 t756 _ A6.out).mono ?_); rintro e w32 ⟨v757, rfl, ho0, hb⟩; refine ⟨_, rfl, ?_⟩; have HO758 := Aside0.mk (Kd.R_lower (Kd.R_new' (Kd.R_new' (Kd.R_new' (Kd.R_new' (Kd.R_new' ho0 (Kd.R_lt (rs_ HO708))) (Kd.R_lt (rs_ HO718))) (Kd.R_lt (rs_ HO728))) (Kd.R_lt (rs_ HO738))) (Kd.R_lt (rs_ HO748))) (below_size (hq_ HB))); replace HO708 := Aside0.mk (Kd.R_elder' (rs_ HO708) (Kd.R_base ho0) hb); replace HO718 := Aside0.mk (Kd.R_elder' (rs_ HO718) (Kd.R_base ho0) hb); replace HO728 := Aside0.mk (Kd.R_elder' (rs_ HO728) (Kd.R_base ho0) hb); replace HO738 := Aside0.mk (Kd.R_elder' (rs_ HO738) (Kd.R_base ho0) hb); replace HO748 := Aside0.mk (Kd.R_elder' (rs_ HO748) (Kd.R_base ho0) hb); replace HB := bs_ w hb; (try clear hb); (try clear hb2); (try clear hk); (try clear hi); (try clear ho0)) | ((with_reducible refine gate_dst (N := 1) rfl ?_); (try refine ug_ (by rfl) ?_); refine bx_ #[.int .i64 0, .int .i64 0, .int .i64 0, .int .i64 0, .int .i64 0, .int .u64 0, .int .i64 0, .slice none 0 0] 29 ?_; intro gb759 hg w33 BK759 hb; have GW759 := bz_ w hg; replace HO708 := rb_ HO708 hb; replace HO718 := rb_ HO718 hb; replace HO728 := rb_ HO728 hb; replace HO738 := rb_ HO738 hb; replace HO748 := rb_ HO748 hb; replace HO758 := rb_ HO758 hb; replace HB := bs_ w hb; clear hb hg) | ((with_reducible refine gate_dst (N := 2) rfl ?_); (try refine ug_ (by rfl) ?_); refine bx_ #[.int .i64 0, .int .i64 0, .int .i64 0, .int .i64 0, .int .i64 0, .int .u64 0, .int .i64 0, .slice none 0 0] 29 ?_; intro gb760 hg w34 BK760 hb; have GW760 := bz_ w hg; have NB759_760 := bn_ BK759 hg; have NB760_759 := bm_ BK759 hg; replace HO708 := rb_ HO708 hb; replace HO718 := rb_ HO718 hb; replace HO728 := rb_ HO728 hb; replace HO738 := rb_ HO738 hb; replace HO748 := rb_ HO748 hb; replace HO758 := rb_ HO758 hb; replace BK759 := bb_ BK759 hb; replace HB := bs_ w hb; clear hb hg) | ((with_reducible refine gate_dst (N := 3) rfl ?_); (try refine ug_ (by rfl) ?_); refine bx_ #[.int .i64 0, .int .i64 0, .int .i64 0, .int .i64 0, .int .i64 0, .int .u64 0, .int .i64 0, .slice none 0 0] 29 ?_; intro gb761 hg w35 BK761 hb; have GW761 := bz_ w hg; have NB759_761 := bn_ BK759 hg; have NB761_759 := bm_ BK759 hg; have NB760_761 := bn_ BK760 hg; have NB761_760 := bm_ BK760 hg; replace HO708 := rb_ HO708 hb; replace HO718 := rb_ HO718 hb; replace HO728 := rb_ HO728 hb; replace HO738 := rb_ HO738 hb; replace HO748 := rb_ HO748 hb; replace HO758 := rb_ HO758 hb; replace BK759 := bb_ BK759 hb; replace BK760 := bb_ BK760 hb; replace HB := bs_ w hb; clear hb hg) | ((with_reducible refine gate_dst (N := 4) rfl ?_); (try refine ug_ (by rfl) ?_); refine bx_ #[.int .i64 0, .int .i64 0, .int .i64 0, .int .i64 0, .int .i64 0, .int .u64 0, .int .i64 0, .slice none 0 0] 29 ?_; intro gb762 hg w36 BK762 hb; have GW762 := bz_ w hg; have NB759_762 := bn_ BK759 hg; have NB762_759 := bm_ BK759 hg; have NB760_762 := bn_ BK760 hg; have NB762_760 := bm_ BK760 hg; have NB761_762 := bn_ BK761 hg; have NB762_761 := bm_ BK761 hg; replace HO708 := rb_ HO708 hb; replace HO718 := rb_ HO718 hb; replace HO728 := rb_ HO728 hb; replace HO738 := rb_ HO738 hb; replace HO748 := rb_ HO748 hb; replace HO758 := rb_ HO758 hb; replace BK759 := bb_ BK759 hb; replace BK760 := bb_ BK760 hb; replace BK761 := bb_ BK761 hb; replace HB := bs_ w hb; clear hb hg) | ((with_reducible refine gate_dst (N := 5) rfl ?_); (try refine ug_ (by rfl) ?_); refine bx_ #[.int .i64 0, .int .i64 0, .int .i64 0, .int .i64 0, .int .i64 0, .int .u64 0, .int .i64 0, .slice none 0 0] 29 ?_; intro gb763 hg w37 BK763 hb; have GW763 := bz_ w hg; have NB759_763 := bn_ BK759 hg; have NB763_759 := bm_ BK759 hg; have NB760_763 := bn_ BK760 hg; have NB763_760 := bm_ BK760 hg; have NB761_763 := bn_ BK761 hg; have NB763_761 := bm_ BK761 hg; have NB762_763 := bn_ BK762 hg; have NB763_762 := bm_ BK762 hg; replace HO708 := rb_ HO708 hb; replace HO718 := rb_ HO718 hb; replace HO728 := rb_ HO728 hb; replace HO738 := rb_ HO738 hb; replace HO748 := rb_ HO748 hb; replace HO758 := rb_ HO758 hb; replace BK759 := bb_ BK759 hb; replace BK760 := bb_ BK760 hb; replace BK761 := bb_ BK761 hb; replace BK762 := bb_ BK762 hb; replace HB := bs_ w hb; clear hb hg) | ((with_reducible refine gate_dst (N := 6) rfl ?_); (try refine ug_ (by rfl) ?_); refine bx_ #[.int .i64 0, .int .i64 0, .int .i64 0, .int .i64 0, .int .i64 0, .int .u64 0, .int .i64 0, .slice none 0 0] 29 ?_; intro gb764 hg w38 BK764 hb; have GW764 := bz_ w hg; have NB759_764 := bn_ BK759 hg; have NB764_759 := bm_ BK759 hg; have NB760_764 := bn_ BK760 hg; have NB764_760 := bm_ BK760 hg; have NB761_764 := bn_ BK761 hg; have NB764_761 := bm_ BK761 hg; have NB762_764 := bn_ BK762 hg; have NB764_762 := bm_ BK762 hg; have NB763_764 := bn_ BK763 hg; have NB764_763 := bm_ BK763 hg; replace HO708 := rb_ HO708 hb; replace HO718 := rb_ HO718 hb; replace HO728 := rb_ HO728 hb; replace HO738 := rb_ HO738 hb; replace HO748 := rb_ HO748 hb; replace HO758 := rb_ HO758 hb; replace BK759 := bb_ BK759 hb; replace BK760 := bb_ BK760 hb; replace BK761 := bb_ BK761 hb; replace BK762 := bb_ BK762 hb; replace BK763 := bb_ BK763 hb; replace HB := bs_ w hb; clear hb hg; replace hn759_760 := NB759_760.out; replace hn760_759 := NB760_759.out; replace hn759_761 := NB759_761.out; replace hn761_759 := NB761_759.out; replace hn759_762 := NB759_762.out; replace hn762_759 := NB762_759.out; replace hn759_763 := NB759_763.out; replace hn763_759 := NB763_759.out; replace hn759_764 := NB759_764.out; replace hn764_759 := NB764_759.out; replace hc759 := ce8_ BK759; obtain ⟨Ao45, co45, eo45⟩ := Kd.R_slice HO708.out; subst eo45; replace hn760_761 := NB760_761.out; replace hn761_760 := NB761_760.out; replace hn760_762 := NB760_762.out; replace hn762_760 := NB762_760.out; replace hn760_763 := NB760_763.out; replace hn763_760 := NB763_760.out; replace hn760_764 := NB760_764.out; replace hn764_760 := NB764_760.out; replace hc760 := ce8_ BK760; obtain ⟨Ao51, co51, eo51⟩ := Kd.R_slice HO718.out; subst eo51) | ((with_reducible refine gate_store (t := 29) (p := 2) rfl ?_); refine store_event (t := 29) (p := 2) (v := ?vo_w52) (w1 := ((((((((((((((((w38.setCell ⟨gb759, 0, none⟩ (.int .i64 t699)).setCell ⟨gb759, 1, none⟩ (.int .i64 t700)).setCell ⟨gb759, 2, none⟩ (.int .i64 t701)).setCell ⟨gb759, 3, none⟩ (.int .i64 t702)).setCell ⟨gb759, 4, none⟩ (.int .i64 t703)).setCell ⟨gb759, 5, none⟩ (.int .u64 t704)).setCell ⟨gb759, 6, none⟩ (.int .i64 t705)).setCell ⟨gb759, 7, none⟩ (.slice Ao45 t706.length co45)).setCell ⟨gb760, 0, none⟩ (.int .i64 t709)).setCell ⟨gb760, 1, none⟩ (.int .i64 t710)).setCell ⟨gb760, 2, none⟩ (.int .i64 t711)).setCell ⟨gb760, 3, none⟩ (.int .i64 t712)).setCell ⟨gb760, 4, none⟩ (.int .i64 t713)).setCell ⟨gb760, 5, none⟩ (.int .u64 t714)).setCell ⟨gb760, 6, none⟩ (.int .i64 t715)).setCell ⟨gb760, 7, none⟩ (.slice Ao51 t716.length co51))) ?hg ?ho ?hn ?hr ?_; (case ho => rfl); (case hg => rfl); (case hn => rfl); (case hr => first | (go_simp; done) | (go_simp; rfl)); intro w52 hw; replace HO708 : Aside0 (Kd.R (Kd.int .i64) 2 w52 w.heap.size (fun k_ => some k_ ≠ (.slice Ao51 t716.length co51 : Value).ownBlock ∧ some k_ ≠ (v727 : Value).ownBlock ∧ some k_ ≠ (v737 : Value).ownBlock ∧ some k_ ≠ (v747 : Value).ownBlock ∧ some k_ ≠ (v757 : Value).ownBlock) (.slice Ao45 t706.length co45) t706) := ⟨(by rw [hw]; exact (by (with_reducible repeat (first | apply Kd.R_alloc | apply Kd.R_drewN | apply Kd.R_drew)); exact Kd.R_mono (rf8_ (g := gb760) (rf8_ (g := gb759) (Kd.R_types (Kd.R_types HO708.out BK759.out (by decide)) BK760.out (by decide)) (fun _ hk => hk.1.2)) (fun _ hk => hk.2)) (fun _ hk => ⟨hk.1.1.1.1.1.1.2, ⟨hk.1.1.1.1.1.2, ⟨hk.1.1.1.1.2, ⟨hk.1.1.1.2, hk.1.1.2⟩⟩⟩⟩)))⟩; replace HO718 : Aside0 (Kd.R (Kd.int .i64) 2 w52 w.heap.size (fun k_ => some k_ ≠ (.slice Ao45 t706.length co45 : Value).ownBlock ∧ some k_ ≠ (v727 : Value).ownBlock ∧ some k_ ≠ (v737 : Value).ownBlock ∧ some k_ ≠ (v747 : Value).ownBlock ∧ some k_ ≠ (v757 : Value).ownBlock) (.slice Ao51 t716.length co51) t716) := ⟨(by rw [hw]; exact (by (with_reducible repeat (first | apply Kd.R_alloc | apply Kd.R_drewN | apply Kd.R_drew)); exact Kd.R_mono (rf8_ (g := gb760) (rf8_ (g := gb759) (Kd.R_types (Kd.R_types HO718.out BK759.out (by decide)) BK760.out (by decide)) (fun _ hk => hk.1.2)) (fun _ hk => hk.2)) (fun _ hk => ⟨hk.1.1.1.1.1.1.2, ⟨hk.1.1.1.1.1.2, ⟨hk.1.1.1.1.2, ⟨hk.1.1.1.2, hk.1.1.2⟩⟩⟩⟩)))⟩; replace HO728 : Aside0 (Kd.R (Kd.int .i64) 2 w52 w.heap.size (fun k_ => some k_ ≠ (.slice Ao45 t706.length co45 : Value).ownBlock ∧ some k_ ≠ (.slice Ao51 t716.length co51 : Value).ownBlock ∧ some k_ ≠ (v737 : Value).ownBlock ∧ some k_ ≠ (v747 : Value).ownBlock ∧ some k_ ≠ (v757 : Value).ownBlock) v727 t726) := ⟨(by rw [hw]; exact (by (with_reducible repeat (first | apply Kd.R_alloc | apply Kd.R_drewN | apply Kd.R_drew)); exact Kd.R_mono (rf8_ (g := gb760) (rf8_ (g := gb759) (Kd.R_types (Kd.R_types HO728.out BK759.out (by decide)) BK760.out (by decide)) (fun _ hk => hk.1.2)) (fun _ hk => hk.2)) (fun _ hk => ⟨hk.1.1.1.1.1.1.2, ⟨hk.1.1.1.1.1.2, ⟨hk.1.1.1.1.2, ⟨hk.1.1.1.2, hk.1.1.2⟩⟩⟩⟩)))⟩; replace HO738 : Aside0 (Kd.R (Kd.int .i64) 2 w52 w.heap.size (fun k_ => some k_ ≠ (.slice Ao45 t706.length co45 : Value).ownBlock ∧ some k_ ≠ (.slice Ao51 t716.length co51 : Value).ownBlock ∧ some k_ ≠ (v727 : Value).ownBlock ∧ some k_ ≠ (v747 : Value).ownBlock ∧ some k_ ≠ (v757 : Value).ownBlock) v737 t736) := ⟨(by rw [hw]; exact (by (with_reducible repeat (first | apply Kd.R_alloc | apply Kd.R_drewN | apply Kd.R_drew)); exact Kd.R_mono (rf8_ (g := gb760) (rf8_ (g := gb759) (Kd.R_types (Kd.R_types HO738.out BK759.out (by decide)) BK760.out (by decide)) (fun _ hk => hk.1.2)) (fun _ hk => hk.2)) (fun _ hk => ⟨hk.1.1.1.1.1.1.2, ⟨hk.1.1.1.1.1.2, ⟨hk.1.1.1.1.2, ⟨hk.1.1.1.2, hk.1.1.2⟩⟩⟩⟩)))⟩; replace HO748 : Aside0 (Kd.R (Kd.int .i64) 2 w52 w.heap.size (fun k_ => some k_ ≠ (.slice Ao45 t706.length co45 : Value).ownBlock ∧ some k_ ≠ (.slice Ao51 t716.length co51 : Value).ownBlock ∧ some k_ ≠ (v727 : Value).ownBlock ∧ some k_ ≠ (v737 : Value).ownBlock ∧ some k_ ≠ (v757 : Value).ownBlock) v747 t746) := ⟨(by rw [hw]; exact (by (with_reducible repeat (first | apply Kd.R_alloc | apply Kd.R_drewN | apply Kd.R_drew)); exact Kd.R_mono (rf8_ (g := gb760) (rf8_ (g := gb759) (Kd.R_types (Kd.R_types HO748.out BK759.out (by decide)) BK760.out (by decide)) (fun _ hk => hk.1.2)) (fun _ hk => hk.2)) (fun _ hk => ⟨hk.1.1.1.1.1.1.2, ⟨hk.1.1.1.1.1.2, ⟨hk.1.1.1.1.2, ⟨hk.1.1.1.2, hk.1.1.2⟩⟩⟩⟩)))⟩; replace HO758 : Aside0 (Kd.R (Kd.int .i64) 2 w52 w.heap.size (fun k_ => some k_ ≠ (.slice Ao45 t706.length co45 : Value).ownBlock ∧ some k_ ≠ (.slice Ao51 t716.length co51 : Value).ownBlock ∧ some k_ ≠ (v727 : Value).ownBlock ∧ some k_ ≠ (v737 : Value).ownBlock ∧ some k_ ≠ (v747 : Value).ownBlock) v757 t756) := ⟨(by rw [hw]; exact (by (with_reducible repeat (first | apply Kd.R_alloc | apply Kd.R_drewN | apply Kd.R_drew)); exact Kd.R_mono (rf8_ (g := gb760) (rf8_ (g := gb759) (Kd.R_types (Kd.R_types HO758.out BK759.out (by decide)) BK760.out (by decide)) (fun _ hk => hk.1.2)) (fun _ hk => hk.2)) (fun _ hk => ⟨hk.1.1.1.1.1.1.2, ⟨hk.1.1.1.1.1.2, ⟨hk.1.1.1.1.2, ⟨hk.1.1.1.2, hk.1.1.2⟩⟩⟩⟩)))⟩; replace BK759 : Aside0 (w52.heap[gb759]? = some (.cells #[.int .i64 t699, .int .i64 t700, .int .i64 t701, .int .i64 t702, .int .i64 t703, .int .u64 t704, .int .i64 t705, .slice Ao45 t706.length co45] 29 (0, 0))) := ⟨(by rw [hw]; exact (fr8_ (bp8_ (bq_ BK759)) NB759_760.out))⟩; replace BK760 : Aside0 (w52.heap[gb760]? = some (.cells #[.int .i64 t709, .int .i64 t710, .int .i64 t711, .int .i64 t712, .int .i64 t713, .int .u64 t714, .int .i64 t715, .slice Ao51 t716.length co51] 29 (0, 0))) := ⟨(by rw [hw]; exact (bp8_ (bt_ BK760)))⟩; replace BK761 : Aside0 (w52.heap[gb761]? = some (.cells #[.int .i64 0, .int .i64 0, .int .i64 0, .int .i64 0, .int .i64 0, .int .u64 0, .int .i64 0, .slice none 0 0] 29 (0, 0))) := ⟨(by rw [hw]; exact (bt_ BK761))⟩; replace BK762 : Aside0 (w52.heap[gb762]? = some (.cells #[.int .i64 0, .int .i64 0, .int .i64 0, .int .i64 0, .int .i64 0, .int .u64 0, .int .i64 0, .slice none 0 0] 29 (0, 0))) := ⟨(by rw [hw]; exact (bt_ BK762))⟩; replace BK763 : Aside0 (w52.heap[gb763]? = some (.cells #[.int .i64 0, .int .i64 0, .int .i64 0, .int .i64 0, .int .i64 0, .int .u64 0, .int .i64 0, .slice none 0 0] 29 (0, 0))) := ⟨(by rw [hw]; exact (bt_ BK763))⟩; replace BK764 : Aside0 (w52.heap[gb764]? = some (.cells #[.int .i64 0, .int .i64 0, .int .i64 0, .int .i64 0, .int .i64 0, .int .u64 0, .int .i64 0, .slice none 0 0] 29 (0, 0))) := ⟨(by rw [hw]; exact (bt_ BK764))⟩; replace HB : Aside0 (Below w.heap.size w w52) := ⟨(by rw [hw]; exact bh_)⟩; clear hw; have n_ := Aside0.mk (Kd.R_mono (ok' := (fun k_ => some k_ ≠ (v737 : Value).ownBlock ∧ some k_ ≠ (v747 : Value).ownBlock ∧ some k_ ≠ (v757 : Value).ownBlock)) HO728.out (fun k_ hk => ⟨hk.2.2.1, ⟨hk.2.2.2.1, hk.2.2.2.2⟩⟩)); clear HO728; have HO728 := n_; clear n_; have n_ := Aside0.mk (Kd.R_mono (ok' := (fun k_ => some k_ ≠ (v727 : Value).ownBlock ∧ some k_ ≠ (v747 : Value).ownBlock ∧ some k_ ≠ (v757 : Value).ownBlock)) HO738.out (fun k_ hk => ⟨hk.2.2.1, ⟨hk.2.2.2.1, hk.2.2.2.2⟩⟩)); clear HO738; have HO738 := n_; clear n_; have n_ := Aside0.mk (Kd.R_mono (ok' := (fun k_ => some k_ ≠ (v727 : Value).ownBlock ∧ some k_ ≠ (v737 : Value).ownBlock ∧ some k_ ≠ (v757 : Value).ownBlock)) HO748.out (fun k_ hk => ⟨hk.2.2.1, ⟨hk.2.2.2.1, hk.2.2.2.2⟩⟩)); clear HO748; have HO748 := n_; clear n_; have n_ := Aside0.mk (Kd.R_mono (ok' := (fun k_ => some k_ ≠ (v727 : Value).ownBlock ∧ some k_ ≠ (v737 : Value).ownBlock ∧ some k_ ≠ (v747 : Value).ownBlock)) HO758.out (fun k_ hk => ⟨hk.2.2.1, ⟨hk.2.2.2.1, hk.2.2.2.2⟩⟩)); clear HO758; have HO758 := n_; clear n_; (try clear HO708 HO718); replace hn761_762 := NB761_762.out; replace hn762_761 := NB762_761.out; replace hn761_763 := NB761_763.out; replace hn763_761 := NB763_761.out; replace hn761_764 := NB761_764.out; replace hn764_761 := NB764_761.out; replace hc761 := ce8_ BK761; obtain ⟨Ao57, co57, eo57⟩ := Kd.R_slice HO728.out; subst eo57; replace hn762_763 := NB762_763.out; replace hn763_762 := NB763_762.out; replace hn762_764 := NB762_764.out; replace hn764_762 := NB764_762.out; replace hc762 := ce8_ BK762; obtain ⟨Ao61, co61, eo61⟩ := Kd.R_slice HO738.out; subst eo61) | ((with_reducible refine gate_store (t := 29) (p := 4) rfl ?_); refine store_event (t := 29) (p := 4) (v := ?vo_w62) (w1 := ((((((((((((((((w52.setCell ⟨gb761, 0, none⟩ (.int .i64 t719)).setCell ⟨gb761, 1, none⟩ (.int .i64 t720)).setCell ⟨gb761, 2, none⟩ (.int .i64 t721)).setCell ⟨gb761, 3, none⟩ (.int .i64 t722)).setCell ⟨gb761, 4, none⟩ (.int .i64 t723)).setCell ⟨gb761, 5, none⟩ (.int .u64 t724)).setCell ⟨gb761, 6, none⟩ (.int .i64 t725)).setCell ⟨gb761, 7, none⟩ (.slice Ao57 t726.length co57)).setCell ⟨gb762, 0, none⟩ (.int .i64 t729)).setCell ⟨gb762, 1, none⟩ (.int .i64 t730)).setCell ⟨gb762, 2, none⟩ (.int .i64 t731)).setCell ⟨gb762, 3, none⟩ (.int .i64 t732)).setCell ⟨gb762, 4, none⟩ (.int .i64 t733)).setCell ⟨gb762, 5, none⟩ (.int .u64 t734)).setCell ⟨gb762, 6, none⟩ (.int .i64 t735)).setCell ⟨gb762, 7, none⟩ (.slice Ao61 t736.length co61))) ?hg ?ho ?hn ?hr ?_; (case ho => rfl); (case hg => rfl); (case hn => rfl); (case hr => first | (go_simp; done) | (go_simp; rfl)); intro w62 hw; replace HO728 : Aside0 (Kd.R (Kd.int .i64) 2 w62 w.heap.size (fun k_ => some k_ ≠ (.slice Ao61 t736.length co61 : Value).ownBlock ∧ some k_ ≠ (v747 : Value).ownBlock ∧ some k_ ≠ (v757 : Value).ownBlock) (.slice Ao57 t726.length co57) t726) := ⟨(by rw [hw]; exact (by (with_reducible repeat (first | apply Kd.R_alloc | apply Kd.R_drewN | apply Kd.R_drew)); exact Kd.R_mono (rf8_ (g := gb762) (rf8_ (g := gb761) (Kd.R_types (Kd.R_types HO728.out BK761.out (by decide)) BK762.out (by decide)) (fun _ hk => hk.1.2)) (fun _ hk => hk.2)) (fun _ hk => ⟨hk.1.1.1, ⟨hk.1.1.2.1, hk.1.1.2.2⟩⟩)))⟩; replace HO738 : Aside0 (Kd.R (Kd.int .i64) 2 w62 w.heap.size (fun k_ => some k_ ≠ (.slice Ao57 t726.length co57 : Value).ownBlock ∧ some k_ ≠ (v747 : Value).ownBlock ∧ some k_ ≠ (v757 : Value).ownBlock) (.slice Ao61 t736.length co61) t736) := ⟨(by rw [hw]; exact (by (with_reducible repeat (first | apply Kd.R_alloc | apply Kd.R_drewN | apply Kd.R_drew)); exact Kd.R_mono (rf8_ (g := gb762) (rf8_ (g := gb761) (Kd.R_types (Kd.R_types HO738.out BK761.out (by decide)) BK762.out (by decide)) (fun _ hk => hk.1.2)) (fun _ hk => hk.2)) (fun _ hk => ⟨hk.1.1.1, ⟨hk.1.1.2.1, hk.1.1.2.2⟩⟩)))⟩; replace HO748 : Aside0 (Kd.R (Kd.int .i64) 2 w62 w.heap.size (fun k_ => some k_ ≠ (.slice Ao57 t726.length co57 : Value).ownBlock ∧ some k_ ≠ (.slice Ao61 t736.length co61 : Value).ownBlock ∧ some k_ ≠ (v757 : Value).ownBlock) v747 t746) := ⟨(by rw [hw]; exact (by (with_reducible repeat (first | apply Kd.R_alloc | apply Kd.R_drewN | apply Kd.R_drew)); exact Kd.R_mono (rf8_ (g := gb762) (rf8_ (g := gb761) (Kd.R_types (Kd.R_types HO748.out BK761.out (by decide)) BK762.out (by decide)) (fun _ hk => hk.1.2)) (fun _ hk => hk.2)) (fun _ hk => ⟨hk.1.1.1, ⟨hk.1.1.2.1, hk.1.1.2.2⟩⟩)))⟩; replace HO758 : Aside0 (Kd.R (Kd.int .i64) 2 w62 w.heap.size (fun k_ => some k_ ≠ (.slice Ao57 t726.length co57 : Value).ownBlock ∧ some k_ ≠ (.slice Ao61 t736.length co61 : Value).ownBlock ∧ some k_ ≠ (v747 : Value).ownBlock) v757 t756) := ⟨(by rw [hw]; exact (by (with_reducible repeat (first | apply Kd.R_alloc | apply Kd.R_drewN | apply Kd.R_drew)); exact Kd.R_mono (rf8_ (g := gb762) (rf8_ (g := gb761) (Kd.R_types (Kd.R_types HO758.out BK761.out (by decide)) BK762.out (by decide)) (fun _ hk => hk.1.2)) (fun _ hk => hk.2)) (fun _ hk => ⟨hk.1.1.1, ⟨hk.1.1.2.1, hk.1.1.2.2⟩⟩)))⟩; replace BK759 : Aside0 (w62.heap[gb759]? = some (.cells #[.int .i64 t699, .int .i64 t700, .int .i64 t701, .int .i64 t702, .int .i64 t703, .int .u64 t704, .int .i64 t705, .slice Ao45 t706.length co45] 29 (0, 0))) := ⟨(by rw [hw]; exact (bt_ BK759))⟩; replace BK760 : Aside0 (w62.heap[gb760]? = some (.cells #[.int .i64 t709, .int .i64 t710, .int .i64 t711, .int .i64 t712, .int .i64 t713, .int .u64 t714, .int .i64 t715, .slice Ao51 t716.length co51] 29 (0, 0))) := ⟨(by rw [hw]; exact (bt_ BK760))⟩; replace BK761 : Aside0 (w62.heap[gb761]? = some (.cells #[.int .i64 t719, .int .i64 t720, .int .i64 t721, .int .i64 t722, .int .i64 t723, .int .u64 t724, .int .i64 t725, .slice Ao57 t726.length co57] 29 (0, 0))) := ⟨(by rw [hw]; exact (fr8_ (bp8_ (bq_ BK761)) NB761_762.out))⟩; replace BK762 : Aside0 (w62.heap[gb762]? = some (.cells #[.int .i64 t729, .int .i64 t730, .int .i64 t731, .int .i64 t732, .int .i64 t733, .int .u64 t734, .int .i64 t735, .slice Ao61 t736.length co61] 29 (0, 0))) := ⟨(by rw [hw]; exact (bp8_ (bt_ BK762)))⟩; replace BK763 : Aside0 (w62.heap[gb763]? = some (.cells #[.int .i64 0, .int .i64 0, .int .i64 0, .int .i64 0, .int .i64 0, .int .u64 0, .int .i64 0, .slice none 0 0] 29 (0, 0))) := ⟨(by rw [hw]; exact (bt_ BK763))⟩; replace BK764 : Aside0 (w62.heap[gb764]? = some (.cells #[.int .i64 0, .int .i64 0, .int .i64 0, .int .i64 0, .int .i64 0, .int .u64 0, .int .i64 0, .slice none 0 0] 29 (0, 0))) := ⟨(by rw [hw]; exact (bt_ BK764))⟩; replace HB : Aside0 (Below w.heap.size w w62) := ⟨(by rw [hw]; exact bh_)⟩; clear hw; replace hn763_764 := NB763_764.out; replace hn764_763 := NB764_763.out; replace hc763 := ce8_ BK763; obtain ⟨Ao65, co65, eo65⟩ := Kd.R_slice HO748.out; subst eo65; replace hc764 := ce8_ BK764; obtain ⟨Ao67, co67, eo67⟩ := Kd.R_slice HO758.out; subst eo67) | ((with_reducible refine gate_store (t := 29) (p := 6) rfl ?_); refine store_event (t := 29) (p := 6) (v := ?vo_w68) (w1 := ((((((((((((((((w62.setCell ⟨gb763, 0, none⟩ (.int .i64 t739)).setCell ⟨gb763, 1, none⟩ (.int .i64 t740)).setCell ⟨gb763, 2, none⟩ (.int .i64 t741)).setCell ⟨gb763, 3, none⟩ (.int .i64 t742)).setCell ⟨gb763, 4, none⟩ (.int .i64 t743)).setCell ⟨gb763, 5, none⟩ (.int .u64 t744)).setCell ⟨gb763, 6, none⟩ (.int .i64 t745)).setCell ⟨gb763, 7, none⟩ (.slice Ao65 t746.length co65)).setCell ⟨gb764, 0, none⟩ (.int .i64 t749)).setCell ⟨gb764, 1, none⟩ (.int .i64 t750)).setCell ⟨gb764, 2, none⟩ (.int .i64 t751)).setCell ⟨gb764, 3, none⟩ (.int .i64 t752)).setCell ⟨gb764, 4, none⟩ (.int .i64 t753)).setCell ⟨gb764, 5, none⟩ (.int .u64 t754)).setCell ⟨gb764, 6, none⟩ (.int .i64 t755)).setCell ⟨gb764, 7, none⟩ (.slice Ao67 t756.length co67))) ?hg ?ho ?hn ?hr ?_; (case ho => rfl); (case hg => rfl); (case hn => rfl); (case hr => first | (go_simp; done) | (go_simp; rfl)); intro w68 hw; replace HO728 : Aside0 (Kd.R (Kd.int .i64) 2 w68 w.heap.size (fun k_ => some k_ ≠ (.slice Ao61 t736.length co61 : Value).ownBlock ∧ some k_ ≠ (.slice Ao65 t746.length co65 : Value).ownBlock ∧ some k_ ≠ (.slice Ao67 t756.length co67 : Value).ownBlock) (.slice Ao57 t726.length co57) t726) := ⟨(by rw [hw]; exact (by (with_reducible repeat (first | apply Kd.R_alloc | apply Kd.R_drewN | apply Kd.R_drew)); exact Kd.R_mono (rf8_ (g := gb764) (rf8_ (g := gb763) (Kd.R_types (Kd.R_types HO728.out BK763.out (by decide)) BK764.out (by decide)) (fun _ hk => hk.1.2)) (fun _ hk => hk.2)) (fun _ hk => ⟨hk.1.1.1, ⟨hk.1.1.2.1, hk.1.1.2.2⟩⟩)))⟩; replace HO738 : Aside0 (Kd.R (Kd.int .i64) 2 w68 w.heap.size (fun k_ => some k_ ≠ (.slice Ao57 t726.length co57 : Value).ownBlock ∧ some k_ ≠ (.slice Ao65 t746.length co65 : Value).ownBlock ∧ some k_ ≠ (.slice Ao67 t756.length co67 : Value).ownBlock) (.slice Ao61 t736.length co61) t736) := ⟨(by rw [hw]; exact (by (with_reducible repeat (first | apply Kd.R_alloc | apply Kd.R_drewN | apply Kd.R_drew)); exact Kd.R_mono (rf8_ (g := gb764) (rf8_ (g := gb763) (Kd.R_types (Kd.R_types HO738.out BK763.out (by decide)) BK764.out (by decide)) (fun _ hk => hk.1.2)) (fun _ hk => hk.2)) (fun _ hk => ⟨hk.1.1.1, ⟨hk.1.1.2.1, hk.1.1.2.2⟩⟩)))⟩; replace HO748 : Aside0 (Kd.R (Kd.int .i64) 2 w68 w.heap.size (fun k_ => some k_ ≠ (.slice Ao57 t726.length co57 : Value).ownBlock ∧ some k_ ≠ (.slice Ao61 t736.length co61 : Value).ownBlock ∧ some k_ ≠ (.slice Ao67 t756.length co67 : Value).ownBlock) (.slice Ao65 t746.length co65) t746) := ⟨(by rw [hw]; exact (by (with_reducible repeat (first | apply Kd.R_alloc | apply Kd.R_drewN | apply Kd.R_drew)); exact Kd.R_mono (rf8_ (g := gb764) (rf8_ (g := gb763) (Kd.R_types (Kd.R_types HO748.out BK763.out (by decide)) BK764.out (by decide)) (fun _ hk => hk.1.2)) (fun _ hk => hk.2)) (fun _ hk => ⟨hk.1.1.1, ⟨hk.1.1.2.1, hk.1.1.2.2⟩⟩)))⟩; replace HO758 : Aside0 (Kd.R (Kd.int .i64) 2 w68 w.heap.size (fun k_ => some k_ ≠ (.slice Ao57 t726.length co57 : Value).ownBlock ∧ some k_ ≠ (.slice Ao61 t736.length co61 : Value).ownBlock ∧ some k_ ≠ (.slice Ao65 t746.length co65 : Value).ownBlock) (.slice Ao67 t756.length co67) t756) := ⟨(by rw [hw]; exact (by (with_reducible repeat (first | apply Kd.R_alloc | apply Kd.R_drewN | apply Kd.R_drew)); exact Kd.R_mono (rf8_ (g := gb764) (rf8_ (g := gb763) (Kd.R_types (Kd.R_types HO758.out BK763.out (by decide)) BK764.out (by decide)) (fun _ hk => hk.1.2)) (fun _ hk => hk.2)) (fun _ hk => ⟨hk.1.1.1, ⟨hk.1.1.2.1, hk.1.1.2.2⟩⟩)))⟩; replace BK759 : Aside0 (w68.heap[gb759]? = some (.cells #[.int .i64 t699, .int .i64 t700, .int .i64 t701, .int .i64 t702, .int .i64 t703, .int .u64 t704, .int .i64 t705, .slice Ao45 t706.length co45] 29 (0, 0))) := ⟨(by rw [hw]; exact (bt_ BK759))⟩; replace BK760 : Aside0 (w68.heap[gb760]? = some (.cells #[.int .i64 t709, .int .i64 t710, .int .i64 t711, .int .i64 t712, .int .i64 t713, .int .u64 t714, .int .i64 t715, .slice Ao51 t716.length co51] 29 (0, 0))) := ⟨(by rw [hw]; exact (bt_ BK760))⟩; replace BK761 : Aside0 (w68.heap[gb761]? = some (.cells #[.int .i64 t719, .int .i64 t720, .int .i64 t721, .int .i64 t722, .int .i64 t723, .int .u64 t724, .int .i64 t725, .slice Ao57 t726.length co57] 29 (0, 0))) := ⟨(by rw [hw]; exact (bt_ BK761))⟩; replace BK762 : Aside0 (w68.heap[gb762]? = some (.cells #[.int .i64 t729, .int .i64 t730, .int .i64 t731, .int .i64 t732, .int .i64 t733, .int .u64 t734, .int .i64 t735, .slice Ao61 t736.length co61] 29 (0, 0))) := ⟨(by rw [hw]; exact (bt_ BK762))⟩; replace BK763 : Aside0 (w68.heap[gb763]? = some (.cells #[.int .i64 t739, .int .i64 t740, .int .i64 t741, .int .i64 t742, .int .i64 t743, .int .u64 t744, .int .i64 t745, .slice Ao65 t746.length co65] 29 (0, 0))) := ⟨(by rw [hw]; exact (fr8_ (bp8_ (bq_ BK763)) NB763_764.out))⟩; replace BK764 : Aside0 (w68.heap[gb764]? = some (.cells #[.int .i64 t749, .int .i64 t750, .int .i64 t751, .int .i64 t752, .int .i64 t753, .int .u64 t754, .int .i64 t755, .slice Ao67 t756.length co67] 29 (0, 0))) := ⟨(by rw [hw]; exact (bp8_ (bt_ BK764)))⟩; replace HB : Aside0 (Below w.heap.size w w68) := ⟨(by rw [hw]; exact bh_)⟩; clear hw; replace hc759 := ce8_ BK759) | ((with_reducible refine gate_dst (N := 68) rfl ?_); (try refine ug_ (by rfl) ?_); refine Kd.R_make (Kd.int .i64) _ 2 rfl (N := 68) rfl 27 _ _ rfl 13 rfl rfl Try.underlying27 (.int .i64 0) 8 info2 rfl (by decide) (by omega) 0 (ok := fun _ => True) (okp := fun _ => True) rfl (fun _ hk => hk) trivial (by omega) (by omega) (Below.refl _ _) (Nat.le_refl _) ?_; intro v766 w70 ho71 hb hg_ hnew_; clear hg_ hnew_; (first | rw [← Ny765.out] at ho71 | (simp only [Int.reduceToNat] at ho71; rw [← Ny765.out] at ho71)); have HO767 := Aside0.mk (Kd.R_lower (Kd.R_new' (Kd.R_new' (Kd.R_new' (Kd.R_new' ho71 (Kd.R_lt (by (with_reducible repeat (first | apply Kd.R_alloc | apply Kd.R_drewN | apply Kd.R_drew)); exact (Kd.R_mono (Kd.R_far (p := ⟨gb759, 7, none⟩) (Kd.R_types HO728.out BK759.out (by decide)) (fun _ hk => hk.2) (.slice none 0 0)) (fun _ h_ => h_.1))))) (Kd.R_lt (by (with_reducible repeat (first | apply Kd.R_alloc | apply Kd.R_drewN | apply Kd.R_drew)); exact (Kd.R_mono (Kd.R_far (p := ⟨gb759, 7, none⟩) (Kd.R_types HO738.out BK759.out (by decide)) (fun _ hk => hk.2) (.slice none 0 0)) (fun _ h_ => h_.1))))) (Kd.R_lt (by (with_reducible repeat (first | apply Kd.R_alloc | apply Kd.R_drewN | apply Kd.R_drew)); exact (Kd.R_mono (Kd.R_far (p := ⟨gb759, 7, none⟩) (Kd.R_types HO748.out BK759.out (by decide)) (fun _ hk => hk.2) (.slice none 0 0)) (fun _ h_ => h_.1))))) (Kd.R_lt (by (with_reducible repeat (first | apply Kd.R_alloc | apply Kd.R_drewN | apply Kd.R_drew)); exact (Kd.R_mono (Kd.R_far (p := ⟨gb759, 7, none⟩) (Kd.R_types HO758.out BK759.out (by decide)) (fun _ hk => hk.2) (.slice none 0 0)) (fun _ h_ => h_.1))))) (below_size bh_)); replace HO728 := Aside0.mk (Kd.R_elder' (by (with_reducible repeat (first | apply Kd.R_alloc | apply Kd.R_drewN | apply Kd.R_drew)); exact (Kd.R_mono (Kd.R_far (p := ⟨gb759, 7, none⟩) (Kd.R_types HO728.out BK759.out (by decide)) (fun _ hk => hk.2) (.slice none 0 0)) (fun _ h_ => h_.1))) (Kd.R_base ho71) hb); replace HO738 := Aside0.mk (Kd.R_elder' (by (with_reducible repeat (first | apply Kd.R_alloc | apply Kd.R_drewN | apply Kd.R_drew)); exact (Kd.R_mono (Kd.R_far (p := ⟨gb759, 7, none⟩) (Kd.R_types HO738.out BK759.out (by decide)) (fun _ hk => hk.2) (.slice none 0 0)) (fun _ h_ => h_.1))) (Kd.R_base ho71) hb); replace HO748 := Aside0.mk (Kd.R_elder' (by (with_reducible repeat (first | apply Kd.R_alloc | apply Kd.R_drewN | apply Kd.R_drew)); exact (Kd.R_mono (Kd.R_far (p := ⟨gb759, 7, none⟩) (Kd.R_types HO748.out BK759.out (by decide)) (fun _ hk => hk.2) (.slice none 0 0)) (fun _ h_ => h_.1))) (Kd.R_base ho71) hb); replace HO758 := Aside0.mk (Kd.R_elder' (by (with_reducible repeat (first | apply Kd.R_alloc | apply Kd.R_drewN | apply Kd.R_drew)); exact (Kd.R_mono (Kd.R_far (p := ⟨gb759, 7, none⟩) (Kd.R_types HO758.out BK759.out (by decide)) (fun _ hk => hk.2) (.slice none 0 0)) (fun _ h_ => h_.1))) (Kd.R_base ho71) hb); replace BK759 := Aside0.mk (blk_below (g := gb759) (o := .cells #[.int .i64 t699, .int .i64 t700, .int .i64 t701, .int .i64 t702, .int .i64 t703, .int .u64 t704, .int .i64 t705, .slice none 0 0] 29 (0, 0)) (blk_put (cs := #[.int .i64 t699, .int .i64 t700, .int .i64 t701, .int .i64 t702, .int .i64 t703, .int .u64 t704, .int .i64 t705, .slice Ao45 t706.length co45]) (bq_ BK759) 7 _ rfl) hb); replace BK760 := bf_ BK760 hb; replace BK761 := bf_ BK761 hb; replace BK762 := bf_ BK762 hb; replace BK763 := bf_ BK763 hb; replace BK764 := bf_ BK764 hb; replace HB := bs_ w hb; clear hb ho71; obtain ⟨Ao72, co72, eo72⟩ := Kd.R_slice HO767.out; subst eo72; replace hc760 := ce8_ BK760) | ((with_reducible refine gate_store (t := 27) (p := 69) rfl ?_); refine store_event (t := 27) (p := 69) (v := ?vo_w74) (w1 := (w70.setCell ⟨gb760, 7, none⟩ (.slice Ao72 y765.length co72))) ?hg ?ho ?hn ?hr ?_; (case ho => rfl); (case hg => rfl); (case hn => rfl); (case hr => first | (go_simp; done) | (go_simp; rfl)); intro w74 hw; replace HO728 : Aside0 (Kd.R (Kd.int .i64) 2 w74 w.heap.size (fun k_ => some k_ ≠ (.slice Ao61 t736.length co61 : Value).ownBlock ∧ some k_ ≠ (.slice Ao65 t746.length co65 : Value).ownBlock ∧ some k_ ≠ (.slice Ao67 t756.length co67 : Value).ownBlock ∧ some k_ ≠ (.slice Ao72 y765.length co72 : Value).ownBlock) (.slice Ao57 t726.length co57) t726) := ⟨(by rw [hw]; exact (by (with_reducible repeat (first | apply Kd.R_alloc | apply Kd.R_drewN | apply Kd.R_drew)); exact Kd.R_mono (Kd.R_far (p := ⟨gb760, 7, none⟩) (Kd.R_types HO728.out BK760.out (by decide)) (fun _ hk => hk.2) (.slice Ao72 y765.length co72)) (fun _ hk => ⟨hk.1.1.1, ⟨hk.1.1.2.1, ⟨hk.1.1.2.2, hk.1.2⟩⟩⟩)))⟩; replace HO738 : Aside0 (Kd.R (Kd.int .i64) 2 w74 w.heap.size (fun k_ => some k_ ≠ (.slice Ao57 t726.length co57 : Value).ownBlock ∧ some k_ ≠ (.slice Ao65 t746.length co65 : Value).ownBlock ∧ some k_ ≠ (.slice Ao67 t756.length co67 : Value).ownBlock ∧ some k_ ≠ (.slice Ao72 y765.length co72 : Value).ownBlock) (.slice Ao61 t736.length co61) t736) := ⟨(by rw [hw]; exact (by (with_reducible repeat (first | apply Kd.R_alloc | apply Kd.R_drewN | apply Kd.R_drew)); exact Kd.R_mono (Kd.R_far (p := ⟨gb760, 7, none⟩) (Kd.R_types HO738.out BK760.out (by decide)) (fun _ hk => hk.2) (.slice Ao72 y765.length co72)) (fun _ hk => ⟨hk.1.1.1, ⟨hk.1.1.2.1, ⟨hk.1.1.2.2, hk.1.2⟩⟩⟩)))⟩; replace HO748 : Aside0 (Kd.R (Kd.int .i64) 2 w74 w.heap.size (fun k_ => some k_ ≠ (.slice Ao57 t726.length co57 : Value).ownBlock ∧ some k_ ≠ (.slice Ao61 t736.length co61 : Value).ownBlock ∧ some k_ ≠ (.slice Ao67 t756.length co67 : Value).ownBlock ∧ some k_ ≠ (.slice Ao72 y765.length co72 : Value).ownBlock) (.slice Ao65 t746.length co65) t746) := ⟨(by rw [hw]; exact (by (with_reducible repeat (first | apply Kd.R_alloc | apply Kd.R_drewN | apply Kd.R_drew)); exact Kd.R_mono (Kd.R_far (p := ⟨gb760, 7, none⟩) (Kd.R_types HO748.out BK760.out (by decide)) (fun _ hk => hk.2) (.slice Ao72 y765.length co72)) (fun _ hk => ⟨hk.1.1.1, ⟨hk.1.1.2.1, ⟨hk.1.1.2.2, hk.1.2⟩⟩⟩)))⟩; replace HO758 : Aside0 (Kd.R (Kd.int .i64) 2 w74 w.heap.size (fun k_ => some k_ ≠ (.slice Ao57 t726.length co57 : Value).ownBlock ∧ some k_ ≠ (.slice Ao61 t736.length co61 : Value).ownBlock ∧ some k_ ≠ (.slice Ao65 t746.length co65 : Value).ownBlock ∧ some k_ ≠ (.slice Ao72 y765.length co72 : Value).ownBlock) (.slice Ao67 t756.length co67) t756) := ⟨(by rw [hw]; exact (by (with_reducible repeat (first | apply Kd.R_alloc | apply Kd.R_drewN | apply Kd.R_drew)); exact Kd.R_mono (Kd.R_far (p := ⟨gb760, 7, none⟩) (Kd.R_types HO758.out BK760.out (by decide)) (fun _ hk => hk.2) (.slice Ao72 y765.length co72)) (fun _ hk => ⟨hk.1.1.1, ⟨hk.1.1.2.1, ⟨hk.1.1.2.2, hk.1.2⟩⟩⟩)))⟩; replace HO767 : Aside0 (Kd.R (Kd.int .i64) 2 w74 w.heap.size (fun k_ => some k_ ≠ (.slice Ao57 t726.length co57 : Value).ownBlock ∧ some k_ ≠ (.slice Ao61 t736.length co61 : Value).ownBlock ∧ some k_ ≠ (.slice Ao65 t746.length co65 : Value).ownBlock ∧ some k_ ≠ (.slice Ao67 t756.length co67 : Value).ownBlock) (.slice Ao72 y765.length co72) y765) := ⟨(by rw [hw]; exact (by (with_reducible repeat (first | apply Kd.R_alloc | apply Kd.R_drewN | apply Kd.R_drew)); exact Kd.R_mono (Kd.R_far (p := ⟨gb760, 7, none⟩) (Kd.R_types HO767.out BK760.out (by decide)) (fun _ hk => hk.2) (.slice Ao72 y765.length co72)) (fun _ hk => ⟨hk.1.1.1.1.2, ⟨hk.1.1.1.2, ⟨hk.1.1.2, hk.1.2⟩⟩⟩)))⟩; replace BK759 : Aside0 (w74.heap[gb759]? = some (.cells #[.int .i64 t699, .int .i64 t700, .int .i64 t701, .int .i64 t702, .int .i64 t703, .int .u64 t704, .int .i64 t705, .slice none 0 0] 29 (0, 0))) := ⟨(by rw [hw]; exact (bt_ BK759))⟩; replace BK760 : Aside0 (w74.heap[gb760]? = some (.cells #[.int .i64 t709, .int .i64 t710, .int .i64 t711, .int .i64 t712, .int .i64 t713, .int .u64 t714, .int .i64 t715, .slice Ao72 y765.length co72] 29 (0, 0))) := ⟨(by rw [hw]; exact (blk_put (cs := #[.int .i64 t709, .int .i64 t710, .int .i64 t711, .int .i64 t712, .int .i64 t713, .int .u64 t714, .int .i64 t715, .slice Ao51 t716.length co51]) (bq_ BK760) 7 _ rfl))⟩; replace BK761 : Aside0 (w74.heap[gb761]? = some (.cells #[.int .i64 t719, .int .i64 t720, .int .i64 t721, .int .i64 t722, .int .i64 t723, .int .u64 t724, .int .i64 t725, .slice Ao57 t726.length co57] 29 (0, 0))) := ⟨(by rw [hw]; exact (bt_ BK761))⟩; replace BK762 : Aside0 (w74.heap[gb762]? = some (.cells #[.int .i64 t729, .int .i64 t730, .int .i64 t731, .int .i64 t732, .int .i64 t733, .int .u64 t734, .int .i64 t735, .slice Ao61 t736.length co61] 29 (0, 0))) := ⟨(by rw [hw]; exact (bt_ BK762))⟩; replace BK763 : Aside0 (w74.heap[gb763]? = some (.cells #[.int .i64 t739, .int .i64 t740, .int .i64 t741, .int .i64 t742, .int .i64 t743, .int .u64 t744, .int .i64 t745, .slice Ao65 t746.length co65] 29 (0, 0))) := ⟨(by rw [hw]; exact (bt_ BK763))⟩; replace BK764 : Aside0 (w74.heap[gb764]? = some (.cells #[.int .i64 t749, .int .i64 t750, .int .i64 t751, .int .i64 t752, .int .i64 t753, .int .u64 t754, .int .i64 t755, .slice Ao67 t756.length co67] 29 (0, 0))) := ⟨(by rw [hw]; exact (bt_ BK764))⟩; replace HB : Aside0 (Below w.heap.size w w74) := ⟨(by rw [hw]; exact bh_)⟩; clear hw; replace hc761 := ce8_ BK761; have p8 : 0 ≤ (0 : Int) := (by omega); have q8 : (0 : Int) < ((t726.length : Int) : Int) := of_decide_eq_true (by first | (with_reducible assumption) | assumption); have qi8 : (0 < t726.length) = True := eq_true (by omega); obtain ⟨go8, co8, eo8, gb8, gl8, cl8, HG8⟩ := Kd.R_form HO728.out (by omega); (first | cases eo8 | (injection eo8 with ea_ en_ ec_; (first | subst ea_ | (injection ea_ with ea_; subst ea_)); subst ec_; clear en_)); have GB8 := Aside0.mk gb8; have GG8 := Aside0.mk HG8; clear gb8 gl8 HG8; obtain ⟨hx8_0, hf8_0⟩ := Kd.R_celln 0 HO728.out (0 : Int) p8 q8; (try rw [show ((0 : Int)).toNat = 0 from rfl] at hx8_0); (try simp only [Nat.reduceMul, Nat.zero_mul, Nat.zero_add, Nat.reduceAdd] at hx8_0); (try rw [show ((0 : Int)).toNat = 0 from rfl] at hf8_0); (try simp only [Nat.reduceMul, Nat.zero_mul, Nat.zero_add, Nat.reduceAdd] at hf8_0); replace p8 := eq_true p8; replace q8 := eq_true q8; obtain ⟨hy76_, hz76_⟩ := Kd.R_celln 0 HO728.out (0 : Int) (by omega) (of_decide_eq_true (by first | (with_reducible assumption) | assumption)); (try simp only [Int.reduceToNat, Int.toNat_zero, Int.toNat_ofNat, Nat.reduceMul, Nat.zero_mul, Nat.zero_add] at hy76_ hz76_); (try rw [show ((0 : Int)).toNat = 0 from rfl] at hy76_); (try rw [show ((0 : Int)).toNat = 0 from rfl] at hz76_); have HP76 := Kd.R_putg HO728.out (0 : Int) (-1)) | ((with_reducible refine gate_store (t := 2) (p := 72) rfl ?_); refine store_event (t := 2) (p := 72) (v := ?vo_w77) (w1 := (w74.setCell ⟨go8, (0 : Int).toNat, none⟩ (.int .i64 (-1)))) ?hg ?ho ?hn ?hr ?_; (case ho => rfl); (case hg => rfl); (case hn => rfl); (case hr => first | (go_simp; done) | (go_simp; rfl)); intro w77 hw; have hg : w74.grownBy w77 (some go8) := (by rw [hw]; exact HP76.2); have hp_ : Kd.R (Kd.int .i64) 2 w77 w.heap.size (fun k_ => some k_ ≠ (.slice Ao61 t736.length co61 : Value).ownBlock ∧ some k_ ≠ (.slice Ao65 t746.length co65 : Value).ownBlock ∧ some k_ ≠ (.slice Ao67 t756.length co67 : Value).ownBlock ∧ some k_ ≠ (.slice Ao72 y765.length co72 : Value).ownBlock) (.slice (some ⟨go8, 0, none⟩) t726.length co57) y768 := (by rw [hw, Ny768.out]; exact HP76.1); clear HP76; replace HO738 := Aside0.mk (Kd.R_after (v := (.slice (some ⟨go8, 0, none⟩) t726.length co57)) (v1 := (.slice (some ⟨go8, 0, none⟩) t726.length co57)) (ok := (fun k_ => some k_ ≠ (.slice Ao65 t746.length co65 : Value).ownBlock ∧ some k_ ≠ (.slice Ao67 t756.length co67 : Value).ownBlock ∧ some k_ ≠ (.slice Ao72 y765.length co72 : Value).ownBlock)) (by (with_reducible repeat (first | apply Kd.R_alloc | apply Kd.R_drewN | apply Kd.R_drew)); exact Kd.R_mono HO738.out (fun _ hk => ⟨⟨hk.2.1, ⟨hk.2.2.1, hk.2.2.2⟩⟩, hk.1⟩)) hg (.inl rfl)); replace HO748 := Aside0.mk (Kd.R_after (v := (.slice (some ⟨go8, 0, none⟩) t726.length co57)) (v1 := (.slice (some ⟨go8, 0, none⟩) t726.length co57)) (ok := (fun k_ => some k_ ≠ (.slice Ao61 t736.length co61 : Value).ownBlock ∧ some k_ ≠ (.slice Ao67 t756.length co67 : Value).ownBlock ∧ some k_ ≠ (.slice Ao72 y765.length co72 : Value).ownBlock)) (by (with_reducible repeat (first | apply Kd.R_alloc | apply Kd.R_drewN | apply Kd.R_drew)); exact Kd.R_mono HO748.out (fun _ hk => ⟨⟨hk.2.1, ⟨hk.2.2.1, hk.2.2.2⟩⟩, hk.1⟩)) hg (.inl rfl)); replace HO758 := Aside0.mk (Kd.R_after (v := (.slice (some ⟨go8, 0, none⟩) t726.length co57)) (v1 := (.slice (some ⟨go8, 0, none⟩) t726.length co57)) (ok := (fun k_ => some k_ ≠ (.slice Ao61 t736.length co61 : Value).ownBlock ∧ some k_ ≠ (.slice Ao65 t746.length co65 : Value).ownBlock ∧ some k_ ≠ (.slice Ao72 y765.length co72 : Value).ownBlock)) (by (with_reducible repeat (first | apply Kd.R_alloc | apply Kd.R_drewN | apply Kd.R_drew)); exact Kd.R_mono HO758.out (fun _ hk => ⟨⟨hk.2.1, ⟨hk.2.2.1, hk.2.2.2⟩⟩, hk.1⟩)) hg (.inl rfl)); replace BK759 := Aside0.mk (blk_grown (g := gb759) (o := .cells #[.int .i64 t699, .int .i64 t700, .int .i64 t701, .int .i64 t702, .int .i64 t703, .int .u64 t704, .int .i64 t705, .slice none 0 0] 29 (0, 0)) (bq_ BK759) hg (Kd.R_ne HO728.out BK759.out (by decide))); replace BK760 := Aside0.mk (blk_grown (g := gb760) (o := .cells #[.int .i64 t709, .int .i64 t710, .int .i64 t711, .int .i64 t712, .int .i64 t713, .int .u64 t714, .int .i64 t715, .slice Ao72 y765.length co72] 29 (0, 0)) (bq_ BK760) hg (Kd.R_ne HO728.out BK760.out (by decide))); replace BK761 := Aside0.mk (blk_grown (g := gb761) (o := .cells #[.int .i64 t719, .int .i64 t720, .int .i64 t721, .int .i64 t722, .int .i64 t723, .int .u64 t724, .int .i64 t725, .slice (some ⟨go8, 0, none⟩) t726.length co57] 29 (0, 0)) (bq_ BK761) hg (Kd.R_ne HO728.out BK761.out (by decide))); replace BK762 := Aside0.mk (blk_grown (g := gb762) (o := .cells #[.int .i64 t729, .int .i64 t730, .int .i64 t731, .int .i64 t732, .int .i64 t733, .int .u64 t734, .int .i64 t735, .slice Ao61 t736.length co61] 29 (0, 0)) (bq_ BK762) hg (Kd.R_ne HO728.out BK762.out (by decide))); replace BK763 := Aside0.mk (blk_grown (g := gb763) (o := .cells #[.int .i64 t739, .int .i64 t740, .int .i64 t741, .int .i64 t742, .int .i64 t743, .int .u64 t744, .int .i64 t745, .slice Ao65 t746.length co65] 29 (0, 0)) (bq_ BK763) hg (Kd.R_ne HO728.out BK763.out (by decide))); replace BK764 := Aside0.mk (blk_grown (g := gb764) (o := .cells #[.int .i64 t749, .int .i64 t750, .int .i64 t751, .int .i64 t752, .int .i64 t753, .int .u64 t754, .int .i64 t755, .slice Ao67 t756.length co67] 29 (0, 0)) (bq_ BK764) hg (Kd.R_ne HO728.out BK764.out (by decide))); replace HO728 := Aside0.mk (hp_); replace HO767 := Aside0.mk (Kd.R_after (v := (.slice (some ⟨go8, 0, none⟩) t726.length co57)) (v1 := (.slice (some ⟨go8, 0, none⟩) t726.length co57)) (ok := (fun k_ => some k_ ≠ (.slice Ao61 t736.length co61 : Value).ownBlock ∧ some k_ ≠ (.slice Ao65 t746.length co65 : Value).ownBlock ∧ some k_ ≠ (.slice Ao67 t756.length co67 : Value).ownBlock)) (by (with_reducible repeat (first | apply Kd.R_alloc | apply Kd.R_drewN | apply Kd.R_drew)); exact Kd.R_mono HO767.out (fun _ hk => ⟨⟨hk.2.1, ⟨hk.2.2.1, hk.2.2.2⟩⟩, hk.1⟩)) hg (.inl rfl)); replace HB := Aside0.mk ((by rw [hw]; exact below_set (HB.out) GB8.out : Below w.heap.size w w77)); clear hg hw hp_; replace hc762 := ce8_ BK762; have p10 : 0 ≤ (1 : Int) := (by omega); have q10 : (1 : Int) < ((t736.length : Int) : Int) := of_decide_eq_true (by first | (with_reducible assumption) | assumption); have qi10 : (1 < t736.length) = True := eq_true (by omega); obtain ⟨go10, co10, eo10, gb10, gl10, cl10, HG10⟩ := Kd.R_form HO738.out (by omega); (first | cases eo10 | (injection eo10 with ea_ en_ ec_; (first | subst ea_ | (injection ea_ with ea_; subst ea_)); subst ec_; clear en_)); have GB10 := Aside0.mk gb10; have GG10 := Aside0.mk HG10; clear gb10 gl10 HG10; obtain ⟨hx10_0, hf10_0⟩ := Kd.R_celln 0 HO738.out (1 : Int) p10 q10; (try rw [show ((1 : Int)).toNat = 1 from rfl] at hx10_0); (try simp only [Nat.reduceMul, Nat.zero_mul, Nat.zero_add, Nat.reduceAdd] at hx10_0); (try rw [show ((1 : Int)).toNat = 1 from rfl] at hf10_0); (try simp only [Nat.reduceMul, Nat.zero_mul, Nat.zero_add, Nat.reduceAdd] at hf10_0); replace p10 := eq_true p10; replace q10 := eq_true q10; have n_ := Aside0.mk (Kd.R_mono (ok' := (fun k_ => some k_ ≠ (.slice (some ⟨go8, 0, none⟩) t726.length co57 : Value).ownBlock ∧ some k_ ≠ (.slice Ao65 t746.length co65 : Value).ownBlock ∧ some k_ ≠ (.slice Ao67 t756.length co67 : Value).ownBlock ∧ some k_ ≠ (.slice Ao72 y765.length co72 : Value).ownBlock)) HO738.out (fun k_ hk => ⟨hk.2, ⟨hk.1.1, ⟨hk.1.2.1, hk.1.2.2⟩⟩⟩)); clear HO738; have HO738 := n_; clear n_; obtain ⟨hy79_, hz79_⟩ := Kd.R_celln 0 HO738.out (1 : Int) (by omega) (of_decide_eq_true (by first | (with_reducible assumption) | assumption)); (try simp only [Int.reduceToNat, Int.toNat_zero, Int.toNat_ofNat, Nat.reduceMul, Nat.zero_mul, Nat.zero_add] at hy79_ hz79_); (try rw [show ((1 : Int)).toNat = 1 from rfl] at hy79_); (try rw [show ((1 : Int)).toNat = 1 from rfl] at hz79_); have HP79 := Kd.R_putg HO738.out (1 : Int) 1000000000001) | ((with_reducible refine gate_store (t := 2) (p := 75) rfl ?_); refine store_event (t := 2) (p := 75) (v := ?vo_w80) (w1 := (w77.setCell ⟨go10, (1 : Int).toNat, none⟩ (.int .i64 1000000000001))) ?hg ?ho ?hn ?hr ?_; (case ho => rfl); (case hg => rfl); (case hn => rfl); (case hr => first | (go_simp; done) | (go_simp; rfl)); intro w80 hw; have hg : w77.grownBy w80 (some go10) := (by rw [hw]; exact HP79.2); have hp_ : Kd.R (Kd.int .i64) 2 w80 w.heap.size (fun k_ => some k_ ≠ (.slice (some ⟨go8, 0, none⟩) t726.length co57 : Value).ownBlock ∧ some k_ ≠ (.slice Ao65 t746.length co65 : Value).ownBlock ∧ some k_ ≠ (.slice Ao67 t756.length co67 : Value).ownBlock ∧ some k_ ≠ (.slice Ao72 y765.length co72 : Value).ownBlock) (.slice (some ⟨go10, 0, none⟩) t736.length co61) y769 := (by rw [hw, Ny769.out]; exact HP79.1); clear HP79; replace HO728 := Aside0.mk (Kd.R_after (v := (.slice (some ⟨go10, 0, none⟩) t736.length co61)) (v1 := (.slice (some ⟨go10, 0, none⟩) t736.length co61)) (ok := (fun k_ => some k_ ≠ (.slice Ao65 t746.length co65 : Value).ownBlock ∧ some k_ ≠ (.slice Ao67 t756.length co67 : Value).ownBlock ∧ some k_ ≠ (.slice Ao72 y765.length co72 : Value).ownBlock)) (by (with_reducible repeat (first | apply Kd.R_alloc | apply Kd.R_drewN | apply Kd.R_drew)); exact Kd.R_mono HO728.out (fun _ hk => ⟨⟨hk.2.1, ⟨hk.2.2.1, hk.2.2.2⟩⟩, hk.1⟩)) hg (.inl rfl)); replace HO748 := Aside0.mk (Kd.R_after (v := (.slice (some ⟨go10, 0, none⟩) t736.length co61)) (v1 := (.slice (some ⟨go10, 0, none⟩) t736.length co61)) (ok := (fun k_ => some k_ ≠ (.slice (some ⟨go8, 0, none⟩) t726.length co57 : Value).ownBlock ∧ some k_ ≠ (.slice Ao67 t756.length co67 : Value).ownBlock ∧ some k_ ≠ (.slice Ao72 y765.length co72 : Value).ownBlock)) (by (with_reducible repeat (first | apply Kd.R_alloc | apply Kd.R_drewN | apply Kd.R_drew)); exact Kd.R_mono HO748.out (fun _ hk => ⟨⟨hk.2, ⟨hk.1.2.1, hk.1.2.2⟩⟩, hk.1.1⟩)) hg (.inl rfl)); replace HO758 := Aside0.mk (Kd.R_after (v := (.slice (some ⟨go10, 0, none⟩) t736.length co61)) (v1 := (.slice (some ⟨go10, 0, none⟩) t736.length co61)) (ok := (fun k_ => some k_ ≠ (.slice (some ⟨go8, 0, none⟩) t726.length co57 : Value).ownBlock ∧ some k_ ≠ (.slice Ao65 t746.length co65 : Value).ownBlock ∧ some k_ ≠ (.slice Ao72 y765.length co72 : Value).ownBlock)) (by (with_reducible repeat (first | apply Kd.R_alloc | apply Kd.R_drewN | apply Kd.R_drew)); exact Kd.R_mono HO758.out (fun _ hk => ⟨⟨hk.2, ⟨hk.1.2.1, hk.1.2.2⟩⟩, hk.1.1⟩)) hg (.inl rfl)); replace BK759 := Aside0.mk (blk_grown (g := gb759) (o := .cells #[.int .i64 t699, .int .i64 t700, .int .i64 t701, .int .i64 t702, .int .i64 t703, .int .u64 t704, .int .i64 t705, .slice none 0 0] 29 (0, 0)) (bq_ BK759) hg (Kd.R_ne HO738.out BK759.out (by decide))); replace BK760 := Aside0.mk (blk_grown (g := gb760) (o := .cells #[.int .i64 t709, .int .i64 t710, .int .i64 t711, .int .i64 t712, .int .i64 t713, .int .u64 t714, .int .i64 t715, .slice Ao72 y765.length co72] 29 (0, 0)) (bq_ BK760) hg (Kd.R_ne HO738.out BK760.out (by decide))); replace BK761 := Aside0.mk (blk_grown (g := gb761) (o := .cells #[.int .i64 t719, .int .i64 t720, .int .i64 t721, .int .i64 t722, .int .i64 t723, .int .u64 t724, .int .i64 t725, .slice (some ⟨go8, 0, none⟩) t726.length co57] 29 (0, 0)) (bq_ BK761) hg (Kd.R_ne HO738.out BK761.out (by decide))); replace BK762 := Aside0.mk (blk_grown (g := gb762) (o := .cells #[.int .i64 t729, .int .i64 t730, .int .i64 t731, .int .i64 t732, .int .i64 t733, .int .u64 t734, .int .i64 t735, .slice (some ⟨go10, 0, none⟩) t736.length co61] 29 (0, 0)) (bq_ BK762) hg (Kd.R_ne HO738.out BK762.out (by decide))); replace BK763 := Aside0.mk (blk_grown (g := gb763) (o := .cells #[.int .i64 t739, .int .i64 t740, .int .i64 t741, .int .i64 t742, .int .i64 t743, .int .u64 t744, .int .i64 t745, .slice Ao65 t746.length co65] 29 (0, 0)) (bq_ BK763) hg (Kd.R_ne HO738.out BK763.out (by decide))); replace BK764 := Aside0.mk (blk_grown (g := gb764) (o := .cells #[.int .i64 t749, .int .i64 t750, .int .i64 t751, .int .i64 t752, .int .i64 t753, .int .u64 t754, .int .i64 t755, .slice Ao67 t756.length co67] 29 (0, 0)) (bq_ BK764) hg (Kd.R_ne HO738.out BK764.out (by decide))); replace HO738 := Aside0.mk (hp_); replace HO767 := Aside0.mk (Kd.R_after (v := (.slice (some ⟨go10, 0, none⟩) t736.length co61)) (v1 := (.slice (some ⟨go10, 0, none⟩) t736.length co61)) (ok := (fun k_ => some k_ ≠ (.slice (some ⟨go8, 0, none⟩) t726.length co57 : Value).ownBlock ∧ some k_ ≠ (.slice Ao65 t746.length co65 : Value).ownBlock ∧ some k_ ≠ (.slice Ao67 t756.length co67 : Value).ownBlock)) (by (with_reducible repeat (first | apply Kd.R_alloc | apply Kd.R_drewN | apply Kd.R_drew)); exact Kd.R_mono HO767.out (fun _ hk => ⟨⟨hk.2, ⟨hk.1.2.1, hk.1.2.2⟩⟩, hk.1.1⟩)) hg (.inl rfl)); replace HB := Aside0.mk ((by rw [hw]; exact below_set (HB.out) GB10.out : Below w.heap.size w w80)); clear hg hw hp_; replace hc763 := ce8_ BK763; replace hc764 := ce8_ BK764; replace hc759 := ce8_ BK759) | ((with_reducible refine gate_callee (f := 27) rfl ?_); (try refine ug_ (by rfl) ?_); refine goesA_ (some 79) Try.func27 #[.agg #[.int .i64 t699, .int .i64 t700, .int .i64 t701, .int .i64 t702, .int .i64 t703, .int .u64 t704, .int .i64 t705, .slice none 0 0]] ?_; (refine (lease_Check.calls k t699 t700 t701 t702 t703 t704 t705 _ _ ([] : List Int) t770 _ ?side1 ?side2 A11.out).mono ?_); (case side1 => exact Kd.C_nil _ _); (case side2 => exact Nat.le_refl _); rintro e w84 ⟨rfl, hb⟩; refine ⟨_, rfl, ?_⟩; replace HO728 := Aside0.mk (Kd.R_below (by (with_reducible repeat (first | apply Kd.R_alloc | apply Kd.R_drewN | apply Kd.R_drew)); exact (Kd.R_mono (Kd.R_mono (Kd.R_far (p := ⟨gb764, 6, none⟩) (Kd.R_far (p := ⟨gb763, 6, none⟩) (Kd.R_types (Kd.R_types HO728.out BK763.out (by decide)) BK764.out (by decide)) (fun _ hk => hk.1.2) (.int .i64 0)) (fun _ hk => hk.2) (.int .i64 1000000001)) (fun _ h_ => h_.1)) (fun _ h_ => h_.1))) hb); replace HO738 := Aside0.mk (Kd.R_below (by (with_reducible repeat (first | apply Kd.R_alloc | apply Kd.R_drewN | apply Kd.R_drew)); exact (Kd.R_mono (Kd.R_mono (Kd.R_far (p := ⟨gb764, 6, none⟩) (Kd.R_far (p := ⟨gb763, 6, none⟩) (Kd.R_types (Kd.R_types HO738.out BK763.out (by decide)) BK764.out (by decide)) (fun _ hk => hk.1.2) (.int .i64 0)) (fun _ hk => hk.2) (.int .i64 1000000001)) (fun _ h_ => h_.1)) (fun _ h_ => h_.1))) hb); replace HO748 := Aside0.mk (Kd.R_below (by (with_reducible repeat (first | apply Kd.R_alloc | apply Kd.R_drewN | apply Kd.R_drew)); exact (Kd.R_mono (Kd.R_mono (Kd.R_far (p := ⟨gb764, 6, none⟩) (Kd.R_far (p := ⟨gb763, 6, none⟩) (Kd.R_types (Kd.R_types HO748.out BK763.out (by decide)) BK764.out (by decide)) (fun _ hk => hk.1.2) (.int .i64 0)) (fun _ hk => hk.2) (.int .i64 1000000001)) (fun _ h_ => h_.1)) (fun _ h_ => h_.1))) hb); replace HO758 := Aside0.mk (Kd.R_below (by (with_reducible repeat (first | apply Kd.R_alloc | apply Kd.R_drewN | apply Kd.R_drew)); exact (Kd.R_mono (Kd.R_mono (Kd.R_far (p := ⟨gb764, 6, none⟩) (Kd.R_far (p := ⟨gb763, 6, none⟩) (Kd.R_types (Kd.R_types HO758.out BK763.out (by decide)) BK764.out (by decide)) (fun _ hk => hk.1.2) (.int .i64 0)) (fun _ hk => hk.2) (.int .i64 1000000001)) (fun _ h_ => h_.1)) (fun _ h_ => h_.1))) hb); replace HO767 := Aside0.mk (Kd.R_below (by (with_reducible repeat (first | apply Kd.R_alloc | apply Kd.R_drewN | apply Kd.R_drew)); exact (Kd.R_mono (Kd.R_mono (Kd.R_far (p := ⟨gb764, 6, none⟩) (Kd.R_far (p := ⟨gb763, 6, none⟩) (Kd.R_types (Kd.R_types HO767.out BK763.out (by decide)) BK764.out (by decide)) (fun _ hk => hk.1.2) (.int .i64 0)) (fun _ hk => hk.2) (.int .i64 1000000001)) (fun _ h_ => h_.1)) (fun _ h_ => h_.1))) hb); replace BK759 := bf_ BK759 hb; replace BK760 := bf_ BK760 hb; replace BK761 := bf_ BK761 hb; replace BK762 := bf_ BK762 hb; replace BK763 := Aside0.mk (blk_below (g := gb763) (o := .cells #[.int .i64 t739, .int .i64 t740, .int .i64 t741, .int .i64 t742, .int .i64 t743, .int .u64 t744, .int .i64 0, .slice Ao65 t746.length co65] 29 (0, 0)) (blk_far (blk_put (cs := #[.int .i64 t739, .int .i64 t740, .int .i64 t741, .int .i64 t742, .int .i64 t743, .int .u64 t744, .int .i64 t745, .slice Ao65 t746.length co65]) (bq_ BK763) 6 _ rfl) NB763_764.out _) hb); replace BK764 := Aside0.mk (blk_below (g := gb764) (o := .cells #[.int .i64 t749, .int .i64 t750, .int .i64 t751, .int .i64 t752, .int .i64 t753, .int .u64 t754, .int .i64 1000000001, .slice Ao67 t756.length co67] 29 (0, 0)) (blk_put (cs := #[.int .i64 t749, .int .i64 t750, .int .i64 t751, .int .i64 t752, .int .i64 t753, .int .u64 t754, .int .i64 t755, .slice Ao67 t756.length co67]) (bt_ BK764) 6 _ rfl) hb); replace HB := bs_ w hb; clear hb; (try clear BK759); replace hc760 := ce8_ BK760; (try clear BK760)) | (go_at_call 27; (with_reducible refine (lease_Check.calls k t709 t710 t711 t712 t713 t714 t715 _ _ y765 t771 _ ?side1 ?side2 A13.out).mono ?_); (case side1 => exact cr_ HO767); (case side2 => exact (Kd.R_reads' HO767.out).2.1); rintro e w86 ⟨rfl, hb⟩; replace HO728 := rb_ HO728 hb; replace HO738 := rb_ HO738 hb; replace HO748 := rb_ HO748 hb; replace HO758 := rb_ HO758 hb; replace HO767 := rb_ HO767 hb; replace BK761 := bb_ BK761 hb; replace BK762 := bb_ BK762 hb; replace BK763 := bb_ BK763 hb; replace BK764 := bb_ BK764 hb; replace HB := bs_ w hb; clear hb; have n_ := Aside0.mk (Kd.R_mono (ok' := (fun k_ => some k_ ≠ (.slice (some ⟨go10, 0, none⟩) t736.length co61 : Value).ownBlock ∧ some k_ ≠ (.slice Ao65 t746.length co65 : Value).ownBlock ∧ some k_ ≠ (.slice Ao67 t756.length co67 : Value).ownBlock)) HO728.out (fun k_ hk => ⟨hk.2, ⟨hk.1.1, hk.1.2.1⟩⟩)); clear HO728; have HO728 := n_; clear n_; have n_ := Aside0.mk (Kd.R_mono (ok' := (fun k_ => some k_ ≠ (.slice (some ⟨go8, 0, none⟩) t726.length co57 : Value).ownBlock ∧ some k_ ≠ (.slice Ao65 t746.length co65 : Value).ownBlock ∧ some k_ ≠ (.slice Ao67 t756.length co67 : Value).ownBlock)) HO738.out (fun k_ hk => ⟨hk.1, ⟨hk.2.1, hk.2.2.1⟩⟩)); clear HO738; have HO738 := n_; clear n_; have n_ := Aside0.mk (Kd.R_mono (ok' := (fun k_ => some k_ ≠ (.slice (some ⟨go8, 0, none⟩) t726.length co57 : Value).ownBlock ∧ some k_ ≠ (.slice (some ⟨go10, 0, none⟩) t736.length co61 : Value).ownBlock ∧ some k_ ≠ (.slice Ao67 t756.length co67 : Value).ownBlock)) HO748.out (fun k_ hk => ⟨hk.1.1, ⟨hk.2, hk.1.2.1⟩⟩)); clear HO748; have HO748 := n_; clear n_; have n_ := Aside0.mk (Kd.R_mono (ok' := (fun k_ => some k_ ≠ (.slice (some ⟨go8, 0, none⟩) t726.length co57 : Value).ownBlock ∧ some k_ ≠ (.slice (some ⟨go10, 0, none⟩) t736.length co61 : Value).ownBlock ∧ some k_ ≠ (.slice Ao65 t746.length co65 : Value).ownBlock)) HO758.out (fun k_ hk => ⟨hk.1.1, ⟨hk.2, hk.1.2.1⟩⟩)); clear HO758; have HO758 := n_; clear n_; (try clear HO767); replace hc761 := ce8_ BK761; (try clear BK761)) | (go_at_call 27; refine calls_of_args (args' := #[.agg #[.int .i64 t719, .int .i64 t720, .int .i64 t721, .int .i64 t722, .int .i64 t723, .int .u64 t724, .int .i64 t725, .slice (some ⟨go8, 0, none⟩) y768.length co57]]) (by first | (rw [show y768.length = t726.length from (Kd.R_reads' HO728.out).1.symm] <;> rfl) | rfl) ?_; (with_reducible refine (lease_Check.calls k t719 t720 t721 t722 t723 t724 t725 _ _ y768 t772 _ ?side1 ?side2 A15.out).mono ?_); (case side1 => exact cr_ HO728); (case side2 => rw [show y768.length = t726.length from (Kd.R_reads' HO728.out).1.symm]; exact (Kd.R_reads' HO728.out).2.1); rintro e w88 ⟨rfl, hb⟩; replace HO728 := rb_ HO728 hb; replace HO738 := rb_ HO738 hb; replace HO748 := rb_ HO748 hb; replace HO758 := rb_ HO758 hb; replace BK762 := bb_ BK762 hb; replace BK763 := bb_ BK763 hb; replace BK764 := bb_ BK764 hb; replace HB := bs_ w hb; clear hb; have n_ := Aside0.mk (Kd.R_mono (ok' := (fun k_ => some k_ ≠ (.slice Ao65 t746.length co65 : Value).ownBlock ∧ some k_ ≠ (.slice Ao67 t756.length co67 : Value).ownBlock)) HO738.out (fun k_ hk => ⟨hk.2.1, hk.2.2⟩)); clear HO738; have HO738 := n_; clear n_; have n_ := Aside0.mk (Kd.R_mono (ok' := (fun k_ => some k_ ≠ (.slice (some ⟨go10, 0, none⟩) t736.length co61 : Value).ownBlock ∧ some k_ ≠ (.slice Ao67 t756.length co67 : Value).ownBlock)) HO748.out (fun k_ hk => ⟨hk.2.1, hk.2.2⟩)); clear HO748; have HO748 := n_; clear n_; have n_ := Aside0.mk (Kd.R_mono (ok' := (fun k_ => some k_ ≠ (.slice (some ⟨go10, 0, none⟩) t736.length co61 : Value).ownBlock ∧ some k_ ≠ (.slice Ao65 t746.length co65 : Value).ownBlock)) HO758.out (fun k_ hk => ⟨hk.2.1, hk.2.2⟩)); clear HO758; have HO758 := n_; clear n_; (try clear HO728); replace hc762 := ce8_ BK762; (try clear BK762)) | (go_at_call 27; refine calls_of_args (args' := #[.agg #[.int .i64 t729, .int .i64 t730, .int .i64 t731, .int .i64 t732, .int .i64 t733, .int .u64 t734, .int .i64 t735, .slice (some ⟨go10, 0, none⟩) y769.length co61]]) (by first | (rw [show y769.length = t736.length from (Kd.R_reads' HO738.out).1.symm] <;> rfl) | rfl) ?_; (with_reducible refine (lease_Check.calls k t729 t730 t731 t732 t733 t734 t735 _ _ y769 t773 _ ?side1 ?side2 A17.out).mono ?_); (case side1 => exact cr_ HO738); (case side2 => rw [show y769.length = t736.length from (Kd.R_reads' HO738.out).1.symm]; exact (Kd.R_reads' HO738.out).2.1); rintro e w90 ⟨rfl, hb⟩; replace HO738 := rb_ HO738 hb; replace HO748 := rb_ HO748 hb; replace HO758 := rb_ HO758 hb; replace BK763 := bb_ BK763 hb; replace BK764 := bb_ BK764 hb; replace HB := bs_ w hb; clear hb; have n_ := Aside0.mk (Kd.R_mono (ok' := (fun k_ => some k_ ≠ (.slice Ao67 t756.length co67 : Value).ownBlock)) HO748.out (fun k_ hk => hk.2)); clear HO748; have HO748 := n_; clear n_; have n_ := Aside0.mk (Kd.R_mono (ok' := (fun k_ => some k_ ≠ (.slice Ao65 t746.length co65 : Value).ownBlock)) HO758.out (fun k_ hk => hk.2)); clear HO758; have HO758 := n_; clear n_; (try clear HO738); replace hc763 := ce8_ BK763; (try clear BK763)) | (go_at_call 27; (with_reducible refine (lease_Check.calls k t739 t740 t741 t742 t743 t744 0 _ _ t746 t774 _ ?side1 ?side2 A19.out).mono ?_); (case side1 => exact cr_ HO748); (case side2 => exact (Kd.R_reads' HO748.out).2.1); rintro e w92 ⟨rfl, hb⟩; replace HO748 := rb_ HO748 hb; replace HO758 := rb_ HO758 hb; replace BK764 := bb_ BK764 hb; replace HB := bs_ w hb; clear hb; have n_ := Aside0.mk (Kd.R_mono (ok' := (fun _ => True)) HO758.out (fun k_ hk => trivial)); clear HO758; have HO758 := n_; clear n_; (try clear HO748); replace hc764 := ce8_ BK764; (try clear BK764)) | (go_at_call 27; (with_reducible refine (lease_Check.calls k t749 t750 t751 t752 t753 t754 1000000001 _ _ t756 t775 _ ?side1 ?side2 A21.out).mono ?_); (case side1 => exact cr_ HO758); (case side2 => exact (Kd.R_reads' HO758.out).2.1); rintro e w94 ⟨rfl, hb⟩; replace HO758 := rb_ HO758 hb; replace HB := bs_ w hb; clear hb; (try clear HO758)) | ((with_reducible refine gate_dst (N := 107) rfl ?_); (try refine ug_ (by rfl) ?_); refine Kd.R_lit (Kd.int .i64) _ 2 ?hg (N := 107) ?hd (xs := ([0] : List Int)) (inner := [.int .i64 0]) (ok := fun _ => True) (okp := fun _ => True) ?hr ?hp (fun _ hk => hk) trivial (Below.refl _ _) (Nat.le_refl _) (by simp) ?_; (case hd => rfl); (case hg => rfl); (case hr => first | (go_simp; done) | (go_simp; rfl)); (case hp => exact (Reps.one (show Kd.M (Kd.int .i64) _ _ _ 0 [.int .i64 0] from rfl) (Reps.none _ _))); intro v777 w95 ho96 hb hg_ hnew_; clear hg_ hnew_; (first | rw [← Ny776.out] at ho96 | (simp only [Int.reduceToNat] at ho96; rw [← Ny776.out] at ho96)); have HO778 := Aside0.mk (Kd.R_lower ho96 (below_size (hq_ HB))); replace HB := bs_ w hb; clear hb ho96; obtain ⟨Ao97, co97, eo97⟩ := Kd.R_slice HO778.out; subst eo97) | (go_at_call 27; (with_reducible refine (lease_Check.calls k 0 0 0 0 0 0 1 _ _ y776 t779 _ ?side1 ?side2 A23.out).mono ?_); (case side1 => exact cr_ HO778); (case side2 => exact (Kd.R_reads' HO778.out).2.1); rintro e w98 ⟨rfl, hb⟩; replace HO778 := rb_ HO778 hb; replace HB := bs_ w hb; clear hb; (try clear HO778)) | (go_at_call 28; (with_reducible refine (spigotlaw42_given.calls  t780 t781 t782 t783 t784 t785 t786 t787 _ A25.out).mono ?_); rintro e w99 ⟨v788, rfl, ho0, hb⟩; have HO789 := Aside0.mk (Kd.R_lower ho0 (below_size (hq_ HB))); replace HB := bs_ w hb; (try clear hb); (try clear hb2); (try clear hk); (try clear hi); (try clear ho0); obtain ⟨Ao100, co100, eo100⟩ := Kd.R_slice HO789.out; subst eo100) | (go_at_call 27; (with_reducible refine (lease_Check.calls k t780 t781 t782 t783 t784 t785 t786 _ _ t787 t790 _ ?side1 ?side2 A26.out).mono ?_); (case side1 => exact cr_ HO789); (case side2 => exact (Kd.R_reads' HO789.out).2.1); rintro e w101 ⟨rfl, hb⟩; replace HO789 := rb_ HO789 hb; replace HB := bs_ w hb; clear hb; (try clear HO789)) | ((with_reducible refine gate_dst (N := 125) rfl ?_); (try refine ug_ (by rfl) ?_); refine Kd.R_lit k31 _ 31 ?hg (N := 125) ?hd (xs := ([(⟨0, 0, 0, 0⟩ : S31), (⟨5, 0, 0, 0⟩ : S31), (⟨1, (-1), 0, 0⟩ : S31), (⟨1, 0, 0, 1⟩ : S31), (⟨3, 0, 0, 1⟩ : S31), (⟨4, 0, 0, 1⟩ : S31), (⟨2, 0, 0, (-1)⟩ : S31), (⟨2, 0, 0, 1000000001⟩ : S31)] : List (S31))) (inner := [.int .u8 0, .int .i64 0, .int .u64 0, .int .i64 0, .int .u8 5, .int .i64 0, .int .u64 0, .int .i64 0, .int .u8 1, .int .i64 (-1), .int .u64 0, .int .i64 0, .int .u8 1, .int .i64 0, .int .u64 0, .int .i64 1, .int .u8 3, .int .i64 0, .int .u64 0, .int .i64 1, .int .u8 4, .int .i64 0, .int .u64 0, .int .i64 1, .int .u8 2, .int .i64 0, .int .u64 0, .int .i64 (-1), .int .u8 2, .int .i64 0, .int .u64 0, .int .i64 1000000001]) (ok := fun _ => True) (okp := fun _ => True) ?hr ?hp (fun _ hk => hk) trivial (Below.refl _ _) (Nat.le_refl _) (by simp) ?_; (case hd => rfl); (case hg => rfl); (case hr => first | (go_simp; done) | (go_simp; rfl)); (case hp => exact (Reps.c4 (show Kd.M k31 _ _ _ (⟨0, 0, 0, 0⟩ : S31) [.int .u8 0, .int .i64 0, .int .u64 0, .int .i64 0] from (k31_mkM _ _ _ (⟨0, 0, 0, 0⟩ : S31) )) (Reps.c4 (show Kd.M k31 _ _ _ (⟨5, 0, 0, 0⟩ : S31) [.int .u8 5, .int .i64 0, .int .u64 0, .int .i64 0] from (k31_mkM _ _ _ (⟨5, 0, 0, 0⟩ : S31) )) (Reps.c4 (show Kd.M k31 _ _ _ (⟨1, (-1), 0, 0⟩ : S31) [.int .u8 1, .int .i64 (-1), .int .u64 0, .int .i64 0] from (k31_mkM _ _ _ (⟨1, (-1), 0, 0⟩ : S31) )) (Reps.c4 (show Kd.M k31 _ _ _ (⟨1, 0, 0, 1⟩ : S31) [.int .u8 1, .int .i64 0, .int .u64 0, .int .i64 1] from (k31_mkM _ _ _ (⟨1, 0, 0, 1⟩ : S31) )) (Reps.c4 (show Kd.M k31 _ _ _ (⟨3, 0, 0, 1⟩ : S31) [.int .u8 3, .int .i64 0, .int .u64 0, .int .i64 1] from (k31_mkM _ _ _ (⟨3, 0, 0, 1⟩ : S31) )) (Reps.c4 (show Kd.M k31 _ _ _ (⟨4, 0, 0, 1⟩ : S31) [.int .u8 4, .int .i64 0, .int .u64 0, .int .i64 1] from (k31_mkM _ _ _ (⟨4, 0, 0, 1⟩ : S31) )) (Reps.c4 (show Kd.M k31 _ _ _ (⟨2, 0, 0, (-1)⟩ : S31) [.int .u8 2, .int .i64 0, .int .u64 0, .int .i64 (-1)] from (k31_mkM _ _ _ (⟨2, 0, 0, (-1)⟩ : S31) )) (Reps.c4 (show Kd.M k31 _ _ _ (⟨2, 0, 0, 1000000001⟩ : S31) [.int .u8 2, .int .i64 0, .int .u64 0, .int .i64 1000000001] from (k31_mkM _ _ _ (⟨2, 0, 0, 1000000001⟩ : S31) )) (Reps.none _ _)))))))))); intro v792 w102 ho103 hb hg_ hnew_; clear hg_ hnew_; (first | rw [← Ny791.out] at ho103 | (simp only [Int.reduceToNat] at ho103; rw [← Ny791.out] at ho103)); have HO793 := Aside0.mk (Kd.R_lower ho103 (below_size (hq_ HB))); replace HB := bs_ w hb; clear hb ho103))
 (try simp only [Act.put, List.setIfInBounds_toArray, List.set_cons_zero, List.set_cons_succ])
 go_loopg [9] k (fun kq v9 w' => ∃ (x9_1 : Int), v9 = .int .i64 x9_1 ∧ Aside0 (spigotlaw42_LeaseNames.l0 kq (t790 == 0) y791 x9_1 = some r) ∧ Aside0 (kq ≤ k) ∧ Aside0 (Kd.R k31 31 w' w.heap.size (fun _ => True) v792 y791) ∧ Aside0 (Below w.heap.size w w'))
 case atStart => exact ⟨(0), rf_, H', ⟨Nat.le_refl _⟩, ⟨rs_ HO793⟩, bw_⟩
 case round =>
  clear H'
  try clear c4
  try clear c7
  try clear c7b0
  try clear c7b1
  try clear p8
  try clear q8
  try clear qi8
  try clear c9
  try clear c9b0
  try clear c9b1
  try clear p10
  try clear q10
  try clear qi10
  try clear c12
  try clear c12b0
  try clear c12b1
  try clear c14
  try clear c14b0
  try clear c14b1
  try clear c16
  try clear c16b0
  try clear c16b1
  try clear c18
  try clear c18b0
  try clear c18b1
  try clear c20
  try clear c20b0
  try clear c20b1
  try clear c22
  try clear c22b0
  try clear c22b1
  try clear c24
  try clear c24b0
  try clear c24b1
  try clear hx10_0
  try clear hx8_0
  try clear p10
  try clear p8
  try clear q10
  try clear q8
  obtain ⟨x9_1, rfl, HA, HK1, HO_8, HB⟩ := hrel
  cases gk with
  | zero => exact absurd HA.out (by simp [spigotlaw42_LeaseNames.l0])
  | succ k1 =>
   have H := HA.out
   clear HA
   simp only [spigotlaw42_LeaseNames.l0] at H
   by_cases c104 : x9_1 < (y791.length : Int)
   ·refine ip_ (p := ?P1) ?q1; refine (
   let rec a1_ : ?P1 := by
    rw [if_pos c104] at H
    have c104b0 : decide (x9_1 < (y791.length : Int)) = true := decide_eq_true c104
    clear c104
    have H0_ := bo_ H; clear H; obtain ⟨⟨t794, t795, t796, t797, t798, t799, t800, t801⟩, A105, H⟩ := H0_
    try dsimp only at H
    by_cases c106 : 0 ≤ x9_1
    rotate_left
    ·rw [if_neg c106] at H; exact absurd H (by simp)
    rw [if_pos c106] at H
    have c106b0 : decide (0 ≤ x9_1) = true := decide_eq_true c106
    clear c106
    have H0_ := bo_ H; clear H; obtain ⟨⟨t805, t806, t807, t808, t809, t810, t811, t812, t815, t816⟩, A107, H⟩ := H0_
    try dsimp only at H
    have c108b0 := eq_true (of_decide_eq_true (by first | (with_reducible assumption) | assumption) : 0 ≤ x9_1)
    by_cases c109 : x9_1 ≤ (wrap64 (x9_1 + 1))
    rotate_left
    ·rw [if_neg c109] at H; exact absurd H (by simp)
    rw [if_pos c109] at H
    have c109b0 := eq_true c109
    have c109b1 : decide (x9_1 ≤ (wrap64 (x9_1 + 1))) = true := decide_eq_true c109
    by_cases c110 : (wrap64 (x9_1 + 1)) ≤ (y791.length : Int)
    rotate_left
    ·rw [if_neg c110] at H; exact absurd H (by simp)
    rw [if_pos c110] at H
    have c110b0 := eq_true c110
    have c110b1 : decide ((wrap64 (x9_1 + 1)) ≤ (y791.length : Int)) = true := decide_eq_true c110
    obtain ⟨y818, hy818⟩ : ∃ y_ : List (S31), y_ = ((y791.take ((wrap64 (x9_1 + 1)) : Int).toNat).drop (x9_1 : Int).toNat) := ⟨_, rfl⟩
    replace H : ((lease_Spent.f k1 y818 (([(-1)] : List Int))).bind fun bt825 => (if t816 = 8 then (if bt825.2 = 8 then (spigotlaw42_LeaseNames.l0 k1 (t790 == 0) y791 (wrap64 (x9_1 + 1))) else (none)) else (none))) = some r := by first | (rw [hy818]; with_reducible exact H) | (have H2_ := (Option.bind_some _ _).symm.trans H; rw [hy818]; with_reducible exact H2_) | (have H2_ := (Option.bind_some _ _).symm.trans H; with_reducible exact H2_) | with_reducible exact H | (rw [hy818]; exact H) | exact H
    have Ny818 := Aside0.mk hy818
    clear hy818
    obtain ⟨y822, hy822⟩ : ∃ y_ : List Int, y_ = (([(-1)] : List Int)) := ⟨_, rfl⟩
    replace H : ((lease_Spent.f k1 y818 y822).bind fun bt825 => (if t816 = 8 then (if bt825.2 = 8 then (spigotlaw42_LeaseNames.l0 k1 (t790 == 0) y791 (wrap64 (x9_1 + 1))) else (none)) else (none))) = some r := by first | (rw [hy822]; with_reducible exact H) | (have H2_ := (Option.bind_some _ _).symm.trans H; rw [hy822]; with_reducible exact H2_) | (have H2_ := (Option.bind_some _ _).symm.trans H; with_reducible exact H2_) | with_reducible exact H | (rw [hy822]; exact H) | exact H
    have Ny822 := Aside0.mk hy822
    clear hy822
    have H0_ := bo_ H; clear H; obtain ⟨⟨t825, t826⟩, A111, H⟩ := H0_
    replace H : (if t816 = 8 then (if t826 = 8 then (spigotlaw42_LeaseNames.l0 k1 (t790 == 0) y791 (wrap64 (x9_1 + 1))) else (none)) else (none)) = some r := H
    replace H := ct_ H; obtain ⟨c112b0, c112b1, H⟩ := H
    replace H := ct_ H; obtain ⟨c113b0, c113b1, H⟩ := H
    have H' := Aside0.mk H
    clear H
    obtain ⟨Ao114, co114, eo114⟩ := Kd.R_slice HO_8.out
    subst eo114
    try go_wp2
    replace HO_8 := Aside0.mk (Kd.R_drew HO_8.out)
    replace HB := Aside0.mk (below_drew1 HB.out)
    have p804 : 0 ≤ (x9_1 : Int) := of_decide_eq_true (by first | (with_reducible assumption) | assumption)
    have q804 : x9_1 < (y791.length : Int) := of_decide_eq_true (by first | (with_reducible assumption) | assumption)
    obtain ⟨ad804, e804, hx804_0, hx804_1, hx804_2, hx804_3⟩ := at_T31 (Kd.R_reads' HO_8.out).2.2 x9_1 p804 q804
    cases e804
    replace p804 := eq_true p804
    replace q804 := eq_true q804
    refine start_ (n := 14) (S := fun w' => w'.cell? (ad804.add ((x9_1).toNat * 4)) = some (.int .u8 ((rd_T31 y791 x9_1).f0)) ∧ w'.cell? ⟨(ad804.add ((x9_1).toNat * 4)).block, (ad804.add ((x9_1).toNat * 4)).off + 1, none⟩ = some (.int .i64 ((rd_T31 y791 x9_1).f1)) ∧ w'.cell? ⟨(ad804.add ((x9_1).toNat * 4)).block, (ad804.add ((x9_1).toNat * 4)).off + 2, none⟩ = some (.int .u64 ((rd_T31 y791 x9_1).f2)) ∧ w'.cell? ⟨(ad804.add ((x9_1).toNat * 4)).block, (ad804.add ((x9_1).toNat * 4)).off + 3, none⟩ = some (.int .i64 ((rd_T31 y791 x9_1).f3))) (ds := []) (bl_ 14 0) (by kernel_rfl) rfl (by kernel_rfl) ⟨hx804_0, hx804_1, hx804_2, hx804_3⟩ (fun hHeld => ?_); refine with_tabW spigotlaw42_LeaseNames.tab13 spigotlaw42_LeaseNames.bits13 (fun HT_ HW_ => ?_)
    generalize wr.drew = w115 at HO_8 HB hx804_0 hx804_1 hx804_2 hx804_3 hHeld ⊢
    refine pa_ 1 (some 134) (bl_ 14 2) HT_ ?_
    refine pa_ 2 (some 135) (bl_ 14 6) HT_ ?_
    refine pa_ 3 (some 136) (bl_ 14 14) HT_ ?_
    refine ta_ 4 (some 137) (bl_ 14 30) HT_ HW_ hHeld ?_
    refine join_ (σ := Value × Value × Nat) 3 (bl_ 14 2047) (fun s_ => [(133, .agg #[.int .i64 t794, .int .i64 t795, .int .i64 t796, .int .i64 t797, .int .i64 t798, .int .u64 t799, .int .i64 t800, s_.1]), (138, .tuple #[.agg #[.int .i64 t805, .int .i64 t806, .int .i64 t807, .int .i64 t808, .int .i64 t809, .int .u64 t810, .int .i64 t811, s_.2.1], .int .i64 t815, .int .i64 t816]), (10, .pointer (some ⟨s_.2.2, 0, none⟩)), (132, .tuple #[.agg #[.int .i64 t805, .int .i64 t806, .int .i64 t807, .int .i64 t808, .int .i64 t809, .int .u64 t810, .int .i64 t811, s_.2.1], .int .i64 t815, .int .i64 t816]), (139, .agg #[.int .i64 t805, .int .i64 t806, .int .i64 t807, .int .i64 t808, .int .i64 t809, .int .u64 t810, .int .i64 t811, s_.2.1]), (140, .int .i64 t815), (141, .int .i64 t816)]) (fun s_ w' => (w'.cell? (ad804.add ((x9_1).toNat * 4)) = some (.int .u8 ((rd_T31 y791 x9_1).f0)) ∧ w'.cell? ⟨(ad804.add ((x9_1).toNat * 4)).block, (ad804.add ((x9_1).toNat * 4)).off + 1, none⟩ = some (.int .i64 ((rd_T31 y791 x9_1).f1)) ∧ w'.cell? ⟨(ad804.add ((x9_1).toNat * 4)).block, (ad804.add ((x9_1).toNat * 4)).off + 2, none⟩ = some (.int .u64 ((rd_T31 y791 x9_1).f2)) ∧ w'.cell? ⟨(ad804.add ((x9_1).toNat * 4)).block, (ad804.add ((x9_1).toNat * 4)).off + 3, none⟩ = some (.int .i64 ((rd_T31 y791 x9_1).f3))) ∧ (Kd.R (Kd.int .i64) 2 w' w.heap.size (fun k_ => some k_ ≠ (s_.2.1 : Value).ownBlock) s_.1 t801) ∧ (Kd.R (Kd.int .i64) 2 w' w.heap.size (fun k_ => some k_ ≠ (s_.1 : Value).ownBlock) s_.2.1 t812) ∧ (Kd.R k31 31 w' w.heap.size (fun _ => True) (.slice (some ad804) y791.length co114) y791) ∧ (w'.heap[s_.2.2]? = some (.cells #[.int .i64 0, .int .i64 0, .int .i64 0, .int .i64 0, .int .i64 0, .int .u64 0, .int .i64 0, .slice none 0 0] 29 (0, 0))) ∧ (w.heap.size ≤ s_.2.2) ∧ (w.heap.size ≤ s_.2.2) ∧ (Below w.heap.size w w')) ?_ ?_
    rotate_left
    ·refine ip_ (p := ?P2) ?q2; refine (
    let rec a2_ : ?P2 := by
     intro hCont
     refine tw_ 0 10 (some 133) (some 10) (bl_ 14 31) (bl_ 14 1054) HT_ (fun K hK => ?_) fun K hK => ?_
     ·refine goesB_ Try.func28 #[] ?_
      with_reducible refine (spigotlaw42_given.calls  t794 t795 t796 t797 t798 t799 t800 t801 _ A105.out).mono ?_
      rintro e w116 ⟨v802, rfl, ho0, hb⟩
      have HS0_ := (hb.cell (World.block_lt_of_cell? _ _ (hHeld.1))).trans (hHeld.1)
      have HS1_ := (hb.cell (World.block_lt_of_cell? _ _ (hHeld.2.1))).trans (hHeld.2.1)
      have HS2_ := (hb.cell (World.block_lt_of_cell? _ _ (hHeld.2.2.1))).trans (hHeld.2.2.1)
      have HS3_ := (hb.cell (World.block_lt_of_cell? _ _ (hHeld.2.2.2))).trans (hHeld.2.2.2)
      refine ⟨_, rfl, ?_⟩
      have HO803 := Aside0.mk (Kd.R_lower ho0 (below_size (hq_ HB)))
      replace HO_8 := rb_ HO_8 hb
      replace HB := bs_ w hb
      (try clear hb)
      (try clear hb2)
      (try clear hk)
      (try clear hi)
      (try clear ho0)
      obtain ⟨Ao117, co117, eo117⟩ := Kd.R_slice HO803.out
      (first | subst eo117 | (injection eo117 with f1_ f2_ f3_; have f4_ := f1_.symm; have f5_ := f3_.symm; clear f1_ f2_ f3_; subst f4_; subst f5_))
      refine hK.out _ _ ⟨HS0_, HS1_, HS2_, HS3_⟩ (fun hHeld => ?_)
      clear hK K
      refine nm_ (some 133) ?_
      refine tw_ 5 10 (some 138) (some 10) (bl_ 14 63) (bl_ 14 1055) HT_ (fun K hK => ?_) fun K hK => ?_
      ·refine goesB_ Try.func14 #[.agg #[.int .i64 t794, .int .i64 t795, .int .i64 t796, .int .i64 t797, .int .i64 t798, .int .u64 t799, .int .i64 t800, .slice Ao117 t801.length co117], .agg #[.int .u8 ((rd_T31 y791 x9_1).f0), .int .i64 ((rd_T31 y791 x9_1).f1), .int .u64 ((rd_T31 y791 x9_1).f2), .int .i64 ((rd_T31 y791 x9_1).f3)]] ?_
       with_reducible refine (lease_Step.calls k1 t794 t795 t796 t797 t798 t799 t800 _ _ t801 ((rd_T31 y791 x9_1).f0) ((rd_T31 y791 x9_1).f1) ((rd_T31 y791 x9_1).f2) ((rd_T31 y791 x9_1).f3) t805 t806 t807 t808 t809 t810 t811 t812 t815 t816 _ ?side1 ?side2 A107.out).mono ?_
       (case side1 => exact cr_ HO803)
       (case side2 => exact (Kd.R_reads' HO803.out).2.1)
       rintro e w118 ⟨v813, rfl, ho0, hb⟩
       have HS0_ := (hb.cell (World.block_lt_of_cell? _ _ (hHeld.1))).trans (hHeld.1)
       have HS1_ := (hb.cell (World.block_lt_of_cell? _ _ (hHeld.2.1))).trans (hHeld.2.1)
       have HS2_ := (hb.cell (World.block_lt_of_cell? _ _ (hHeld.2.2.1))).trans (hHeld.2.2.1)
       have HS3_ := (hb.cell (World.block_lt_of_cell? _ _ (hHeld.2.2.2))).trans (hHeld.2.2.2)
       refine ⟨_, rfl, ?_⟩
       have HO814 := Aside0.mk (Kd.R_lower (Kd.R_new' ho0 (Kd.R_lt (rs_ HO803))) (below_size (hq_ HB)))
       replace HO_8 := rb_ HO_8 hb
       replace HO803 := Aside0.mk (Kd.R_elder' (rs_ HO803) (Kd.R_base ho0) hb)
       replace HB := bs_ w hb
       (try clear hb)
       (try clear hb2)
       (try clear hk)
       (try clear hi)
       (try clear ho0)
       refine hK.out _ _ ⟨HS0_, HS1_, HS2_, HS3_⟩ (fun hHeld => ?_)
       clear hK K
       refine nm_ (some 138) ?_
       refine pa_ 6 (some 132) (bl_ 14 127) HT_ ?_
       refine pa_ 7 (some 139) (bl_ 14 255) HT_ ?_
       refine pa_ 8 (some 140) (bl_ 14 511) HT_ ?_
       refine pa_ 9 (some 141) (bl_ 14 1023) HT_ ?_
       refine oa_ 10 (some 10) (bl_ 14 2047) HT_ fun K hK => ?_
       refine box_step ?hg (N := 10) ?hd (cs := #[.int .i64 0, .int .i64 0, .int .i64 0, .int .i64 0, .int .i64 0, .int .u64 0, .int .i64 0, .slice none 0 0]) (t := 29) ?hr ?_; (case hd => rfl); (case hg => rfl); (case hr => first | (go_simp; done) | (go_simp; rfl))
       intro gb817 hg w119 hbox hb
       have HS0_ := (hb.cell (World.block_lt_of_cell? _ _ (hHeld.1))).trans (hHeld.1)
       have HS1_ := (hb.cell (World.block_lt_of_cell? _ _ (hHeld.2.1))).trans (hHeld.2.1)
       have HS2_ := (hb.cell (World.block_lt_of_cell? _ _ (hHeld.2.2.1))).trans (hHeld.2.2.1)
       have HS3_ := (hb.cell (World.block_lt_of_cell? _ _ (hHeld.2.2.2))).trans (hHeld.2.2.2)
       have BK817 := Aside0.mk (hbox)
       have GW817 := bz_ w hg
       have GE817 := GW817
       replace HO_8 := rb_ HO_8 hb
       replace HO803 := rb_ HO803 hb
       replace HO814 := rb_ HO814 hb
       replace HB := bs_ w hb
       clear hb hbox hg
       refine hK.out _ _ ⟨HS0_, HS1_, HS2_, HS3_⟩ (fun hHeld => ?_)
       clear hK K
       refine nm_ (some 10) ?_
       exact no_ (hCont (.slice Ao117 t801.length co117, v813, gb817) _ ⟨hHeld, (by (with_reducible repeat (first | apply Kd.R_alloc | apply Kd.R_drewN | apply Kd.R_drew)); exact Kd.R_mono HO803.out (fun _ hk => hk.2)), (by (with_reducible repeat (first | apply Kd.R_alloc | apply Kd.R_drewN | apply Kd.R_drew)); exact Kd.R_mono HO814.out (fun _ hk => hk.2)), (rs_ HO_8), (bq_ BK817), GW817.out, GE817.out, bh_⟩)
      ·refine box_step ?hg (N := 10) ?hd (cs := #[.int .i64 0, .int .i64 0, .int .i64 0, .int .i64 0, .int .i64 0, .int .u64 0, .int .i64 0, .slice none 0 0]) (t := 29) ?hr ?_; (case hd => rfl); (case hg => rfl); (case hr => first | (go_simp; done) | (go_simp; rfl))
       intro gb817 hg w117 hbox hb
       have HS0_ := (hb.cell (World.block_lt_of_cell? _ _ (hHeld.1))).trans (hHeld.1)
       have HS1_ := (hb.cell (World.block_lt_of_cell? _ _ (hHeld.2.1))).trans (hHeld.2.1)
       have HS2_ := (hb.cell (World.block_lt_of_cell? _ _ (hHeld.2.2.1))).trans (hHeld.2.2.1)
       have HS3_ := (hb.cell (World.block_lt_of_cell? _ _ (hHeld.2.2.2))).trans (hHeld.2.2.2)
       have BK817 := Aside0.mk (hbox)
       have GW817 := bz_ w hg
       have GE817 := GW817
       replace HO_8 := rb_ HO_8 hb
       replace HO803 := rb_ HO803 hb
       replace HB := bs_ w hb
       clear hb hbox hg
       obtain ⟨Ao118, co118, eo118⟩ := Kd.R_slice HO803.out
       (first | subst eo118 | (injection eo118 with f1_ f2_ f3_; have f4_ := f1_.symm; have f5_ := f3_.symm; clear f1_ f2_ f3_; subst f4_; subst f5_))
       refine hK.out _ _ ⟨HS0_, HS1_, HS2_, HS3_⟩ (fun hHeld => ?_)
       clear hK K
       refine nm_ (some 10) ?_
       refine oa_ 5 (some 138) (bl_ 14 1087) HT_ fun K hK => ?_
       refine goesB_ Try.func14 #[.agg #[.int .i64 t794, .int .i64 t795, .int .i64 t796, .int .i64 t797, .int .i64 t798, .int .u64 t799, .int .i64 t800, .slice Ao118 t801.length co118], .agg #[.int .u8 ((rd_T31 y791 x9_1).f0), .int .i64 ((rd_T31 y791 x9_1).f1), .int .u64 ((rd_T31 y791 x9_1).f2), .int .i64 ((rd_T31 y791 x9_1).f3)]] ?_
       with_reducible refine (lease_Step.calls k1 t794 t795 t796 t797 t798 t799 t800 _ _ t801 ((rd_T31 y791 x9_1).f0) ((rd_T31 y791 x9_1).f1) ((rd_T31 y791 x9_1).f2) ((rd_T31 y791 x9_1).f3) t805 t806 t807 t808 t809 t810 t811 t812 t815 t816 _ ?side1 ?side2 A107.out).mono ?_
       (case side1 => exact cr_ HO803)
       (case side2 => exact (Kd.R_reads' HO803.out).2.1)
       rintro e w119 ⟨v813, rfl, ho0, hb⟩
       have HS0_ := (hb.cell (World.block_lt_of_cell? _ _ (hHeld.1))).trans (hHeld.1)
       have HS1_ := (hb.cell (World.block_lt_of_cell? _ _ (hHeld.2.1))).trans (hHeld.2.1)
       have HS2_ := (hb.cell (World.block_lt_of_cell? _ _ (hHeld.2.2.1))).trans (hHeld.2.2.1)
       have HS3_ := (hb.cell (World.block_lt_of_cell? _ _ (hHeld.2.2.2))).trans (hHeld.2.2.2)
       refine ⟨_, rfl, ?_⟩
       have HO814 := Aside0.mk (Kd.R_lower (Kd.R_new' ho0 (Kd.R_lt (rs_ HO803))) (below_size bh_))
       replace HO_8 := rb_ HO_8 hb
       replace HO803 := Aside0.mk (Kd.R_elder' (rs_ HO803) (Kd.R_base ho0) hb)
       replace BK817 := bb_ BK817 hb
       replace HB := bs_ w hb
       (try clear hb)
       (try clear hb2)
       (try clear hk)
       (try clear hi)
       (try clear ho0)
       refine hK.out _ _ ⟨HS0_, HS1_, HS2_, HS3_⟩ (fun hHeld => ?_)
       clear hK K
       refine nm_ (some 138) ?_
       refine pa_ 6 (some 132) (bl_ 14 1151) HT_ ?_
       refine pa_ 7 (some 139) (bl_ 14 1279) HT_ ?_
       refine pa_ 8 (some 140) (bl_ 14 1535) HT_ ?_
       refine pa_ 9 (some 141) (bl_ 14 2047) HT_ ?_
       exact no_ (hCont (.slice Ao118 t801.length co118, v813, gb817) _ ⟨hHeld, (by (with_reducible repeat (first | apply Kd.R_alloc | apply Kd.R_drewN | apply Kd.R_drew)); exact Kd.R_mono HO803.out (fun _ hk => hk.2)), (by (with_reducible repeat (first | apply Kd.R_alloc | apply Kd.R_drewN | apply Kd.R_drew)); exact Kd.R_mono HO814.out (fun _ hk => hk.2)), (rs_ HO_8), (bq_ BK817), GW817.out, GE817.out, bh_⟩)
     ·refine box_step ?hg (N := 10) ?hd (cs := #[.int .i64 0, .int .i64 0, .int .i64 0, .int .i64 0, .int .i64 0, .int .u64 0, .int .i64 0, .slice none 0 0]) (t := 29) ?hr ?_; (case hd => rfl); (case hg => rfl); (case hr => first | (go_simp; done) | (go_simp; rfl))
      intro gb817 hg w116 hbox hb
      have HS0_ := (hb.cell (World.block_lt_of_cell? _ _ (hHeld.1))).trans (hHeld.1)
      have HS1_ := (hb.cell (World.block_lt_of_cell? _ _ (hHeld.2.1))).trans (hHeld.2.1)
      have HS2_ := (hb.cell (World.block_lt_of_cell? _ _ (hHeld.2.2.1))).trans (hHeld.2.2.1)
      have HS3_ := (hb.cell (World.block_lt_of_cell? _ _ (hHeld.2.2.2))).trans (hHeld.2.2.2)
      have BK817 := Aside0.mk (hbox)
      have GW817 := bz_ w hg
      have GE817 := GW817
      replace HO_8 := rb_ HO_8 hb
      replace HB := bs_ w hb
      clear hb hbox hg
      refine hK.out _ _ ⟨HS0_, HS1_, HS2_, HS3_⟩ (fun hHeld => ?_)
      clear hK K
      refine nm_ (some 10) ?_
      refine oa_ 0 (some 133) (bl_ 14 1055) HT_ fun K hK => ?_
      refine goesB_ Try.func28 #[] ?_
      with_reducible refine (spigotlaw42_given.calls  t794 t795 t796 t797 t798 t799 t800 t801 _ A105.out).mono ?_
      rintro e w117 ⟨v802, rfl, ho0, hb⟩
      have HS0_ := (hb.cell (World.block_lt_of_cell? _ _ (hHeld.1))).trans (hHeld.1)
      have HS1_ := (hb.cell (World.block_lt_of_cell? _ _ (hHeld.2.1))).trans (hHeld.2.1)
      have HS2_ := (hb.cell (World.block_lt_of_cell? _ _ (hHeld.2.2.1))).trans (hHeld.2.2.1)
      have HS3_ := (hb.cell (World.block_lt_of_cell? _ _ (hHeld.2.2.2))).trans (hHeld.2.2.2)
      refine ⟨_, rfl, ?_⟩
      have HO803 := Aside0.mk (Kd.R_lower ho0 (below_size bh_))
      replace HO_8 := rb_ HO_8 hb
      replace BK817 := bb_ BK817 hb
      replace HB := bs_ w hb
      (try clear hb)
      (try clear hb2)
      (try clear hk)
      (try clear hi)
      (try clear ho0)
      obtain ⟨Ao118, co118, eo118⟩ := Kd.R_slice HO803.out
      (first | subst eo118 | (injection eo118 with f1_ f2_ f3_; have f4_ := f1_.symm; have f5_ := f3_.symm; clear f1_ f2_ f3_; subst f4_; subst f5_))
      refine hK.out _ _ ⟨HS0_, HS1_, HS2_, HS3_⟩ (fun hHeld => ?_)
      clear hK K
      refine nm_ (some 133) ?_
      refine oa_ 5 (some 138) (bl_ 14 1087) HT_ fun K hK => ?_
      refine goesB_ Try.func14 #[.agg #[.int .i64 t794, .int .i64 t795, .int .i64 t796, .int .i64 t797, .int .i64 t798, .int .u64 t799, .int .i64 t800, .slice Ao118 t801.length co118], .agg #[.int .u8 ((rd_T31 y791 x9_1).f0), .int .i64 ((rd_T31 y791 x9_1).f1), .int .u64 ((rd_T31 y791 x9_1).f2), .int .i64 ((rd_T31 y791 x9_1).f3)]] ?_
      with_reducible refine (lease_Step.calls k1 t794 t795 t796 t797 t798 t799 t800 _ _ t801 ((rd_T31 y791 x9_1).f0) ((rd_T31 y791 x9_1).f1) ((rd_T31 y791 x9_1).f2) ((rd_T31 y791 x9_1).f3) t805 t806 t807 t808 t809 t810 t811 t812 t815 t816 _ ?side1 ?side2 A107.out).mono ?_
      (case side1 => exact cr_ HO803)
      (case side2 => exact (Kd.R_reads' HO803.out).2.1)
      rintro e w119 ⟨v813, rfl, ho0, hb⟩
      have HS0_ := (hb.cell (World.block_lt_of_cell? _ _ (hHeld.1))).trans (hHeld.1)
      have HS1_ := (hb.cell (World.block_lt_of_cell? _ _ (hHeld.2.1))).trans (hHeld.2.1)
      have HS2_ := (hb.cell (World.block_lt_of_cell? _ _ (hHeld.2.2.1))).trans (hHeld.2.2.1)
      have HS3_ := (hb.cell (World.block_lt_of_cell? _ _ (hHeld.2.2.2))).trans (hHeld.2.2.2)
      refine ⟨_, rfl, ?_⟩
      have HO814 := Aside0.mk (Kd.R_lower (Kd.R_new' ho0 (Kd.R_lt (rs_ HO803))) (below_size bh_))
      replace HO_8 := rb_ HO_8 hb
      replace HO803 := Aside0.mk (Kd.R_elder' (rs_ HO803) (Kd.R_base ho0) hb)
      replace BK817 := bb_ BK817 hb
      replace HB := bs_ w hb
      (try clear hb)
      (try clear hb2)
      (try clear hk)
      (try clear hi)
      (try clear ho0)
      refine hK.out _ _ ⟨HS0_, HS1_, HS2_, HS3_⟩ (fun hHeld => ?_)
      clear hK K
      refine nm_ (some 138) ?_
      refine pa_ 6 (some 132) (bl_ 14 1151) HT_ ?_
      refine pa_ 7 (some 139) (bl_ 14 1279) HT_ ?_
      refine pa_ 8 (some 140) (bl_ 14 1535) HT_ ?_
      refine pa_ 9 (some 141) (bl_ 14 2047) HT_ ?_
      exact no_ (hCont (.slice Ao118 t801.length co118, v813, gb817) _ ⟨hHeld, (by (with_reducible repeat (first | apply Kd.R_alloc | apply Kd.R_drewN | apply Kd.R_drew)); exact Kd.R_mono HO803.out (fun _ hk => hk.2)), (by (with_reducible repeat (first | apply Kd.R_alloc | apply Kd.R_drewN | apply Kd.R_drew)); exact Kd.R_mono HO814.out (fun _ hk => hk.2)), (rs_ HO_8), (bq_ BK817), GW817.out, GE817.out, bh_⟩)
    a2_)
    rintro ⟨v802, v813, gb817⟩ w120 hS0_
    dsimp only at hS0_
    obtain ⟨hS_, h0_, h1_, h2_, h3_, h4_, h5_, h6_⟩ := hS0_
    have HO803 : Aside0 (Kd.R (Kd.int .i64) 2 w120 w.heap.size (fun k_ => some k_ ≠ (v813 : Value).ownBlock) v802 t801) := ⟨h0_⟩
    have HO814 : Aside0 (Kd.R (Kd.int .i64) 2 w120 w.heap.size (fun k_ => some k_ ≠ (v802 : Value).ownBlock) v813 t812) := ⟨h1_⟩
    have BK817 := Aside0.mk h3_
    have GW817 := Aside0.mk h4_
    have GE817 := Aside0.mk h5_
    replace HO_8 : Aside0 (Kd.R k31 31 w120 w.heap.size (fun _ => True) (.slice (some ad804) y791.length co114) y791) := ⟨h2_⟩
    replace HB := Aside0.mk h6_
    clear h0_ h1_ h2_ h3_ h4_ h5_ h6_
    have hHeld := hS_
    obtain ⟨Ao128, co128, eo128⟩ := Kd.R_slice HO814.out
    (first | subst eo128 | (injection eo128 with f1_ f2_ f3_; have f4_ := f1_.symm; have f5_ := f3_.symm; clear f1_ f2_ f3_; subst f4_; subst f5_))
    refine nq_ ?_
    refine oa_ 11 none (bl_ 14 4095) HT_ fun K hK => ?_
    have hs121 : w120.cell? ⟨gb817, 0, none⟩ = some (.int .i64 0) := (blk_cell BK817.out 0).trans rfl
    have hfs121 := blk_frozen BK817.out 0
    have hs122 : w120.cell? ⟨gb817, 1, none⟩ = some (.int .i64 0) := (blk_cell BK817.out 1).trans rfl
    have hfs122 := blk_frozen BK817.out 1
    have hs123 : w120.cell? ⟨gb817, 2, none⟩ = some (.int .i64 0) := (blk_cell BK817.out 2).trans rfl
    have hfs123 := blk_frozen BK817.out 2
    have hs124 : w120.cell? ⟨gb817, 3, none⟩ = some (.int .i64 0) := (blk_cell BK817.out 3).trans rfl
    have hfs124 := blk_frozen BK817.out 3
    have hs125 : w120.cell? ⟨gb817, 4, none⟩ = some (.int .i64 0) := (blk_cell BK817.out 4).trans rfl
    have hfs125 := blk_frozen BK817.out 4
    have hs126 : w120.cell? ⟨gb817, 5, none⟩ = some (.int .u64 0) := (blk_cell BK817.out 5).trans rfl
    have hfs126 := blk_frozen BK817.out 5
    have hs127 : w120.cell? ⟨gb817, 6, none⟩ = some (.int .i64 0) := (blk_cell BK817.out 6).trans rfl
    have hfs127 := blk_frozen BK817.out 6
    have hs129 : w120.cell? ⟨gb817, 7, none⟩ = some (.slice none 0 0) := (blk_cell BK817.out 7).trans rfl
    have hfs129 := blk_frozen BK817.out 7
    refine sk_ (hrun := st8_ BK817.out rfl rfl rfl (by kernel_rfl) ⟨rfl, rfl, rfl, rfl, rfl, rfl, rfl, rfl⟩) ?_
    refine hK.out _ _ ⟨(fcr8_ (by first | (rw [add_block]; exact Kd.own_blk (rn_ HO_8.out BK817.out)) | (show (Addr.add _ _).block ≠ _; rw [add_block]; exact Kd.own_blk (rn_ HO_8.out BK817.out)) | exact Kd.own_blk (rn_ HO_8.out BK817.out) | (dsimp only; exact Kd.own_blk (rn_ HO_8.out BK817.out))) hHeld.1), (fcr8_ (by first | (rw [add_block]; exact Kd.own_blk (rn_ HO_8.out BK817.out)) | (show (Addr.add _ _).block ≠ _; rw [add_block]; exact Kd.own_blk (rn_ HO_8.out BK817.out)) | exact Kd.own_blk (rn_ HO_8.out BK817.out) | (dsimp only; exact Kd.own_blk (rn_ HO_8.out BK817.out))) hHeld.2.1), (fcr8_ (by first | (rw [add_block]; exact Kd.own_blk (rn_ HO_8.out BK817.out)) | (show (Addr.add _ _).block ≠ _; rw [add_block]; exact Kd.own_blk (rn_ HO_8.out BK817.out)) | exact Kd.own_blk (rn_ HO_8.out BK817.out) | (dsimp only; exact Kd.own_blk (rn_ HO_8.out BK817.out))) hHeld.2.2.1), (fcr8_ (by first | (rw [add_block]; exact Kd.own_blk (rn_ HO_8.out BK817.out)) | (show (Addr.add _ _).block ≠ _; rw [add_block]; exact Kd.own_blk (rn_ HO_8.out BK817.out)) | exact Kd.own_blk (rn_ HO_8.out BK817.out) | (dsimp only; exact Kd.own_blk (rn_ HO_8.out BK817.out))) hHeld.2.2.2)⟩ (fun hHeld => ?_)
    clear hK K
    refine pa_ 12 (some 11) (bl_ 14 8191) HT_ ?_
    refine pa_ 13 (some 12) (bl_ 14 16383) HT_ ?_
    refine done_ (done_of HT_.out (by kernel_rfl)) ?_
    have n0_ : Aside0 (Kd.R k31 31 ((((((((w120.setCell ⟨gb817, 0, none⟩ (.int .i64 t805)).setCell ⟨gb817, 1, none⟩ (.int .i64 t806)).setCell ⟨gb817, 2, none⟩ (.int .i64 t807)).setCell ⟨gb817, 3, none⟩ (.int .i64 t808)).setCell ⟨gb817, 4, none⟩ (.int .i64 t809)).setCell ⟨gb817, 5, none⟩ (.int .u64 t810)).setCell ⟨gb817, 6, none⟩ (.int .i64 t811)).setCell ⟨gb817, 7, none⟩ (.slice Ao128 t812.length co128)) w.heap.size (fun _ => True) (.slice (some ad804) y791.length co114) y791) := ⟨by (with_reducible repeat (first | apply Kd.R_alloc | apply Kd.R_drewN | apply Kd.R_drew)); exact Kd.R_mono (rf8_ (g := gb817) (Kd.R_types HO_8.out BK817.out (by decide)) (fun _ hk => hk.2)) (fun _ hk => trivial)⟩
    have n1_ : Aside0 (Kd.R (Kd.int .i64) 2 ((((((((w120.setCell ⟨gb817, 0, none⟩ (.int .i64 t805)).setCell ⟨gb817, 1, none⟩ (.int .i64 t806)).setCell ⟨gb817, 2, none⟩ (.int .i64 t807)).setCell ⟨gb817, 3, none⟩ (.int .i64 t808)).setCell ⟨gb817, 4, none⟩ (.int .i64 t809)).setCell ⟨gb817, 5, none⟩ (.int .u64 t810)).setCell ⟨gb817, 6, none⟩ (.int .i64 t811)).setCell ⟨gb817, 7, none⟩ (.slice Ao128 t812.length co128)) w.heap.size (fun k_ => some k_ ≠ (.slice Ao128 t812.length co128 : Value).ownBlock) v802 t801) := ⟨by (with_reducible repeat (first | apply Kd.R_alloc | apply Kd.R_drewN | apply Kd.R_drew)); exact Kd.R_mono (rf8_ (g := gb817) (Kd.R_types HO803.out BK817.out (by decide)) (fun _ hk => hk.2)) (fun _ hk => hk.1)⟩
    have n2_ : Aside0 (Kd.R (Kd.int .i64) 2 ((((((((w120.setCell ⟨gb817, 0, none⟩ (.int .i64 t805)).setCell ⟨gb817, 1, none⟩ (.int .i64 t806)).setCell ⟨gb817, 2, none⟩ (.int .i64 t807)).setCell ⟨gb817, 3, none⟩ (.int .i64 t808)).setCell ⟨gb817, 4, none⟩ (.int .i64 t809)).setCell ⟨gb817, 5, none⟩ (.int .u64 t810)).setCell ⟨gb817, 6, none⟩ (.int .i64 t811)).setCell ⟨gb817, 7, none⟩ (.slice Ao128 t812.length co128)) w.heap.size (fun k_ => some k_ ≠ (v802 : Value).ownBlock) (.slice Ao128 t812.length co128) t812) := ⟨by (with_reducible repeat (first | apply Kd.R_alloc | apply Kd.R_drewN | apply Kd.R_drew)); exact Kd.R_mono (rf8_ (g := gb817) (Kd.R_types HO814.out BK817.out (by decide)) (fun _ hk => hk.2)) (fun _ hk => hk.1)⟩
    have n3_ : Aside0 (((((((((w120.setCell ⟨gb817, 0, none⟩ (.int .i64 t805)).setCell ⟨gb817, 1, none⟩ (.int .i64 t806)).setCell ⟨gb817, 2, none⟩ (.int .i64 t807)).setCell ⟨gb817, 3, none⟩ (.int .i64 t808)).setCell ⟨gb817, 4, none⟩ (.int .i64 t809)).setCell ⟨gb817, 5, none⟩ (.int .u64 t810)).setCell ⟨gb817, 6, none⟩ (.int .i64 t811)).setCell ⟨gb817, 7, none⟩ (.slice Ao128 t812.length co128)).heap[gb817]? = some (.cells #[.int .i64 t805, .int .i64 t806, .int .i64 t807, .int .i64 t808, .int .i64 t809, .int .u64 t810, .int .i64 t811, .slice Ao128 t812.length co128] 29 (0, 0))) := ⟨(bp8_ (bq_ BK817))⟩
    have n4_ : Aside0 (Below w.heap.size w ((((((((w120.setCell ⟨gb817, 0, none⟩ (.int .i64 t805)).setCell ⟨gb817, 1, none⟩ (.int .i64 t806)).setCell ⟨gb817, 2, none⟩ (.int .i64 t807)).setCell ⟨gb817, 3, none⟩ (.int .i64 t808)).setCell ⟨gb817, 4, none⟩ (.int .i64 t809)).setCell ⟨gb817, 5, none⟩ (.int .u64 t810)).setCell ⟨gb817, 6, none⟩ (.int .i64 t811)).setCell ⟨gb817, 7, none⟩ (.slice Ao128 t812.length co128))) := bw_
    (try clear HO_8)
    (try clear HO803)
    (try clear HO814)
    (try clear BK817)
    (try clear HB)
    generalize ((((((((w120.setCell ⟨gb817, 0, none⟩ (.int .i64 t805)).setCell ⟨gb817, 1, none⟩ (.int .i64 t806)).setCell ⟨gb817, 2, none⟩ (.int .i64 t807)).setCell ⟨gb817, 3, none⟩ (.int .i64 t808)).setCell ⟨gb817, 4, none⟩ (.int .i64 t809)).setCell ⟨gb817, 5, none⟩ (.int .u64 t810)).setCell ⟨gb817, 6, none⟩ (.int .i64 t811)).setCell ⟨gb817, 7, none⟩ (.slice Ao128 t812.length co128)) = w130 at n0_ n1_ n2_ n3_ n4_ ⊢
    have HO_8 := n0_
    have HO803 := n1_
    have HO814 := n2_
    have BK817 := n3_
    have HB := n4_
    clear n0_ n1_ n2_ n3_ n4_
    have q131 : ((wrap64 (x9_1 + 1)) : Int) ≤ ((y791.length : Int) : Int) := of_decide_eq_true (by first | (with_reducible assumption) | assumption)
    obtain ⟨i0131, hi0131, _, hsz131, _⟩ := info_parts info31
    have hroom131 : y791.length ≤ co114 := (Kd.R_reads' HO_8.out).2.1
    have hC131 : Kd.C k31 _ (some ad804) y791.length y791 := (Kd.R_reads' HO_8.out).2.2
    have ql131 : (x9_1 : Int) ≤ ((wrap64 (x9_1 + 1)) : Int) := of_decide_eq_true (by first | (with_reducible assumption) | assumption)
    have q0131 : (0 : Int) ≤ (x9_1 : Int) := of_decide_eq_true (by first | (with_reducible assumption) | assumption)
    have hcut131 := cut_mid (P := Try.prog) 44 31 .i64 .i64 Try.underlying44 hi0131 4 hsz131 (some ad804) y791.length co114 x9_1 (wrap64 (x9_1 + 1)) q0131 ql131 q131 hroom131
    have hr131 := Kd.C_mid (lo := (x9_1 : Int).toNat) (hi := ((wrap64 (x9_1 + 1)) : Int).toNat) (c := co114) hC131 (by omega) (by omega) hroom131
    obtain ⟨A131, hA131⟩ : ∃ A1, A1 = (if co114 = (x9_1 : Int).toNat then (some ad804) else ((some ad804) : Option Addr).map (·.add ((x9_1 : Int).toNat * 4))) := ⟨_, rfl⟩
    obtain ⟨c131, hc131⟩ : ∃ c1, c1 = co114 - (x9_1 : Int).toNat := ⟨_, rfl⟩
    have hy131 : y818.length = ((wrap64 (x9_1 + 1)) : Int).toNat - (x9_1 : Int).toNat := (by rw [Ny818.out, List.length_drop, List.length_take] <;> omega)
    rw [show ((y791).take ((wrap64 (x9_1 + 1)) : Int).toNat).drop (x9_1 : Int).toNat = y818 from Ny818.out.symm] at hr131
    replace hr131 : Kd.C k31 _ A131 y818.length y818 := (by rw [hA131]; exact hr131)
    rw [← hy131, ← hA131, ← hc131] at hcut131
    have HR821 := Aside0.mk hr131
    have HC821 := Aside0.mk (show y818.length ≤ c131 from by rw [hy131, hc131]; exact Nat.sub_le_sub_right (Nat.le_trans (by omega) hroom131) _)
    clear hr131 hC131 hroom131 hi0131 hsz131 hc131
    have KY131 := Aside0.mk hy131
    have KA131 := Aside0.mk hA131
    clear hy131 hA131
    have KL131 := Aside0.mk (show ((wrap64 (x9_1 + 1)) : Int).toNat ≤ y791.length from by omega)
    have KM131 := Aside0.mk (show (x9_1 : Int).toNat ≤ ((wrap64 (x9_1 + 1)) : Int).toNat from by omega)
    replace q131 := eq_true q131
    try go_wp2_with (first | ((with_reducible refine gate_dst (N := 148) rfl ?_); (try refine ug_ (by rfl) ?_); refine Kd.R_lit (Kd.int .i64) _ 2 ?hg (N := 148) ?hd (xs := ([(-1)] : List Int)) (inner := [.int .i64 (-1)]) (ok := fun _ => True) (okp := fun _ => True) ?hr ?hp (fun _ hk => hk) trivial (Below.refl _ _) (Nat.le_refl _) (by simp) ?_; (case hd => rfl); (case hg => rfl); (case hr => first | (go_simp; done) | (go_simp; rfl)); (case hp => exact (Reps.one (show Kd.M (Kd.int .i64) _ _ _ (-1) [.int .i64 (-1)] from rfl) (Reps.none _ _))); intro v823 w132 ho133 hb hg_ hnew_; clear hg_ hnew_; (first | rw [← Ny822.out] at ho133 | (simp only [Int.reduceToNat] at ho133; rw [← Ny822.out] at ho133)); have HO824 := Aside0.mk (Kd.R_lower (Kd.R_new' (Kd.R_new' ho133 (Kd.R_lt (rs_ HO803))) (Kd.R_lt (rs_ HO814))) (below_size bh_)); replace HO_8 := rb_ HO_8 hb; replace HO803 := Aside0.mk (Kd.R_elder' (rs_ HO803) (Kd.R_base ho133) hb); replace HO814 := Aside0.mk (Kd.R_elder' (rs_ HO814) (Kd.R_base ho133) hb); replace BK817 := bb_ BK817 hb; replace HR821 := Aside0.mk (Kd.C_below (by repeat (first | (with_reducible exact HR821.out) | (with_reducible refine Kd.C_alloc ?_ _) | (with_reducible refine Kd.C_drewN ?_ _) | (with_reducible refine Kd.C_drew ?_) | exact HR821.out)) hb); replace HB := bs_ w hb; clear hb ho133; obtain ⟨Ao134, co134, eo134⟩ := Kd.R_slice HO824.out; subst eo134) | ((with_reducible refine gate_callee (f := 19) rfl ?_); (try refine ug_ (by rfl) ?_); refine goesA_ (some 149) Try.func19 #[.slice A131 y818.length c131, .slice Ao134 y822.length co134] ?_; (with_reducible refine (lease_Spent.calls k1 _ _ y818 _ _ y822 t825 t826 _ ?side1 ?side2 ?side3 ?side4 A111.out).mono ?_); (case side1 => repeat (first | exact (by repeat (first | (with_reducible exact HR821.out) | (with_reducible refine Kd.C_alloc ?_ _) | (with_reducible refine Kd.C_drewN ?_ _) | (with_reducible refine Kd.C_drew ?_) | exact HR821.out)) | (with_reducible refine Kd.C_alloc ?_ _) | (with_reducible refine Kd.C_drewN ?_ _) | (with_reducible refine Kd.C_drew ?_))); (case side2 => exact HC821.out); (case side3 => exact cr_ HO824); (case side4 => exact (Kd.R_reads' HO824.out).2.1); rintro e w135 ⟨rfl, hb⟩; refine ⟨_, rfl, ?_⟩; replace HO_8 := rb_ HO_8 hb; replace HO803 := rb_ HO803 hb; replace HO814 := rb_ HO814 hb; replace HO824 := rb_ HO824 hb; replace BK817 := bb_ BK817 hb; replace HR821 := Aside0.mk (Kd.C_below (by repeat (first | (with_reducible exact HR821.out) | (with_reducible refine Kd.C_alloc ?_ _) | (with_reducible refine Kd.C_drewN ?_ _) | (with_reducible refine Kd.C_drew ?_) | exact HR821.out)) hb); replace HB := bs_ w hb; clear hb))
    go_roundg k1
    case measure => have := HK1.out; omega
    case rel => exact ⟨(wrap64 (x9_1 + 1)), rf_, H', ⟨by have := HK1.out; omega⟩, ⟨rs_ HO_8⟩, bw_⟩
   a1_)
   ·refine ip_ (p := ?P3) ?q3; refine (
   let rec a3_ : ?P3 := by
    rw [if_neg c104] at H
    have c104b0 : decide (x9_1 < (y791.length : Int)) = false := decide_eq_false c104
    clear c104
    have H0_ := bo_ H; clear H; obtain ⟨⟨t827, t828, t829, t830, t831, t832, t833, t834⟩, A136, H⟩ := H0_
    try dsimp only at H
    by_cases c137 : 0 < (t834.length : Int)
    rotate_left
    ·rw [if_neg c137] at H; exact absurd H (by simp)
    rw [if_pos c137] at H
    have c137b0 : decide (0 < (t834.length : Int)) = true := decide_eq_true c137
    have c137b1 : decide (0 < t834.length) = true := decide_eq_true (by omega)
    clear c137
    obtain ⟨y838, hy838⟩ : ∃ y_ : List Int, y_ = (t834.set (0 : Int).toNat 1000000000000) := ⟨_, rfl⟩
    replace H : (if 1 < (t834.length : Int) then ((some (y838.set (1 : Int).toNat 999999999999 : List Int)).bind fun y839 => ((lease_Step.f k1 t827 t828 t829 t830 t831 t832 t833 y839 1 0 0 0).bind fun bt840 => ((lease_Step.f k1 t827 t828 t829 t830 t831 t832 t833 y839 1 1 0 0).bind fun bt853 => ((lease_Step.f k1 t827 t828 t829 t830 t831 t832 t833 y839 3 0 99 0).bind fun bt866 => ((lease_Step.f k1 t827 t828 t829 t830 t831 t832 t833 y839 4 0 0 0).bind fun bt879 => (if bt840.2.2.2.2.2.2.2.2.2 = 0 then (if bt840.2.2.2.2.2.2.2.2.1 = 0 then (if bt840.2.2.2.1 = 10 then (if bt853.2.2.2.2.2.2.2.2.2 = 0 then (if bt853.2.2.2.2.2.2.2.2.1 = 1 then (if bt853.2.2.2.1 = 9 then (if bt866.2.2.2.2.2.2.2.2.2 = 0 then (if bt866.2.2.2.2.2.2.2.2.1 = 1000000000000 then (if bt866.2.2.2.1 = 10 then (if bt866.2.2.2.2.2.1 = 99 then (if 0 < (bt866.2.2.2.2.2.2.2.1.length : Int) then (if (rd bt866.2.2.2.2.2.2.2.1 0) = 0 then (if bt879.2.2.2.2.2.2.2.2.2 = 0 then (if bt879.2.2.2.2.2.2.2.2.1 = 1000000000000 then (if 0 < (bt879.2.2.2.2.2.2.2.1.length : Int) then (if (rd bt879.2.2.2.2.2.2.2.1 0) = 0 then (if 1 < (bt879.2.2.2.2.2.2.2.1.length : Int) then ((spigotlaw42_given.f).bind fun bt895 => (if 0 < (bt895.2.2.2.2.2.2.2.length : Int) then ((some (bt895.2.2.2.2.2.2.2.set (0 : Int).toNat 2 : List Int)).bind fun y906 => ((lease_Step.f k1 10 2 3 8 2 5 bt895.2.2.2.2.2.2.1 y906 3 0 5 0).bind fun bt907 => ((lease_Bound.f k1 10 2 3 8 2 5 bt895.2.2.2.2.2.2.1 y906 5).bind fun bt920 => ((lease_Bound.f k1 10 2 3 8 2 5 bt895.2.2.2.2.2.2.1 y906 18446744073709551615).bind fun bt922 => ((lease_Out.f k1 10 2 3 8 2 5 bt895.2.2.2.2.2.2.1 y906).bind fun bt924 => (if bt907.2.2.2.2.2.2.2.2.2 = 0 then (if bt907.2.2.2.2.2.2.2.2.1 = 2 then (if bt907.2.2.2.1 = 10 then (if bt907.2.2.2.2.1 = 0 then (if bt920.2 = 0 then (if bt920.1 = 14 then (if bt922.2 = 0 then (if bt922.1 = 1000000000000000 then (if bt924.2 = 0 then ((spigotlaw42_given.f).bind fun bt926 => ((lease_Step.f k1 bt926.1 bt926.2.1 bt926.2.2.1 bt926.2.2.2.1 bt926.2.2.2.2.1 bt926.2.2.2.2.2.1 bt926.2.2.2.2.2.2.1 bt926.2.2.2.2.2.2.2 1 2 0 0).bind fun bt936 => ((spigotlaw42_given.f).bind fun bt949 => ((lease_Run.f k1 bt949.1 bt949.2.1 bt949.2.2.1 bt949.2.2.2.1 bt949.2.2.2.2.1 bt949.2.2.2.2.2.1 bt949.2.2.2.2.2.2.1 bt949.2.2.2.2.2.2.2 (List.replicate 101 z31)).bind fun bt962 => ((spigotlaw42_given.f).bind fun bt977 => ((lease_Run.f k1 bt977.1 bt977.2.1 bt977.2.2.1 bt977.2.2.2.1 bt977.2.2.2.2.1 bt977.2.2.2.2.2.1 bt977.2.2.2.2.2.2.1 bt977.2.2.2.2.2.2.2 (([(⟨1, 0, 0, 0⟩ : S31), (⟨1, 7, 0, 0⟩ : S31), (⟨0, 0, 0, 0⟩ : S31)] : List (S31)))).bind fun bt990 => ((spigotlaw42_given.f).bind fun bt1005 => ((lease_Run.f k1 bt1005.1 bt1005.2.1 bt1005.2.2.1 bt1005.2.2.2.1 bt1005.2.2.2.2.1 bt1005.2.2.2.2.2.1 bt1005.2.2.2.2.2.2.1 bt1005.2.2.2.2.2.2.2 ([] : List (S31))).bind fun bt1015 => ((lease_Spent.f k1 (List.replicate 101 z31) ([] : List Int)).bind fun bt1033 => ((lease_Spent.f k1 (([(⟨0, 0, 0, 0⟩ : S31)] : List (S31))) ([] : List Int)).bind fun bt1038 => ((lease_Spent.f k1 (([(⟨2, 0, 0, 3⟩ : S31)] : List (S31))) (([2] : List Int))).bind fun bt1046 => ((lease_Spent.f k1 (([(⟨2, 0, 0, 3⟩ : S31), (⟨1, 9, 0, 0⟩ : S31), (⟨2, 0, 0, 4⟩ : S31), (⟨2, 0, 0, 5⟩ : S31)] : List (S31))) (([3, 77, (-1), 5] : List Int))).bind fun bt1054 => (if bt936.2.2.2.2.2.2.2.2.2 = 2 then (if bt962.2.2.2.2.2.2.2.2.2 = 4 then (if bt990.2.2.2.2.2.2.2.2.2 = 2 then (if bt1015.2.2.2.2.2.2.2.2.2 = 0 then (if (bt1015.2.2.2.2.2.2.2.2.1.length : Int) = 0 then ((spigotlaw42_given.f).bind fun bt1056 => ((spigotref42_Same.f k1 bt1015.1 bt1015.2.1 bt1015.2.2.1 bt1015.2.2.2.1 bt1015.2.2.2.2.1 bt1015.2.2.2.2.2.1 bt1015.2.2.2.2.2.2.1 bt1015.2.2.2.2.2.2.2.1 bt1056.1 bt1056.2.1 bt1056.2.2.1 bt1056.2.2.2.1 bt1056.2.2.2.2.1 bt1056.2.2.2.2.2.1 bt1056.2.2.2.2.2.2.1 bt1056.2.2.2.2.2.2.2).bind fun t1066 => (if t1066 = true then (if bt1033.2 = 4 then (if bt1038.2 = 2 then (if bt1046.2 = 8 then (if bt1054.2 = 0 then (if (t790 == 0) = true then (if (rd bt879.2.2.2.2.2.2.2.1 1) = 999999999999 then (if bt924.1 = 2 then (if bt1054.1 = 8 then ((spigotlaw42_alive.f k1).bind fun t1067 => (some t1067)) else (none)) else (none)) else (none)) else (none)) else (none)) else (none)) else (none)) else (none)) else (none)))) else (none)) else (none)) else (none)) else (none)) else (none)))))))))))))) else (none)) else (none)) else (none)) else (none)) else (none)) else (none)) else (none)) else (none)) else (none))))))) else (none))) else (none)) else (none)) else (none)) else (none)) else (none)) else (none)) else (none)) else (none)) else (none)) else (none)) else (none)) else (none)) else (none)) else (none)) else (none)) else (none)) else (none))))))) else (none)) = some r := by first | (rw [hy838]; with_reducible exact H) | (have H2_ := (Option.bind_some _ _).symm.trans H; rw [hy838]; with_reducible exact H2_) | (have H2_ := (Option.bind_some _ _).symm.trans H; with_reducible exact H2_) | with_reducible exact H | (rw [hy838]; exact H) | exact H
    have Ny838 := Aside0.mk hy838
    clear hy838
    by_cases c139 : 1 < (t834.length : Int)
    rotate_left
    ·rw [if_neg c139] at H; exact absurd H (by simp)
    rw [if_pos c139] at H
    have c139b0 : decide (1 < (t834.length : Int)) = true := decide_eq_true c139
    have c139b1 : decide (1 < t834.length) = true := decide_eq_true (by omega)
    clear c139
    obtain ⟨y839, hy839⟩ : ∃ y_ : List Int, y_ = (y838.set (1 : Int).toNat 999999999999) := ⟨_, rfl⟩
    replace H : ((lease_Step.f k1 t827 t828 t829 t830 t831 t832 t833 y839 1 0 0 0).bind fun bt840 => ((lease_Step.f k1 t827 t828 t829 t830 t831 t832 t833 y839 1 1 0 0).bind fun bt853 => ((lease_Step.f k1 t827 t828 t829 t830 t831 t832 t833 y839 3 0 99 0).bind fun bt866 => ((lease_Step.f k1 t827 t828 t829 t830 t831 t832 t833 y839 4 0 0 0).bind fun bt879 => (if bt840.2.2.2.2.2.2.2.2.2 = 0 then (if bt840.2.2.2.2.2.2.2.2.1 = 0 then (if bt840.2.2.2.1 = 10 then (if bt853.2.2.2.2.2.2.2.2.2 = 0 then (if bt853.2.2.2.2.2.2.2.2.1 = 1 then (if bt853.2.2.2.1 = 9 then (if bt866.2.2.2.2.2.2.2.2.2 = 0 then (if bt866.2.2.2.2.2.2.2.2.1 = 1000000000000 then (if bt866.2.2.2.1 = 10 then (if bt866.2.2.2.2.2.1 = 99 then (if 0 < (bt866.2.2.2.2.2.2.2.1.length : Int) then (if (rd bt866.2.2.2.2.2.2.2.1 0) = 0 then (if bt879.2.2.2.2.2.2.2.2.2 = 0 then (if bt879.2.2.2.2.2.2.2.2.1 = 1000000000000 then (if 0 < (bt879.2.2.2.2.2.2.2.1.length : Int) then (if (rd bt879.2.2.2.2.2.2.2.1 0) = 0 then (if 1 < (bt879.2.2.2.2.2.2.2.1.length : Int) then ((spigotlaw42_given.f).bind fun bt895 => (if 0 < (bt895.2.2.2.2.2.2.2.length : Int) then ((some (bt895.2.2.2.2.2.2.2.set (0 : Int).toNat 2 : List Int)).bind fun y906 => ((lease_Step.f k1 10 2 3 8 2 5 bt895.2.2.2.2.2.2.1 y906 3 0 5 0).bind fun bt907 => ((lease_Bound.f k1 10 2 3 8 2 5 bt895.2.2.2.2.2.2.1 y906 5).bind fun bt920 => ((lease_Bound.f k1 10 2 3 8 2 5 bt895.2.2.2.2.2.2.1 y906 18446744073709551615).bind fun bt922 => ((lease_Out.f k1 10 2 3 8 2 5 bt895.2.2.2.2.2.2.1 y906).bind fun bt924 => (if bt907.2.2.2.2.2.2.2.2.2 = 0 then (if bt907.2.2.2.2.2.2.2.2.1 = 2 then (if bt907.2.2.2.1 = 10 then (if bt907.2.2.2.2.1 = 0 then (if bt920.2 = 0 then (if bt920.1 = 14 then (if bt922.2 = 0 then (if bt922.1 = 1000000000000000 then (if bt924.2 = 0 then ((spigotlaw42_given.f).bind fun bt926 => ((lease_Step.f k1 bt926.1 bt926.2.1 bt926.2.2.1 bt926.2.2.2.1 bt926.2.2.2.2.1 bt926.2.2.2.2.2.1 bt926.2.2.2.2.2.2.1 bt926.2.2.2.2.2.2.2 1 2 0 0).bind fun bt936 => ((spigotlaw42_given.f).bind fun bt949 => ((lease_Run.f k1 bt949.1 bt949.2.1 bt949.2.2.1 bt949.2.2.2.1 bt949.2.2.2.2.1 bt949.2.2.2.2.2.1 bt949.2.2.2.2.2.2.1 bt949.2.2.2.2.2.2.2 (List.replicate 101 z31)).bind fun bt962 => ((spigotlaw42_given.f).bind fun bt977 => ((lease_Run.f k1 bt977.1 bt977.2.1 bt977.2.2.1 bt977.2.2.2.1 bt977.2.2.2.2.1 bt977.2.2.2.2.2.1 bt977.2.2.2.2.2.2.1 bt977.2.2.2.2.2.2.2 (([(⟨1, 0, 0, 0⟩ : S31), (⟨1, 7, 0, 0⟩ : S31), (⟨0, 0, 0, 0⟩ : S31)] : List (S31)))).bind fun bt990 => ((spigotlaw42_given.f).bind fun bt1005 => ((lease_Run.f k1 bt1005.1 bt1005.2.1 bt1005.2.2.1 bt1005.2.2.2.1 bt1005.2.2.2.2.1 bt1005.2.2.2.2.2.1 bt1005.2.2.2.2.2.2.1 bt1005.2.2.2.2.2.2.2 ([] : List (S31))).bind fun bt1015 => ((lease_Spent.f k1 (List.replicate 101 z31) ([] : List Int)).bind fun bt1033 => ((lease_Spent.f k1 (([(⟨0, 0, 0, 0⟩ : S31)] : List (S31))) ([] : List Int)).bind fun bt1038 => ((lease_Spent.f k1 (([(⟨2, 0, 0, 3⟩ : S31)] : List (S31))) (([2] : List Int))).bind fun bt1046 => ((lease_Spent.f k1 (([(⟨2, 0, 0, 3⟩ : S31), (⟨1, 9, 0, 0⟩ : S31), (⟨2, 0, 0, 4⟩ : S31), (⟨2, 0, 0, 5⟩ : S31)] : List (S31))) (([3, 77, (-1), 5] : List Int))).bind fun bt1054 => (if bt936.2.2.2.2.2.2.2.2.2 = 2 then (if bt962.2.2.2.2.2.2.2.2.2 = 4 then (if bt990.2.2.2.2.2.2.2.2.2 = 2 then (if bt1015.2.2.2.2.2.2.2.2.2 = 0 then (if (bt1015.2.2.2.2.2.2.2.2.1.length : Int) = 0 then ((spigotlaw42_given.f).bind fun bt1056 => ((spigotref42_Same.f k1 bt1015.1 bt1015.2.1 bt1015.2.2.1 bt1015.2.2.2.1 bt1015.2.2.2.2.1 bt1015.2.2.2.2.2.1 bt1015.2.2.2.2.2.2.1 bt1015.2.2.2.2.2.2.2.1 bt1056.1 bt1056.2.1 bt1056.2.2.1 bt1056.2.2.2.1 bt1056.2.2.2.2.1 bt1056.2.2.2.2.2.1 bt1056.2.2.2.2.2.2.1 bt1056.2.2.2.2.2.2.2).bind fun t1066 => (if t1066 = true then (if bt1033.2 = 4 then (if bt1038.2 = 2 then (if bt1046.2 = 8 then (if bt1054.2 = 0 then (if (t790 == 0) = true then (if (rd bt879.2.2.2.2.2.2.2.1 1) = 999999999999 then (if bt924.1 = 2 then (if bt1054.1 = 8 then ((spigotlaw42_alive.f k1).bind fun t1067 => (some t1067)) else (none)) else (none)) else (none)) else (none)) else (none)) else (none)) else (none)) else (none)) else (none)))) else (none)) else (none)) else (none)) else (none)) else (none)))))))))))))) else (none)) else (none)) else (none)) else (none)) else (none)) else (none)) else (none)) else (none)) else (none))))))) else (none))) else (none)) else (none)) else (none)) else (none)) else (none)) else (none)) else (none)) else (none)) else (none)) else (none)) else (none)) else (none)) else (none)) else (none)) else (none)) else (none)) else (none)))))) = some r := by first | (rw [hy839]; with_reducible exact H) | (have H2_ := (Option.bind_some _ _).symm.trans H; rw [hy839]; with_reducible exact H2_) | (have H2_ := (Option.bind_some _ _).symm.trans H; with_reducible exact H2_) | with_reducible exact H | (rw [hy839]; exact H) | exact H
    have Ny839 := Aside0.mk hy839
    clear hy839
    have H0_ := bo_ H; clear H; obtain ⟨⟨t840, t841, t842, t843, t844, t845, t846, t847, t850, t851⟩, A141, H⟩ := H0_
    try dsimp only at H
    have H0_ := bo_ H; clear H; obtain ⟨⟨t853, t854, t855, t856, t857, t858, t859, t860, t863, t864⟩, A142, H⟩ := H0_
    try dsimp only at H
    have H0_ := bo_ H; clear H; obtain ⟨⟨t866, t867, t868, t869, t870, t871, t872, t873, t876, t877⟩, A143, H⟩ := H0_
    try dsimp only at H
    have H0_ := bo_ H; clear H; obtain ⟨⟨t879, t880, t881, t882, t883, t884, t885, t886, t889, t890⟩, A144, H⟩ := H0_
    try dsimp only at H
    replace H := ct_ H; obtain ⟨c145b0, c145b1, H⟩ := H
    replace H := ct_ H; obtain ⟨c146b0, c146b1, H⟩ := H
    replace H := ct_ H; obtain ⟨c147b0, c147b1, H⟩ := H
    replace H := ct_ H; obtain ⟨c148b0, c148b1, H⟩ := H
    replace H := ct_ H; obtain ⟨c149b0, c149b1, H⟩ := H
    replace H := ct_ H; obtain ⟨c150b0, c150b1, H⟩ := H
    replace H := ct_ H; obtain ⟨c151b0, c151b1, H⟩ := H
    replace H := ct_ H; obtain ⟨c152b0, c152b1, H⟩ := H
    replace H := ct_ H; obtain ⟨c153b0, c153b1, H⟩ := H
    replace H := ct_ H; obtain ⟨c154b0, c154b1, H⟩ := H
    by_cases c155 : 0 < (t873.length : Int)
    rotate_left
    ·rw [if_neg c155] at H; exact absurd H (by simp)
    rw [if_pos c155] at H
    have c155b0 : decide (0 < (t873.length : Int)) = true := decide_eq_true c155
    have c155b1 : decide (0 < t873.length) = true := decide_eq_true (by omega)
    clear c155
    replace H := ct_ H; obtain ⟨c156b0, c156b1, H⟩ := H
    replace H := ct_ H; obtain ⟨c157b0, c157b1, H⟩ := H
    replace H := ct_ H; obtain ⟨c158b0, c158b1, H⟩ := H
    by_cases c159 : 0 < (t886.length : Int)
    rotate_left
    ·rw [if_neg c159] at H; exact absurd H (by simp)
    rw [if_pos c159] at H
    have c159b0 : decide (0 < (t886.length : Int)) = true := decide_eq_true c159
    have c159b1 : decide (0 < t886.length) = true := decide_eq_true (by omega)
    clear c159
    replace H := ct_ H; obtain ⟨c160b0, c160b1, H⟩ := H
    by_cases c161 : 1 < (t886.length : Int)
    rotate_left
    ·rw [if_neg c161] at H; exact absurd H (by simp)
    rw [if_pos c161] at H
    have c161b0 : decide (1 < (t886.length : Int)) = true := decide_eq_true c161
    have c161b1 : decide (1 < t886.length) = true := decide_eq_true (by omega)
    clear c161
    have H0_ := bo_ H; clear H; obtain ⟨⟨t895, t896, t897, t898, t899, t900, t901, t902⟩, A162, H⟩ := H0_
    try dsimp only at H
    by_cases c163 : 0 < (t902.length : Int)
    rotate_left
    ·rw [if_neg c163] at H; exact absurd H (by simp)
    rw [if_pos c163] at H
    have c163b0 : decide (0 < (t902.length : Int)) = true := decide_eq_true c163
    have c163b1 : decide (0 < t902.length) = true := decide_eq_true (by omega)
    clear c163
    obtain ⟨y906, hy906⟩ : ∃ y_ : List Int, y_ = (t902.set (0 : Int).toNat 2) := ⟨_, rfl⟩
    replace H : ((lease_Step.f k1 10 2 3 8 2 5 t901 y906 3 0 5 0).bind fun bt907 => ((lease_Bound.f k1 10 2 3 8 2 5 t901 y906 5).bind fun bt920 => ((lease_Bound.f k1 10 2 3 8 2 5 t901 y906 18446744073709551615).bind fun bt922 => ((lease_Out.f k1 10 2 3 8 2 5 t901 y906).bind fun bt924 => (if bt907.2.2.2.2.2.2.2.2.2 = 0 then (if bt907.2.2.2.2.2.2.2.2.1 = 2 then (if bt907.2.2.2.1 = 10 then (if bt907.2.2.2.2.1 = 0 then (if bt920.2 = 0 then (if bt920.1 = 14 then (if bt922.2 = 0 then (if bt922.1 = 1000000000000000 then (if bt924.2 = 0 then ((spigotlaw42_given.f).bind fun bt926 => ((lease_Step.f k1 bt926.1 bt926.2.1 bt926.2.2.1 bt926.2.2.2.1 bt926.2.2.2.2.1 bt926.2.2.2.2.2.1 bt926.2.2.2.2.2.2.1 bt926.2.2.2.2.2.2.2 1 2 0 0).bind fun bt936 => ((spigotlaw42_given.f).bind fun bt949 => ((lease_Run.f k1 bt949.1 bt949.2.1 bt949.2.2.1 bt949.2.2.2.1 bt949.2.2.2.2.1 bt949.2.2.2.2.2.1 bt949.2.2.2.2.2.2.1 bt949.2.2.2.2.2.2.2 (List.replicate 101 z31)).bind fun bt962 => ((spigotlaw42_given.f).bind fun bt977 => ((lease_Run.f k1 bt977.1 bt977.2.1 bt977.2.2.1 bt977.2.2.2.1 bt977.2.2.2.2.1 bt977.2.2.2.2.2.1 bt977.2.2.2.2.2.2.1 bt977.2.2.2.2.2.2.2 (([(⟨1, 0, 0, 0⟩ : S31), (⟨1, 7, 0, 0⟩ : S31), (⟨0, 0, 0, 0⟩ : S31)] : List (S31)))).bind fun bt990 => ((spigotlaw42_given.f).bind fun bt1005 => ((lease_Run.f k1 bt1005.1 bt1005.2.1 bt1005.2.2.1 bt1005.2.2.2.1 bt1005.2.2.2.2.1 bt1005.2.2.2.2.2.1 bt1005.2.2.2.2.2.2.1 bt1005.2.2.2.2.2.2.2 ([] : List (S31))).bind fun bt1015 => ((lease_Spent.f k1 (List.replicate 101 z31) ([] : List Int)).bind fun bt1033 => ((lease_Spent.f k1 (([(⟨0, 0, 0, 0⟩ : S31)] : List (S31))) ([] : List Int)).bind fun bt1038 => ((lease_Spent.f k1 (([(⟨2, 0, 0, 3⟩ : S31)] : List (S31))) (([2] : List Int))).bind fun bt1046 => ((lease_Spent.f k1 (([(⟨2, 0, 0, 3⟩ : S31), (⟨1, 9, 0, 0⟩ : S31), (⟨2, 0, 0, 4⟩ : S31), (⟨2, 0, 0, 5⟩ : S31)] : List (S31))) (([3, 77, (-1), 5] : List Int))).bind fun bt1054 => (if bt936.2.2.2.2.2.2.2.2.2 = 2 then (if bt962.2.2.2.2.2.2.2.2.2 = 4 then (if bt990.2.2.2.2.2.2.2.2.2 = 2 then (if bt1015.2.2.2.2.2.2.2.2.2 = 0 then (if (bt1015.2.2.2.2.2.2.2.2.1.length : Int) = 0 then ((spigotlaw42_given.f).bind fun bt1056 => ((spigotref42_Same.f k1 bt1015.1 bt1015.2.1 bt1015.2.2.1 bt1015.2.2.2.1 bt1015.2.2.2.2.1 bt1015.2.2.2.2.2.1 bt1015.2.2.2.2.2.2.1 bt1015.2.2.2.2.2.2.2.1 bt1056.1 bt1056.2.1 bt1056.2.2.1 bt1056.2.2.2.1 bt1056.2.2.2.2.1 bt1056.2.2.2.2.2.1 bt1056.2.2.2.2.2.2.1 bt1056.2.2.2.2.2.2.2).bind fun t1066 => (if t1066 = true then (if bt1033.2 = 4 then (if bt1038.2 = 2 then (if bt1046.2 = 8 then (if bt1054.2 = 0 then (if (t790 == 0) = true then (if (rd t886 1) = 999999999999 then (if bt924.1 = 2 then (if bt1054.1 = 8 then ((spigotlaw42_alive.f k1).bind fun t1067 => (some t1067)) else (none)) else (none)) else (none)) else (none)) else (none)) else (none)) else (none)) else (none)) else (none)))) else (none)) else (none)) else (none)) else (none)) else (none)))))))))))))) else (none)) else (none)) else (none)) else (none)) else (none)) else (none)) else (none)) else (none)) else (none)))))) = some r := by first | (rw [hy906]; with_reducible exact H) | (have H2_ := (Option.bind_some _ _).symm.trans H; rw [hy906]; with_reducible exact H2_) | (have H2_ := (Option.bind_some _ _).symm.trans H; with_reducible exact H2_) | with_reducible exact H | (rw [hy906]; exact H) | exact H
    have Ny906 := Aside0.mk hy906
    clear hy906
    have H0_ := bo_ H; clear H; obtain ⟨⟨t907, t908, t909, t910, t911, t912, t913, t914, t917, t918⟩, A165, H⟩ := H0_
    try dsimp only at H
    have H0_ := bo_ H; clear H; obtain ⟨⟨t920, t921⟩, A166, H⟩ := H0_
    try dsimp only at H
    have H0_ := bo_ H; clear H; obtain ⟨⟨t922, t923⟩, A167, H⟩ := H0_
    try dsimp only at H
    have H0_ := bo_ H; clear H; obtain ⟨⟨t924, t925⟩, A168, H⟩ := H0_
    try dsimp only at H
    replace H := ct_ H; obtain ⟨c169b0, c169b1, H⟩ := H
    replace H := ct_ H; obtain ⟨c170b0, c170b1, H⟩ := H
    replace H := ct_ H; obtain ⟨c171b0, c171b1, H⟩ := H
    replace H := ct_ H; obtain ⟨c172b0, c172b1, H⟩ := H
    replace H := ct_ H; obtain ⟨c173b0, c173b1, H⟩ := H
    replace H := ct_ H; obtain ⟨c174b0, c174b1, H⟩ := H
    replace H := ct_ H; obtain ⟨c175b0, c175b1, H⟩ := H
    replace H := ct_ H; obtain ⟨c176b0, c176b1, H⟩ := H
    replace H := ct_ H; obtain ⟨c177b0, c177b1, H⟩ := H
    have H0_ := bo_ H; clear H; obtain ⟨⟨t926, t927, t928, t929, t930, t931, t932, t933⟩, A178, H⟩ := H0_
    try dsimp only at H
    have H0_ := bo_ H; clear H; obtain ⟨⟨t936, t937, t938, t939, t940, t941, t942, t943, t946, t947⟩, A179, H⟩ := H0_
    try dsimp only at H
    have H0_ := bo_ H; clear H; obtain ⟨⟨t949, t950, t951, t952, t953, t954, t955, t956⟩, A180, H⟩ := H0_
    try dsimp only at H
    obtain ⟨y959, hy959⟩ : ∃ y_ : List (S31), y_ = (List.replicate 101 z31) := ⟨_, rfl⟩
    replace H : ((lease_Run.f k1 t949 t950 t951 t952 t953 t954 t955 t956 y959).bind fun bt962 => ((spigotlaw42_given.f).bind fun bt977 => ((lease_Run.f k1 bt977.1 bt977.2.1 bt977.2.2.1 bt977.2.2.2.1 bt977.2.2.2.2.1 bt977.2.2.2.2.2.1 bt977.2.2.2.2.2.2.1 bt977.2.2.2.2.2.2.2 (([(⟨1, 0, 0, 0⟩ : S31), (⟨1, 7, 0, 0⟩ : S31), (⟨0, 0, 0, 0⟩ : S31)] : List (S31)))).bind fun bt990 => ((spigotlaw42_given.f).bind fun bt1005 => ((lease_Run.f k1 bt1005.1 bt1005.2.1 bt1005.2.2.1 bt1005.2.2.2.1 bt1005.2.2.2.2.1 bt1005.2.2.2.2.2.1 bt1005.2.2.2.2.2.2.1 bt1005.2.2.2.2.2.2.2 ([] : List (S31))).bind fun bt1015 => ((lease_Spent.f k1 (List.replicate 101 z31) ([] : List Int)).bind fun bt1033 => ((lease_Spent.f k1 (([(⟨0, 0, 0, 0⟩ : S31)] : List (S31))) ([] : List Int)).bind fun bt1038 => ((lease_Spent.f k1 (([(⟨2, 0, 0, 3⟩ : S31)] : List (S31))) (([2] : List Int))).bind fun bt1046 => ((lease_Spent.f k1 (([(⟨2, 0, 0, 3⟩ : S31), (⟨1, 9, 0, 0⟩ : S31), (⟨2, 0, 0, 4⟩ : S31), (⟨2, 0, 0, 5⟩ : S31)] : List (S31))) (([3, 77, (-1), 5] : List Int))).bind fun bt1054 => (if t947 = 2 then (if bt962.2.2.2.2.2.2.2.2.2 = 4 then (if bt990.2.2.2.2.2.2.2.2.2 = 2 then (if bt1015.2.2.2.2.2.2.2.2.2 = 0 then (if (bt1015.2.2.2.2.2.2.2.2.1.length : Int) = 0 then ((spigotlaw42_given.f).bind fun bt1056 => ((spigotref42_Same.f k1 bt1015.1 bt1015.2.1 bt1015.2.2.1 bt1015.2.2.2.1 bt1015.2.2.2.2.1 bt1015.2.2.2.2.2.1 bt1015.2.2.2.2.2.2.1 bt1015.2.2.2.2.2.2.2.1 bt1056.1 bt1056.2.1 bt1056.2.2.1 bt1056.2.2.2.1 bt1056.2.2.2.2.1 bt1056.2.2.2.2.2.1 bt1056.2.2.2.2.2.2.1 bt1056.2.2.2.2.2.2.2).bind fun t1066 => (if t1066 = true then (if bt1033.2 = 4 then (if bt1038.2 = 2 then (if bt1046.2 = 8 then (if bt1054.2 = 0 then (if (t790 == 0) = true then (if (rd t886 1) = 999999999999 then (if t924 = 2 then (if bt1054.1 = 8 then ((spigotlaw42_alive.f k1).bind fun t1067 => (some t1067)) else (none)) else (none)) else (none)) else (none)) else (none)) else (none)) else (none)) else (none)) else (none)))) else (none)) else (none)) else (none)) else (none)) else (none))))))))))) = some r := by first | (rw [hy959]; with_reducible exact H) | (have H2_ := (Option.bind_some _ _).symm.trans H; rw [hy959]; with_reducible exact H2_) | (have H2_ := (Option.bind_some _ _).symm.trans H; with_reducible exact H2_) | with_reducible exact H | (rw [hy959]; exact H) | exact H
    have Ny959 := Aside0.mk hy959
    clear hy959
    have H0_ := bo_ H; clear H; obtain ⟨⟨t962, t963, t964, t965, t966, t967, t968, t969, t972, t975⟩, A181, H⟩ := H0_
    try dsimp only at H
    have H0_ := bo_ H; clear H; obtain ⟨⟨t977, t978, t979, t980, t981, t982, t983, t984⟩, A182, H⟩ := H0_
    try dsimp only at H
    obtain ⟨y987, hy987⟩ : ∃ y_ : List (S31), y_ = (([(⟨1, 0, 0, 0⟩ : S31), (⟨1, 7, 0, 0⟩ : S31), (⟨0, 0, 0, 0⟩ : S31)] : List (S31))) := ⟨_, rfl⟩
    replace H : ((lease_Run.f k1 t977 t978 t979 t980 t981 t982 t983 t984 y987).bind fun bt990 => ((spigotlaw42_given.f).bind fun bt1005 => ((lease_Run.f k1 bt1005.1 bt1005.2.1 bt1005.2.2.1 bt1005.2.2.2.1 bt1005.2.2.2.2.1 bt1005.2.2.2.2.2.1 bt1005.2.2.2.2.2.2.1 bt1005.2.2.2.2.2.2.2 ([] : List (S31))).bind fun bt1015 => ((lease_Spent.f k1 (List.replicate 101 z31) ([] : List Int)).bind fun bt1033 => ((lease_Spent.f k1 (([(⟨0, 0, 0, 0⟩ : S31)] : List (S31))) ([] : List Int)).bind fun bt1038 => ((lease_Spent.f k1 (([(⟨2, 0, 0, 3⟩ : S31)] : List (S31))) (([2] : List Int))).bind fun bt1046 => ((lease_Spent.f k1 (([(⟨2, 0, 0, 3⟩ : S31), (⟨1, 9, 0, 0⟩ : S31), (⟨2, 0, 0, 4⟩ : S31), (⟨2, 0, 0, 5⟩ : S31)] : List (S31))) (([3, 77, (-1), 5] : List Int))).bind fun bt1054 => (if t947 = 2 then (if t975 = 4 then (if bt990.2.2.2.2.2.2.2.2.2 = 2 then (if bt1015.2.2.2.2.2.2.2.2.2 = 0 then (if (bt1015.2.2.2.2.2.2.2.2.1.length : Int) = 0 then ((spigotlaw42_given.f).bind fun bt1056 => ((spigotref42_Same.f k1 bt1015.1 bt1015.2.1 bt1015.2.2.1 bt1015.2.2.2.1 bt1015.2.2.2.2.1 bt1015.2.2.2.2.2.1 bt1015.2.2.2.2.2.2.1 bt1015.2.2.2.2.2.2.2.1 bt1056.1 bt1056.2.1 bt1056.2.2.1 bt1056.2.2.2.1 bt1056.2.2.2.2.1 bt1056.2.2.2.2.2.1 bt1056.2.2.2.2.2.2.1 bt1056.2.2.2.2.2.2.2).bind fun t1066 => (if t1066 = true then (if bt1033.2 = 4 then (if bt1038.2 = 2 then (if bt1046.2 = 8 then (if bt1054.2 = 0 then (if (t790 == 0) = true then (if (rd t886 1) = 999999999999 then (if t924 = 2 then (if bt1054.1 = 8 then ((spigotlaw42_alive.f k1).bind fun t1067 => (some t1067)) else (none)) else (none)) else (none)) else (none)) else (none)) else (none)) else (none)) else (none)) else (none)))) else (none)) else (none)) else (none)) else (none)) else (none))))))))) = some r := by first | (rw [hy987]; with_reducible exact H) | (have H2_ := (Option.bind_some _ _).symm.trans H; rw [hy987]; with_reducible exact H2_) | (have H2_ := (Option.bind_some _ _).symm.trans H; with_reducible exact H2_) | with_reducible exact H | (rw [hy987]; exact H) | exact H
    have Ny987 := Aside0.mk hy987
    clear hy987
    have H0_ := bo_ H; clear H; obtain ⟨⟨t990, t991, t992, t993, t994, t995, t996, t997, t1000, t1003⟩, A183, H⟩ := H0_
    try dsimp only at H
    have H0_ := bo_ H; clear H; obtain ⟨⟨t1005, t1006, t1007, t1008, t1009, t1010, t1011, t1012⟩, A184, H⟩ := H0_
    try dsimp only at H
    have H0_ := bo_ H; clear H; obtain ⟨⟨t1015, t1016, t1017, t1018, t1019, t1020, t1021, t1022, t1025, t1028⟩, A185, H⟩ := H0_
    try dsimp only at H
    obtain ⟨y1030, hy1030⟩ : ∃ y_ : List (S31), y_ = (List.replicate 101 z31) := ⟨_, rfl⟩
    replace H : ((lease_Spent.f k1 y1030 ([] : List Int)).bind fun bt1033 => ((lease_Spent.f k1 (([(⟨0, 0, 0, 0⟩ : S31)] : List (S31))) ([] : List Int)).bind fun bt1038 => ((lease_Spent.f k1 (([(⟨2, 0, 0, 3⟩ : S31)] : List (S31))) (([2] : List Int))).bind fun bt1046 => ((lease_Spent.f k1 (([(⟨2, 0, 0, 3⟩ : S31), (⟨1, 9, 0, 0⟩ : S31), (⟨2, 0, 0, 4⟩ : S31), (⟨2, 0, 0, 5⟩ : S31)] : List (S31))) (([3, 77, (-1), 5] : List Int))).bind fun bt1054 => (if t947 = 2 then (if t975 = 4 then (if t1003 = 2 then (if t1028 = 0 then (if (t1025.length : Int) = 0 then ((spigotlaw42_given.f).bind fun bt1056 => ((spigotref42_Same.f k1 t1015 t1016 t1017 t1018 t1019 t1020 t1021 t1022 bt1056.1 bt1056.2.1 bt1056.2.2.1 bt1056.2.2.2.1 bt1056.2.2.2.2.1 bt1056.2.2.2.2.2.1 bt1056.2.2.2.2.2.2.1 bt1056.2.2.2.2.2.2.2).bind fun t1066 => (if t1066 = true then (if bt1033.2 = 4 then (if bt1038.2 = 2 then (if bt1046.2 = 8 then (if bt1054.2 = 0 then (if (t790 == 0) = true then (if (rd t886 1) = 999999999999 then (if t924 = 2 then (if bt1054.1 = 8 then ((spigotlaw42_alive.f k1).bind fun t1067 => (some t1067)) else (none)) else (none)) else (none)) else (none)) else (none)) else (none)) else (none)) else (none)) else (none)))) else (none)) else (none)) else (none)) else (none)) else (none)))))) = some r := by first | (rw [hy1030]; with_reducible exact H) | (have H2_ := (Option.bind_some _ _).symm.trans H; rw [hy1030]; with_reducible exact H2_) | (have H2_ := (Option.bind_some _ _).symm.trans H; with_reducible exact H2_) | with_reducible exact H | (rw [hy1030]; exact H) | exact H
    have Ny1030 := Aside0.mk hy1030
    clear hy1030
    have H0_ := bo_ H; clear H; obtain ⟨⟨t1033, t1034⟩, A186, H⟩ := H0_
    try dsimp only at H
    obtain ⟨y1035, hy1035⟩ : ∃ y_ : List (S31), y_ = (([(⟨0, 0, 0, 0⟩ : S31)] : List (S31))) := ⟨_, rfl⟩
    replace H : ((lease_Spent.f k1 y1035 ([] : List Int)).bind fun bt1038 => ((lease_Spent.f k1 (([(⟨2, 0, 0, 3⟩ : S31)] : List (S31))) (([2] : List Int))).bind fun bt1046 => ((lease_Spent.f k1 (([(⟨2, 0, 0, 3⟩ : S31), (⟨1, 9, 0, 0⟩ : S31), (⟨2, 0, 0, 4⟩ : S31), (⟨2, 0, 0, 5⟩ : S31)] : List (S31))) (([3, 77, (-1), 5] : List Int))).bind fun bt1054 => (if t947 = 2 then (if t975 = 4 then (if t1003 = 2 then (if t1028 = 0 then (if (t1025.length : Int) = 0 then ((spigotlaw42_given.f).bind fun bt1056 => ((spigotref42_Same.f k1 t1015 t1016 t1017 t1018 t1019 t1020 t1021 t1022 bt1056.1 bt1056.2.1 bt1056.2.2.1 bt1056.2.2.2.1 bt1056.2.2.2.2.1 bt1056.2.2.2.2.2.1 bt1056.2.2.2.2.2.2.1 bt1056.2.2.2.2.2.2.2).bind fun t1066 => (if t1066 = true then (if t1034 = 4 then (if bt1038.2 = 2 then (if bt1046.2 = 8 then (if bt1054.2 = 0 then (if (t790 == 0) = true then (if (rd t886 1) = 999999999999 then (if t924 = 2 then (if bt1054.1 = 8 then ((spigotlaw42_alive.f k1).bind fun t1067 => (some t1067)) else (none)) else (none)) else (none)) else (none)) else (none)) else (none)) else (none)) else (none)) else (none)))) else (none)) else (none)) else (none)) else (none)) else (none))))) = some r := by first | (rw [hy1035]; with_reducible exact H) | (have H2_ := (Option.bind_some _ _).symm.trans H; rw [hy1035]; with_reducible exact H2_) | (have H2_ := (Option.bind_some _ _).symm.trans H; with_reducible exact H2_) | with_reducible exact H | (rw [hy1035]; exact H) | exact H
    have Ny1035 := Aside0.mk hy1035
    clear hy1035
    have H0_ := bo_ H; clear H; obtain ⟨⟨t1038, t1039⟩, A187, H⟩ := H0_
    try dsimp only at H
    obtain ⟨y1040, hy1040⟩ : ∃ y_ : List (S31), y_ = (([(⟨2, 0, 0, 3⟩ : S31)] : List (S31))) := ⟨_, rfl⟩
    replace H : ((lease_Spent.f k1 y1040 (([2] : List Int))).bind fun bt1046 => ((lease_Spent.f k1 (([(⟨2, 0, 0, 3⟩ : S31), (⟨1, 9, 0, 0⟩ : S31), (⟨2, 0, 0, 4⟩ : S31), (⟨2, 0, 0, 5⟩ : S31)] : List (S31))) (([3, 77, (-1), 5] : List Int))).bind fun bt1054 => (if t947 = 2 then (if t975 = 4 then (if t1003 = 2 then (if t1028 = 0 then (if (t1025.length : Int) = 0 then ((spigotlaw42_given.f).bind fun bt1056 => ((spigotref42_Same.f k1 t1015 t1016 t1017 t1018 t1019 t1020 t1021 t1022 bt1056.1 bt1056.2.1 bt1056.2.2.1 bt1056.2.2.2.1 bt1056.2.2.2.2.1 bt1056.2.2.2.2.2.1 bt1056.2.2.2.2.2.2.1 bt1056.2.2.2.2.2.2.2).bind fun t1066 => (if t1066 = true then (if t1034 = 4 then (if t1039 = 2 then (if bt1046.2 = 8 then (if bt1054.2 = 0 then (if (t790 == 0) = true then (if (rd t886 1) = 999999999999 then (if t924 = 2 then (if bt1054.1 = 8 then ((spigotlaw42_alive.f k1).bind fun t1067 => (some t1067)) else (none)) else (none)) else (none)) else (none)) else (none)) else (none)) else (none)) else (none)) else (none)))) else (none)) else (none)) else (none)) else (none)) else (none)))) = some r := by first | (rw [hy1040]; with_reducible exact H) | (have H2_ := (Option.bind_some _ _).symm.trans H; rw [hy1040]; with_reducible exact H2_) | (have H2_ := (Option.bind_some _ _).symm.trans H; with_reducible exact H2_) | with_reducible exact H | (rw [hy1040]; exact H) | exact H
    have Ny1040 := Aside0.mk hy1040
    clear hy1040
    obtain ⟨y1043, hy1043⟩ : ∃ y_ : List Int, y_ = (([2] : List Int)) := ⟨_, rfl⟩
    replace H : ((lease_Spent.f k1 y1040 y1043).bind fun bt1046 => ((lease_Spent.f k1 (([(⟨2, 0, 0, 3⟩ : S31), (⟨1, 9, 0, 0⟩ : S31), (⟨2, 0, 0, 4⟩ : S31), (⟨2, 0, 0, 5⟩ : S31)] : List (S31))) (([3, 77, (-1), 5] : List Int))).bind fun bt1054 => (if t947 = 2 then (if t975 = 4 then (if t1003 = 2 then (if t1028 = 0 then (if (t1025.length : Int) = 0 then ((spigotlaw42_given.f).bind fun bt1056 => ((spigotref42_Same.f k1 t1015 t1016 t1017 t1018 t1019 t1020 t1021 t1022 bt1056.1 bt1056.2.1 bt1056.2.2.1 bt1056.2.2.2.1 bt1056.2.2.2.2.1 bt1056.2.2.2.2.2.1 bt1056.2.2.2.2.2.2.1 bt1056.2.2.2.2.2.2.2).bind fun t1066 => (if t1066 = true then (if t1034 = 4 then (if t1039 = 2 then (if bt1046.2 = 8 then (if bt1054.2 = 0 then (if (t790 == 0) = true then (if (rd t886 1) = 999999999999 then (if t924 = 2 then (if bt1054.1 = 8 then ((spigotlaw42_alive.f k1).bind fun t1067 => (some t1067)) else (none)) else (none)) else (none)) else (none)) else (none)) else (none)) else (none)) else (none)) else (none)))) else (none)) else (none)) else (none)) else (none)) else (none)))) = some r := by first | (rw [hy1043]; with_reducible exact H) | (have H2_ := (Option.bind_some _ _).symm.trans H; rw [hy1043]; with_reducible exact H2_) | (have H2_ := (Option.bind_some _ _).symm.trans H; with_reducible exact H2_) | with_reducible exact H | (rw [hy1043]; exact H) | exact H
    have Ny1043 := Aside0.mk hy1043
    clear hy1043
    have H0_ := bo_ H; clear H; obtain ⟨⟨t1046, t1047⟩, A188, H⟩ := H0_
    try dsimp only at H
    obtain ⟨y1048, hy1048⟩ : ∃ y_ : List (S31), y_ = (([(⟨2, 0, 0, 3⟩ : S31), (⟨1, 9, 0, 0⟩ : S31), (⟨2, 0, 0, 4⟩ : S31), (⟨2, 0, 0, 5⟩ : S31)] : List (S31))) := ⟨_, rfl⟩
    replace H : ((lease_Spent.f k1 y1048 (([3, 77, (-1), 5] : List Int))).bind fun bt1054 => (if t947 = 2 then (if t975 = 4 then (if t1003 = 2 then (if t1028 = 0 then (if (t1025.length : Int) = 0 then ((spigotlaw42_given.f).bind fun bt1056 => ((spigotref42_Same.f k1 t1015 t1016 t1017 t1018 t1019 t1020 t1021 t1022 bt1056.1 bt1056.2.1 bt1056.2.2.1 bt1056.2.2.2.1 bt1056.2.2.2.2.1 bt1056.2.2.2.2.2.1 bt1056.2.2.2.2.2.2.1 bt1056.2.2.2.2.2.2.2).bind fun t1066 => (if t1066 = true then (if t1034 = 4 then (if t1039 = 2 then (if t1047 = 8 then (if bt1054.2 = 0 then (if (t790 == 0) = true then (if (rd t886 1) = 999999999999 then (if t924 = 2 then (if bt1054.1 = 8 then ((spigotlaw42_alive.f k1).bind fun t1067 => (some t1067)) else (none)) else (none)) else (none)) else (none)) else (none)) else (none)) else (none)) else (none)) else (none)))) else (none)) else (none)) else (none)) else (none)) else (none))) = some r := by first | (rw [hy1048]; with_reducible exact H) | (have H2_ := (Option.bind_some _ _).symm.trans H; rw [hy1048]; with_reducible exact H2_) | (have H2_ := (Option.bind_some _ _).symm.trans H; with_reducible exact H2_) | with_reducible exact H | (rw [hy1048]; exact H) | exact H
    have Ny1048 := Aside0.mk hy1048
    clear hy1048
    obtain ⟨y1051, hy1051⟩ : ∃ y_ : List Int, y_ = (([3, 77, (-1), 5] : List Int)) := ⟨_, rfl⟩
    replace H : ((lease_Spent.f k1 y1048 y1051).bind fun bt1054 => (if t947 = 2 then (if t975 = 4 then (if t1003 = 2 then (if t1028 = 0 then (if (t1025.length : Int) = 0 then ((spigotlaw42_given.f).bind fun bt1056 => ((spigotref42_Same.f k1 t1015 t1016 t1017 t1018 t1019 t1020 t1021 t1022 bt1056.1 bt1056.2.1 bt1056.2.2.1 bt1056.2.2.2.1 bt1056.2.2.2.2.1 bt1056.2.2.2.2.2.1 bt1056.2.2.2.2.2.2.1 bt1056.2.2.2.2.2.2.2).bind fun t1066 => (if t1066 = true then (if t1034 = 4 then (if t1039 = 2 then (if t1047 = 8 then (if bt1054.2 = 0 then (if (t790 == 0) = true then (if (rd t886 1) = 999999999999 then (if t924 = 2 then (if bt1054.1 = 8 then ((spigotlaw42_alive.f k1).bind fun t1067 => (some t1067)) else (none)) else (none)) else (none)) else (none)) else (none)) else (none)) else (none)) else (none)) else (none)))) else (none)) else (none)) else (none)) else (none)) else (none))) = some r := by first | (rw [hy1051]; with_reducible exact H) | (have H2_ := (Option.bind_some _ _).symm.trans H; rw [hy1051]; with_reducible exact H2_) | (have H2_ := (Option.bind_some _ _).symm.trans H; with_reducible exact H2_) | with_reducible exact H | (rw [hy1051]; exact H) | exact H
    have Ny1051 := Aside0.mk hy1051
    clear hy1051
    have H0_ := bo_ H; clear H; obtain ⟨⟨t1054, t1055⟩, A189, H⟩ := H0_
    try dsimp only at H
    replace H := ct_ H; obtain ⟨c190b0, c190b1, H⟩ := H
    replace H := ct_ H; obtain ⟨c191b0, c191b1, H⟩ := H
    replace H := ct_ H; obtain ⟨c192b0, c192b1, H⟩ := H
    replace H := ct_ H; obtain ⟨c193b0, c193b1, H⟩ := H
    replace H := ct_ H; obtain ⟨c194b0, c194b1, H⟩ := H
    have H0_ := bo_ H; clear H; obtain ⟨⟨t1056, t1057, t1058, t1059, t1060, t1061, t1062, t1063⟩, A195, H⟩ := H0_
    try dsimp only at H
    have H0_ := bo_ H; clear H; obtain ⟨t1066, A196, H⟩ := H0_
    try dsimp only at H
    by_cases c197 : t1066 = true
    ·refine ip_ (p := ?P4) ?q4; refine (
    let rec a4_ : ?P4 := by
     subst c197
     rw [if_pos rfl] at H
     try dsimp only at H
     replace H := ct_ H; obtain ⟨c198b0, c198b1, H⟩ := H
     replace H := ct_ H; obtain ⟨c199b0, c199b1, H⟩ := H
     replace H := ct_ H; obtain ⟨c200b0, c200b1, H⟩ := H
     replace H := ct_ H; obtain ⟨c201b0, c201b1, H⟩ := H
     by_cases c202 : (t790 == 0) = true
     rotate_left
     ·rw [if_neg c202] at H; exact absurd H (by simp)
     rw [if_pos c202] at H
     have c202b0 : (t790 == 0) = true := c202
     (try (have c202b1 : decide (t790 = 0) = true := by simpa using c202))
     (try (have c202b2 : (t790 == 0) = true := by simpa using c202))
     clear c202
     replace H := ct_ H; obtain ⟨c203b0, c203b1, H⟩ := H
     replace H := ct_ H; obtain ⟨c204b0, c204b1, H⟩ := H
     replace H := ct_ H; obtain ⟨c205b0, c205b1, H⟩ := H
     have H0_ := bo_ H; clear H; obtain ⟨t1067, A206, H⟩ := H0_
     replace H : (some t1067) = some r := H
     obtain rfl := Option.some.inj H
     obtain ⟨Ao207, co207, eo207⟩ := Kd.R_slice HO_8.out
     subst eo207
     (try clear HO_8)
     try go_wp2_with (first | ((with_reducible refine gate_callee (f := 28) rfl ?_); (try refine ug_ (by rfl) ?_); refine goesA_ (some 158) Try.func28 #[] ?_; (with_reducible refine (spigotlaw42_given.calls  t827 t828 t829 t830 t831 t832 t833 t834 _ A136.out).mono ?_); rintro e w208 ⟨v835, rfl, ho0, hb⟩; refine ⟨_, rfl, ?_⟩; have HO836 := Aside0.mk (Kd.R_lower ho0 (below_size (hq_ HB))); replace HB := bs_ w hb; clear hb; (try clear ho0)) | ((with_reducible refine gate_dst (N := 15) rfl ?_); (try refine ug_ (by rfl) ?_); refine bx_ #[.int .i64 0, .int .i64 0, .int .i64 0, .int .i64 0, .int .i64 0, .int .u64 0, .int .i64 0, .slice none 0 0] 29 ?_; intro gb837 hg w209 BK837 hb; have GW837 := bz_ w hg; replace HO836 := rb_ HO836 hb; replace HB := bs_ w hb; clear hb hg; replace hc837 := ce8_ BK837; obtain ⟨Ao211, co211, eo211⟩ := Kd.R_slice HO836.out; subst eo211) | ((with_reducible refine gate_store (t := 29) (p := 15) rfl ?_); refine store_event (t := 29) (p := 15) (v := ?vo_w212) (w1 := ((((((((w209.setCell ⟨gb837, 0, none⟩ (.int .i64 t827)).setCell ⟨gb837, 1, none⟩ (.int .i64 t828)).setCell ⟨gb837, 2, none⟩ (.int .i64 t829)).setCell ⟨gb837, 3, none⟩ (.int .i64 t830)).setCell ⟨gb837, 4, none⟩ (.int .i64 t831)).setCell ⟨gb837, 5, none⟩ (.int .u64 t832)).setCell ⟨gb837, 6, none⟩ (.int .i64 t833)).setCell ⟨gb837, 7, none⟩ (.slice Ao211 t834.length co211))) ?hg ?ho ?hn ?hr ?_; (case ho => rfl); (case hg => rfl); (case hn => rfl); (case hr => first | (go_simp; done) | (go_simp; rfl)); intro w212 hw; replace HO836 : Aside0 (Kd.R (Kd.int .i64) 2 w212 w.heap.size (fun _ => True) (.slice Ao211 t834.length co211) t834) := ⟨(by rw [hw]; exact (by (with_reducible repeat (first | apply Kd.R_alloc | apply Kd.R_drewN | apply Kd.R_drew)); exact Kd.R_mono (rf8_ (g := gb837) (Kd.R_types HO836.out BK837.out (by decide)) (fun _ hk => hk.2)) (fun _ hk => trivial)))⟩; replace BK837 : Aside0 (w212.heap[gb837]? = some (.cells #[.int .i64 t827, .int .i64 t828, .int .i64 t829, .int .i64 t830, .int .i64 t831, .int .u64 t832, .int .i64 t833, .slice Ao211 t834.length co211] 29 (0, 0))) := ⟨(by rw [hw]; exact (bp8_ (bq_ BK837)))⟩; replace HB : Aside0 (Below w.heap.size w w212) := ⟨(by rw [hw]; exact bh_)⟩; clear hw; replace hc837 := ce8_ BK837; have p138 : 0 ≤ (0 : Int) := (by omega); have q138 : (0 : Int) < ((t834.length : Int) : Int) := of_decide_eq_true (by first | (with_reducible assumption) | assumption); have qi138 : (0 < t834.length) = True := eq_true (by omega); obtain ⟨go138, co138, eo138, gb138, gl138, cl138, HG138⟩ := Kd.R_form HO836.out (by omega); (first | cases eo138 | (injection eo138 with ea_ en_ ec_; (first | subst ea_ | (injection ea_ with ea_; subst ea_)); subst ec_; clear en_)); have GB138 := Aside0.mk gb138; have GG138 := Aside0.mk HG138; clear gb138 gl138 HG138; obtain ⟨hx138_0, hf138_0⟩ := Kd.R_celln 0 HO836.out (0 : Int) p138 q138; (try rw [show ((0 : Int)).toNat = 0 from rfl] at hx138_0); (try simp only [Nat.reduceMul, Nat.zero_mul, Nat.zero_add, Nat.reduceAdd] at hx138_0); (try rw [show ((0 : Int)).toNat = 0 from rfl] at hf138_0); (try simp only [Nat.reduceMul, Nat.zero_mul, Nat.zero_add, Nat.reduceAdd] at hf138_0); replace p138 := eq_true p138; replace q138 := eq_true q138; obtain ⟨hy214_, hz214_⟩ := Kd.R_celln 0 HO836.out (0 : Int) (by omega) (of_decide_eq_true (by first | (with_reducible assumption) | assumption)); (try simp only [Int.reduceToNat, Int.toNat_zero, Int.toNat_ofNat, Nat.reduceMul, Nat.zero_mul, Nat.zero_add] at hy214_ hz214_); (try rw [show ((0 : Int)).toNat = 0 from rfl] at hy214_); (try rw [show ((0 : Int)).toNat = 0 from rfl] at hz214_); have HP214 := Kd.R_putg HO836.out (0 : Int) 1000000000000) | ((with_reducible refine gate_store (t := 2) (p := 161) rfl ?_); refine store_event (t := 2) (p := 161) (v := ?vo_w215) (w1 := (w212.setCell ⟨go138, (0 : Int).toNat, none⟩ (.int .i64 1000000000000))) ?hg ?ho ?hn ?hr ?_; (case ho => rfl); (case hg => rfl); (case hn => rfl); (case hr => first | (go_simp; done) | (go_simp; rfl)); intro w215 hw; have hg : w212.grownBy w215 (some go138) := (by rw [hw]; exact HP214.2); have hp_ : Kd.R (Kd.int .i64) 2 w215 w.heap.size (fun _ => True) (.slice (some ⟨go138, 0, none⟩) t834.length co211) y838 := (by rw [hw, Ny838.out]; exact HP214.1); clear HP214; replace BK837 := Aside0.mk (blk_grown (g := gb837) (o := .cells #[.int .i64 t827, .int .i64 t828, .int .i64 t829, .int .i64 t830, .int .i64 t831, .int .u64 t832, .int .i64 t833, .slice (some ⟨go138, 0, none⟩) t834.length co211] 29 (0, 0)) (bq_ BK837) hg (Kd.R_ne HO836.out BK837.out (by decide))); replace HO836 := Aside0.mk (hp_); replace HB := Aside0.mk ((by rw [hw]; exact below_set (HB.out) GB138.out : Below w.heap.size w w215)); clear hg hw hp_; replace hc837 := ce8_ BK837; have p140 : 0 ≤ (1 : Int) := (by omega); have q140 : (1 : Int) < ((t834.length : Int) : Int) := of_decide_eq_true (by first | (with_reducible assumption) | assumption); have qi140 : (1 < t834.length) = True := eq_true (by omega); obtain ⟨hx140_0, hf140_0⟩ := Kd.R_celln 0 HO836.out (1 : Int) p140 q140; (try rw [show ((1 : Int)).toNat = 1 from rfl] at hx140_0); (try simp only [Nat.reduceMul, Nat.zero_mul, Nat.zero_add, Nat.reduceAdd] at hx140_0); (try rw [show ((1 : Int)).toNat = 1 from rfl] at hf140_0); (try simp only [Nat.reduceMul, Nat.zero_mul, Nat.zero_add, Nat.reduceAdd] at hf140_0); replace p140 := eq_true p140; replace q140 := eq_true q140; obtain ⟨hy217_, hz217_⟩ := Kd.R_celln 0 HO836.out (1 : Int) (by omega) (of_decide_eq_true (by first | (with_reducible assumption) | assumption)); (try simp only [Int.reduceToNat, Int.toNat_zero, Int.toNat_ofNat, Nat.reduceMul, Nat.zero_mul, Nat.zero_add] at hy217_ hz217_); (try rw [show ((1 : Int)).toNat = 1 from rfl] at hy217_); (try rw [show ((1 : Int)).toNat = 1 from rfl] at hz217_); have HP217 := Kd.R_putg HO836.out (1 : Int) 999999999999) | ((with_reducible refine gate_store (t := 2) (p := 164) rfl ?_); refine store_event (t := 2) (p := 164) (v := ?vo_w218) (w1 := (w215.setCell ⟨go138, (1 : Int).toNat, none⟩ (.int .i64 999999999999))) ?hg ?ho ?hn ?hr ?_; (case ho => rfl); (case hg => rfl); (case hn => rfl); (case hr => first | (go_simp; done) | (go_simp; rfl)); intro w218 hw; have hg : w215.grownBy w218 (some go138) := (by rw [hw]; exact HP217.2); have hp_ : Kd.R (Kd.int .i64) 2 w218 w.heap.size (fun _ => True) (.slice (some ⟨go138, 0, none⟩) t834.length co211) y839 := (by rw [hw, Ny839.out]; exact HP217.1); clear HP217; replace BK837 := Aside0.mk (blk_grown (g := gb837) (o := .cells #[.int .i64 t827, .int .i64 t828, .int .i64 t829, .int .i64 t830, .int .i64 t831, .int .u64 t832, .int .i64 t833, .slice (some ⟨go138, 0, none⟩) t834.length co211] 29 (0, 0)) (bq_ BK837) hg (Kd.R_ne HO836.out BK837.out (by decide))); replace HO836 := Aside0.mk (hp_); replace HB := Aside0.mk ((by rw [hw]; exact below_set (HB.out) GB138.out : Below w.heap.size w w218)); clear hg hw hp_; replace hc837 := ce8_ BK837) | ((with_reducible refine gate_callee (f := 14) rfl ?_); (try refine ug_ (by rfl) ?_); refine goesL_ (some 168) rfl rfl Try.func14 (by kernel_rfl) rfl #[.agg #[.int .i64 t827, .int .i64 t828, .int .i64 t829, .int .i64 t830, .int .i64 t831, .int .u64 t832, .int .i64 t833, .slice (some ⟨go138, 0, none⟩) y839.length co211], .agg #[.int .u8 1, .int .i64 0, .int .u64 0, .int .i64 0]] rfl (by (try simp only [List.map_toArray, List.map_cons, List.map_nil]); first | done | (rw [show y839.length = t834.length from (Kd.R_reads' HO836.out).1.symm] <;> rfl) | rfl | (simp only [List.length_drop, List.length_take]; rfl)) ?_; (with_reducible refine (lease_Step.calls k1 t827 t828 t829 t830 t831 t832 t833 _ _ y839 1 0 0 0 t840 t841 t842 t843 t844 t845 t846 t847 t850 t851 _ ?side1 ?side2 A141.out).mono ?_); (case side1 => exact cr_ HO836); (case side2 => rw [show y839.length = t834.length from (Kd.R_reads' HO836.out).1.symm]; exact (Kd.R_reads' HO836.out).2.1); rintro e w220 ⟨v848, rfl, ho0, hb⟩; refine ⟨_, rfl, ?_⟩; have HO849 := Aside0.mk (Kd.R_lower (Kd.R_new' ho0 (Kd.R_lt (rs_ HO836))) (below_size bh_)); replace HO836 := Aside0.mk (Kd.R_elder' (rs_ HO836) (Kd.R_base ho0) hb); replace BK837 := bb_ BK837 hb; replace HB := bs_ w hb; (try clear hb); (try clear hb2); (try clear hk); (try clear hi); (try clear ho0)) | ((with_reducible refine gate_dst (N := 16) rfl ?_); (try refine ug_ (by rfl) ?_); refine bx_ #[.int .i64 0, .int .i64 0, .int .i64 0, .int .i64 0, .int .i64 0, .int .u64 0, .int .i64 0, .slice none 0 0] 29 ?_; intro gb852 hg w221 BK852 hb; have GW852 := bz_ w hg; have NB837_852 := bn_ BK837 hg; have NB852_837 := bm_ BK837 hg; replace HO836 := rb_ HO836 hb; replace HO849 := rb_ HO849 hb; replace BK837 := bb_ BK837 hb; replace HB := bs_ w hb; clear hb hg; replace hn852_837 := NB852_837.out; replace hn837_852 := NB837_852.out; replace hc852 := ce8_ BK852; obtain ⟨Ao224, co224, eo224⟩ := Kd.R_slice HO849.out; subst eo224; replace hc837 := ce8_ BK837) | ((with_reducible refine gate_callee (f := 14) rfl ?_); (try refine ug_ (by rfl) ?_); refine goesL_ (some 175) rfl rfl Try.func14 (by kernel_rfl) rfl #[.agg #[.int .i64 t827, .int .i64 t828, .int .i64 t829, .int .i64 t830, .int .i64 t831, .int .u64 t832, .int .i64 t833, .slice (some ⟨go138, 0, none⟩) y839.length co211], .agg #[.int .u8 1, .int .i64 1, .int .u64 0, .int .i64 0]] rfl (by (try simp only [List.map_toArray, List.map_cons, List.map_nil]); first | done | (rw [show y839.length = t834.length from (Kd.R_reads' HO836.out).1.symm] <;> rfl) | rfl | (simp only [List.length_drop, List.length_take]; rfl)) ?_; (with_reducible refine (lease_Step.calls k1 t827 t828 t829 t830 t831 t832 t833 _ _ y839 1 1 0 0 t853 t854 t855 t856 t857 t858 t859 t860 t863 t864 _ ?side1 ?side2 A142.out).mono ?_); (case side1 => refine (Kd.R_reads' (e := 2) (base := w.heap.size) (ok := fun k_ => (True ∧ some k_ ≠ (.slice Ao224 t847.length co224 : Value).ownBlock)) (n := t834.length) (c := co211) ?_).2.2; exact (by (with_reducible repeat (first | apply Kd.R_alloc | apply Kd.R_drewN | apply Kd.R_drew)); exact (Kd.R_mono (rf8_ (g := gb852) (Kd.R_types HO836.out BK852.out (by decide)) (fun _ hk => hk.2)) (fun _ h_ => h_.1)))); (case side2 => rw [show y839.length = t834.length from (Kd.R_reads' HO836.out).1.symm]; exact (Kd.R_reads' HO836.out).2.1); rintro e w226 ⟨v861, rfl, ho0, hb⟩; refine ⟨_, rfl, ?_⟩; have HO862 := Aside0.mk (Kd.R_lower (Kd.R_new' (Kd.R_new' ho0 (Kd.R_lt (by (with_reducible repeat (first | apply Kd.R_alloc | apply Kd.R_drewN | apply Kd.R_drew)); exact (Kd.R_mono (rf8_ (g := gb852) (Kd.R_types HO836.out BK852.out (by decide)) (fun _ hk => hk.2)) (fun _ h_ => h_.1))))) (Kd.R_lt (by (with_reducible repeat (first | apply Kd.R_alloc | apply Kd.R_drewN | apply Kd.R_drew)); exact (Kd.R_mono (rf8_ (g := gb852) (Kd.R_types HO849.out BK852.out (by decide)) (fun _ hk => hk.2)) (fun _ h_ => h_.1))))) (below_size bh_)); replace HO836 := Aside0.mk (Kd.R_elder' (by (with_reducible repeat (first | apply Kd.R_alloc | apply Kd.R_drewN | apply Kd.R_drew)); exact (Kd.R_mono (rf8_ (g := gb852) (Kd.R_types HO836.out BK852.out (by decide)) (fun _ hk => hk.2)) (fun _ h_ => h_.1))) (Kd.R_base ho0) hb); replace HO849 := Aside0.mk (Kd.R_elder' (by (with_reducible repeat (first | apply Kd.R_alloc | apply Kd.R_drewN | apply Kd.R_drew)); exact (Kd.R_mono (rf8_ (g := gb852) (Kd.R_types HO849.out BK852.out (by decide)) (fun _ hk => hk.2)) (fun _ h_ => h_.1))) (Kd.R_base ho0) hb); replace BK837 := bf_ BK837 hb; replace BK852 := Aside0.mk (blk_below (g := gb852) (o := .cells #[.int .i64 t840, .int .i64 t841, .int .i64 t842, .int .i64 t843, .int .i64 t844, .int .u64 t845, .int .i64 t846, .slice Ao224 t847.length co224] 29 (0, 0)) (bp8_ (bq_ BK852)) hb); replace HB := bs_ w hb; (try clear hb); (try clear hb2); (try clear hk); (try clear hi); (try clear ho0); have n_ := Aside0.mk (Kd.R_mono (ok' := (fun k_ => some k_ ≠ (v861 : Value).ownBlock)) HO836.out (fun k_ hk => hk.2)); clear HO836; have HO836 := n_; clear n_; have n_ := Aside0.mk (Kd.R_mono (ok' := (fun k_ => some k_ ≠ (.slice (some ⟨go138, 0, none⟩) t834.length co211 : Value).ownBlock)) HO862.out (fun k_ hk => hk.1.2)); clear HO862; have HO862 := n_; clear n_; (try clear HO849)) | ((with_reducible refine gate_dst (N := 19) rfl ?_); (try refine ug_ (by rfl) ?_); refine bx_ #[.int .i64 0, .int .i64 0, .int .i64 0, .int .i64 0, .int .i64 0, .int .u64 0, .int .i64 0, .slice none 0 0] 29 ?_; intro gb865 hg w227 BK865 hb; have GW865 := bz_ w hg; have NB837_865 := bn_ BK837 hg; have NB865_837 := bm_ BK837 hg; have NB852_865 := bn_ BK852 hg; have NB865_852 := bm_ BK852 hg; replace HO836 := rb_ HO836 hb; replace HO862 := rb_ HO862 hb; replace BK837 := bb_ BK837 hb; replace BK852 := bb_ BK852 hb; replace HB := bs_ w hb; clear hb hg; replace hn865_837 := NB865_837.out; replace hn837_865 := NB837_865.out; replace hn865_852 := NB865_852.out; replace hn852_865 := NB852_865.out; replace hc865 := ce8_ BK865; obtain ⟨Ao231, co231, eo231⟩ := Kd.R_slice HO862.out; subst eo231; replace hc837 := ce8_ BK837) | ((with_reducible refine gate_callee (f := 14) rfl ?_); (try refine ug_ (by rfl) ?_); refine goesL_ (some 182) rfl rfl Try.func14 (by kernel_rfl) rfl #[.agg #[.int .i64 t827, .int .i64 t828, .int .i64 t829, .int .i64 t830, .int .i64 t831, .int .u64 t832, .int .i64 t833, .slice (some ⟨go138, 0, none⟩) y839.length co211], .agg #[.int .u8 3, .int .i64 0, .int .u64 99, .int .i64 0]] rfl (by (try simp only [List.map_toArray, List.map_cons, List.map_nil]); first | done | (rw [show y839.length = t834.length from (Kd.R_reads' HO836.out).1.symm] <;> rfl) | rfl | (simp only [List.length_drop, List.length_take]; rfl)) ?_; (with_reducible refine (lease_Step.calls k1 t827 t828 t829 t830 t831 t832 t833 _ _ y839 3 0 99 0 t866 t867 t868 t869 t870 t871 t872 t873 t876 t877 _ ?side1 ?side2 A143.out).mono ?_); (case side1 => refine (Kd.R_reads' (e := 2) (base := w.heap.size) (ok := fun k_ => some k_ ≠ (.slice Ao231 t860.length co231 : Value).ownBlock) (n := t834.length) (c := co211) ?_).2.2; exact (by (with_reducible repeat (first | apply Kd.R_alloc | apply Kd.R_drewN | apply Kd.R_drew)); exact (Kd.R_mono (rf8_ (g := gb865) (Kd.R_types HO836.out BK865.out (by decide)) (fun _ hk => hk.2)) (fun _ h_ => h_.1)))); (case side2 => rw [show y839.length = t834.length from (Kd.R_reads' HO836.out).1.symm]; exact (Kd.R_reads' HO836.out).2.1); rintro e w233 ⟨v874, rfl, ho0, hb⟩; refine ⟨_, rfl, ?_⟩; have HO875 := Aside0.mk (Kd.R_lower (Kd.R_new' (Kd.R_new' ho0 (Kd.R_lt (by (with_reducible repeat (first | apply Kd.R_alloc | apply Kd.R_drewN | apply Kd.R_drew)); exact (Kd.R_mono (rf8_ (g := gb865) (Kd.R_types HO836.out BK865.out (by decide)) (fun _ hk => hk.2)) (fun _ h_ => h_.1))))) (Kd.R_lt (by (with_reducible repeat (first | apply Kd.R_alloc | apply Kd.R_drewN | apply Kd.R_drew)); exact (Kd.R_mono (rf8_ (g := gb865) (Kd.R_types HO862.out BK865.out (by decide)) (fun _ hk => hk.2)) (fun _ h_ => h_.1))))) (below_size bh_)); replace HO836 := Aside0.mk (Kd.R_elder' (by (with_reducible repeat (first | apply Kd.R_alloc | apply Kd.R_drewN | apply Kd.R_drew)); exact (Kd.R_mono (rf8_ (g := gb865) (Kd.R_types HO836.out BK865.out (by decide)) (fun _ hk => hk.2)) (fun _ h_ => h_.1))) (Kd.R_base ho0) hb); replace HO862 := Aside0.mk (Kd.R_elder' (by (with_reducible repeat (first | apply Kd.R_alloc | apply Kd.R_drewN | apply Kd.R_drew)); exact (Kd.R_mono (rf8_ (g := gb865) (Kd.R_types HO862.out BK865.out (by decide)) (fun _ hk => hk.2)) (fun _ h_ => h_.1))) (Kd.R_base ho0) hb); replace BK837 := bf_ BK837 hb; replace BK852 := bf_ BK852 hb; replace BK865 := Aside0.mk (blk_below (g := gb865) (o := .cells #[.int .i64 t853, .int .i64 t854, .int .i64 t855, .int .i64 t856, .int .i64 t857, .int .u64 t858, .int .i64 t859, .slice Ao231 t860.length co231] 29 (0, 0)) (bp8_ (bq_ BK865)) hb); replace HB := bs_ w hb; (try clear hb); (try clear hb2); (try clear hk); (try clear hi); (try clear ho0); have n_ := Aside0.mk (Kd.R_mono (ok' := (fun k_ => some k_ ≠ (v874 : Value).ownBlock)) HO836.out (fun k_ hk => hk.2)); clear HO836; have HO836 := n_; clear n_; have n_ := Aside0.mk (Kd.R_mono (ok' := (fun k_ => some k_ ≠ (.slice (some ⟨go138, 0, none⟩) t834.length co211 : Value).ownBlock)) HO875.out (fun k_ hk => hk.1.2)); clear HO875; have HO875 := n_; clear n_; (try clear HO862)) | ((with_reducible refine gate_dst (N := 22) rfl ?_); (try refine ug_ (by rfl) ?_); refine bx_ #[.int .i64 0, .int .i64 0, .int .i64 0, .int .i64 0, .int .i64 0, .int .u64 0, .int .i64 0, .slice none 0 0] 29 ?_; intro gb878 hg w234 BK878 hb; have GW878 := bz_ w hg; have NB837_878 := bn_ BK837 hg; have NB878_837 := bm_ BK837 hg; have NB852_878 := bn_ BK852 hg; have NB878_852 := bm_ BK852 hg; have NB865_878 := bn_ BK865 hg; have NB878_865 := bm_ BK865 hg; replace HO836 := rb_ HO836 hb; replace HO875 := rb_ HO875 hb; replace BK837 := bb_ BK837 hb; replace BK852 := bb_ BK852 hb; replace BK865 := bb_ BK865 hb; replace HB := bs_ w hb; clear hb hg; replace hn878_837 := NB878_837.out; replace hn837_878 := NB837_878.out; replace hn878_852 := NB878_852.out; replace hn852_878 := NB852_878.out; replace hn878_865 := NB878_865.out; replace hn865_878 := NB865_878.out; replace hc878 := ce8_ BK878; obtain ⟨Ao239, co239, eo239⟩ := Kd.R_slice HO875.out; subst eo239; replace hc837 := ce8_ BK837) | ((with_reducible refine gate_callee (f := 14) rfl ?_); (try refine ug_ (by rfl) ?_); refine goesL_ (some 189) rfl rfl Try.func14 (by kernel_rfl) rfl #[.agg #[.int .i64 t827, .int .i64 t828, .int .i64 t829, .int .i64 t830, .int .i64 t831, .int .u64 t832, .int .i64 t833, .slice (some ⟨go138, 0, none⟩) y839.length co211], .agg #[.int .u8 4, .int .i64 0, .int .u64 0, .int .i64 0]] rfl (by (try simp only [List.map_toArray, List.map_cons, List.map_nil]); first | done | (rw [show y839.length = t834.length from (Kd.R_reads' HO836.out).1.symm] <;> rfl) | rfl | (simp only [List.length_drop, List.length_take]; rfl)) ?_; (with_reducible refine (lease_Step.calls k1 t827 t828 t829 t830 t831 t832 t833 _ _ y839 4 0 0 0 t879 t880 t881 t882 t883 t884 t885 t886 t889 t890 _ ?side1 ?side2 A144.out).mono ?_); (case side1 => refine (Kd.R_reads' (e := 2) (base := w.heap.size) (ok := fun k_ => some k_ ≠ (.slice Ao239 t873.length co239 : Value).ownBlock) (n := t834.length) (c := co211) ?_).2.2; exact (by (with_reducible repeat (first | apply Kd.R_alloc | apply Kd.R_drewN | apply Kd.R_drew)); exact (Kd.R_mono (rf8_ (g := gb878) (Kd.R_types HO836.out BK878.out (by decide)) (fun _ hk => hk.2)) (fun _ h_ => h_.1)))); (case side2 => rw [show y839.length = t834.length from (Kd.R_reads' HO836.out).1.symm]; exact (Kd.R_reads' HO836.out).2.1); rintro e w241 ⟨v887, rfl, ho0, hb⟩; refine ⟨_, rfl, ?_⟩; have HO888 := Aside0.mk (Kd.R_lower (Kd.R_new' (Kd.R_new' ho0 (Kd.R_lt (by (with_reducible repeat (first | apply Kd.R_alloc | apply Kd.R_drewN | apply Kd.R_drew)); exact (Kd.R_mono (rf8_ (g := gb878) (Kd.R_types HO836.out BK878.out (by decide)) (fun _ hk => hk.2)) (fun _ h_ => h_.1))))) (Kd.R_lt (by (with_reducible repeat (first | apply Kd.R_alloc | apply Kd.R_drewN | apply Kd.R_drew)); exact (Kd.R_mono (rf8_ (g := gb878) (Kd.R_types HO875.out BK878.out (by decide)) (fun _ hk => hk.2)) (fun _ h_ => h_.1))))) (below_size bh_)); replace HO836 := Aside0.mk (Kd.R_elder' (by (with_reducible repeat (first | apply Kd.R_alloc | apply Kd.R_drewN | apply Kd.R_drew)); exact (Kd.R_mono (rf8_ (g := gb878) (Kd.R_types HO836.out BK878.out (by decide)) (fun _ hk => hk.2)) (fun _ h_ => h_.1))) (Kd.R_base ho0) hb); replace HO875 := Aside0.mk (Kd.R_elder' (by (with_reducible repeat (first | apply Kd.R_alloc | apply Kd.R_drewN | apply Kd.R_drew)); exact (Kd.R_mono (rf8_ (g := gb878) (Kd.R_types HO875.out BK878.out (by decide)) (fun _ hk => hk.2)) (fun _ h_ => h_.1))) (Kd.R_base ho0) hb); replace BK837 := bf_ BK837 hb; replace BK852 := bf_ BK852 hb; replace BK865 := bf_ BK865 hb; replace BK878 := Aside0.mk (blk_below (g := gb878) (o := .cells #[.int .i64 t866, .int .i64 t867, .int .i64 t868, .int .i64 t869, .int .i64 t870, .int .u64 t871, .int .i64 t872, .slice Ao239 t873.length co239] 29 (0, 0)) (bp8_ (bq_ BK878)) hb); replace HB := bs_ w hb; (try clear hb); (try clear hb2); (try clear hk); (try clear hi); (try clear ho0); (try clear BK837); have n_ := Aside0.mk (Kd.R_mono (ok' := (fun k_ => some k_ ≠ (v887 : Value).ownBlock)) HO875.out (fun k_ hk => hk.2)); clear HO875; have HO875 := n_; clear n_; have n_ := Aside0.mk (Kd.R_mono (ok' := (fun k_ => some k_ ≠ (.slice Ao239 t873.length co239 : Value).ownBlock)) HO888.out (fun k_ hk => hk.2)); clear HO888; have HO888 := n_; clear n_; (try clear HO836)) | ((with_reducible refine gate_dst (N := 25) rfl ?_); (try refine ug_ (by rfl) ?_); refine bx_ #[.int .i64 0, .int .i64 0, .int .i64 0, .int .i64 0, .int .i64 0, .int .u64 0, .int .i64 0, .slice none 0 0] 29 ?_; intro gb891 hg w242 BK891 hb; have GW891 := bz_ w hg; have NB852_891 := bn_ BK852 hg; have NB891_852 := bm_ BK852 hg; have NB865_891 := bn_ BK865 hg; have NB891_865 := bm_ BK865 hg; have NB878_891 := bn_ BK878 hg; have NB891_878 := bm_ BK878 hg; replace HO875 := rb_ HO875 hb; replace HO888 := rb_ HO888 hb; replace BK852 := bb_ BK852 hb; replace BK865 := bb_ BK865 hb; replace BK878 := bb_ BK878 hb; replace HB := bs_ w hb; clear hb hg; replace hn891_852 := NB891_852.out; replace hn852_891 := NB852_891.out; replace hn891_865 := NB891_865.out; replace hn865_891 := NB865_891.out; replace hn891_878 := NB891_878.out; replace hn878_891 := NB878_891.out; replace hc891 := ce8_ BK891; obtain ⟨Ao247, co247, eo247⟩ := Kd.R_slice HO888.out; subst eo247; replace hc852 := ce8_ BK852; replace hc865 := ce8_ BK865; replace hc878 := ce8_ BK878; have p892 : 0 ≤ (0 : Int) := (by omega); have q892 : 0 < (t873.length : Int) := of_decide_eq_true (by first | (with_reducible assumption) | assumption); obtain ⟨ad892, e892, hx892_0⟩ := Kd.at_int (Kd.R_reads' HO875.out).2.2 0 p892 q892; cases e892; have qi892 : (0 < t873.length) = True := eq_true (by omega); (try rw [show ((0 : Int)).toNat = 0 from rfl] at hx892_0); (try rw [Addr.add_zero'] at hx892_0); have hn892 : ad892.block ≠ gb891 := Kd.own_blk (rn_ HO875.out BK891.out); replace hx892_0 := cx_ gb891 0 (.int .i64 t879) hx892_0; replace hx892_0 := cx_ gb891 1 (.int .i64 t880) hx892_0; replace hx892_0 := cx_ gb891 2 (.int .i64 t881) hx892_0; replace hx892_0 := cx_ gb891 3 (.int .i64 t882) hx892_0; replace hx892_0 := cx_ gb891 4 (.int .i64 t883) hx892_0; replace hx892_0 := cx_ gb891 5 (.int .u64 t884) hx892_0; replace hx892_0 := cx_ gb891 6 (.int .i64 t885) hx892_0; replace hx892_0 := cx_ gb891 7 (.slice Ao247 t886.length co247) hx892_0; clear hn892; replace p892 := eq_true p892; replace q892 := eq_true q892; have p893 : 0 ≤ (0 : Int) := (by omega); have q893 : 0 < (t886.length : Int) := of_decide_eq_true (by first | (with_reducible assumption) | assumption); obtain ⟨ad893, e893, hx893_0⟩ := Kd.at_int (Kd.R_reads' HO888.out).2.2 0 p893 q893; cases e893; have qi893 : (0 < t886.length) = True := eq_true (by omega); (try rw [show ((0 : Int)).toNat = 0 from rfl] at hx893_0); (try rw [Addr.add_zero'] at hx893_0); have hn893 : ad893.block ≠ gb891 := Kd.own_blk (rn_ HO888.out BK891.out); replace hx893_0 := cx_ gb891 0 (.int .i64 t879) hx893_0; replace hx893_0 := cx_ gb891 1 (.int .i64 t880) hx893_0; replace hx893_0 := cx_ gb891 2 (.int .i64 t881) hx893_0; replace hx893_0 := cx_ gb891 3 (.int .i64 t882) hx893_0; replace hx893_0 := cx_ gb891 4 (.int .i64 t883) hx893_0; replace hx893_0 := cx_ gb891 5 (.int .u64 t884) hx893_0; replace hx893_0 := cx_ gb891 6 (.int .i64 t885) hx893_0; replace hx893_0 := cx_ gb891 7 (.slice (some ad893) t886.length co247) hx893_0; clear hn893; replace p893 := eq_true p893; replace q893 := eq_true q893; have p894 : 0 ≤ (1 : Int) := (by omega); have q894 : 1 < (t886.length : Int) := of_decide_eq_true (by first | (with_reducible assumption) | assumption); obtain ⟨ad894, e894, hx894_0⟩ := Kd.at_int (Kd.R_reads' HO888.out).2.2 1 p894 q894; obtain rfl : ad893 = ad894 := (by injection e894); (try simp only [show (1 : Int).toNat = 1 from rfl, Nat.reduceMul, Nat.reduceEqDiff, Go.Addr.add, ↓reduceIte] at hx894_0); have qi894 : (1 < t886.length) = True := eq_true (by omega); (try rw [show ((1 : Int)).toNat = 1 from rfl] at hx894_0); have hn894 : ad893.block ≠ gb891 := Kd.own_blk (rn_ HO888.out BK891.out); replace hx894_0 := cx_ gb891 0 (.int .i64 t879) hx894_0; replace hx894_0 := cx_ gb891 1 (.int .i64 t880) hx894_0; replace hx894_0 := cx_ gb891 2 (.int .i64 t881) hx894_0; replace hx894_0 := cx_ gb891 3 (.int .i64 t882) hx894_0; replace hx894_0 := cx_ gb891 4 (.int .i64 t883) hx894_0; replace hx894_0 := cx_ gb891 5 (.int .u64 t884) hx894_0; replace hx894_0 := cx_ gb891 6 (.int .i64 t885) hx894_0; replace hx894_0 := cx_ gb891 7 (.slice (some ad893) t886.length co247) hx894_0; clear hn894; replace p894 := eq_true p894; replace q894 := eq_true q894) | ((with_reducible refine gate_callee (f := 28) rfl ?_); (try refine ug_ (by rfl) ?_); refine goesA_ (some 268) Try.func28 #[] ?_; (with_reducible refine (spigotlaw42_given.calls  t895 t896 t897 t898 t899 t900 t901 t902 _ A162.out).mono ?_); rintro e w251 ⟨v903, rfl, ho0, hb⟩; refine ⟨_, rfl, ?_⟩; have HO904 := Aside0.mk (Kd.R_lower (Kd.R_new' (Kd.R_new' ho0 (Kd.R_lt (by (with_reducible repeat (first | apply Kd.R_alloc | apply Kd.R_drewN | apply Kd.R_drew)); exact (Kd.R_mono (rf8_ (g := gb891) (Kd.R_types HO875.out BK891.out (by decide)) (fun _ hk => hk.2)) (fun _ h_ => h_.1))))) (Kd.R_lt (by (with_reducible repeat (first | apply Kd.R_alloc | apply Kd.R_drewN | apply Kd.R_drew)); exact (Kd.R_mono (rf8_ (g := gb891) (Kd.R_types HO888.out BK891.out (by decide)) (fun _ hk => hk.2)) (fun _ h_ => h_.1))))) (below_size bh_)); replace HO875 := Aside0.mk (Kd.R_elder' (by (with_reducible repeat (first | apply Kd.R_alloc | apply Kd.R_drewN | apply Kd.R_drew)); exact (Kd.R_mono (rf8_ (g := gb891) (Kd.R_types HO875.out BK891.out (by decide)) (fun _ hk => hk.2)) (fun _ h_ => h_.1))) (Kd.R_base ho0) hb); replace HO888 := Aside0.mk (Kd.R_elder' (by (with_reducible repeat (first | apply Kd.R_alloc | apply Kd.R_drewN | apply Kd.R_drew)); exact (Kd.R_mono (rf8_ (g := gb891) (Kd.R_types HO888.out BK891.out (by decide)) (fun _ hk => hk.2)) (fun _ h_ => h_.1))) (Kd.R_base ho0) hb); replace BK852 := bf_ BK852 hb; replace BK865 := bf_ BK865 hb; replace BK878 := bf_ BK878 hb; replace BK891 := Aside0.mk (blk_below (g := gb891) (o := .cells #[.int .i64 t879, .int .i64 t880, .int .i64 t881, .int .i64 t882, .int .i64 t883, .int .u64 t884, .int .i64 t885, .slice (some ad893) t886.length co247] 29 (0, 0)) (bp8_ (bq_ BK891)) hb); replace HB := bs_ w hb; (try clear hb); (try clear hb2); (try clear hk); (try clear hi); (try clear ho0); (try clear BK852 BK865 BK878 BK891); have n_ := Aside0.mk (Kd.R_mono (ok' := (fun _ => True)) HO904.out (fun k_ hk => trivial)); clear HO904; have HO904 := n_; clear n_; (try clear HO875 HO888)) | ((with_reducible refine gate_dst (N := 29) rfl ?_); (try refine ug_ (by rfl) ?_); refine bx_ #[.int .i64 0, .int .i64 0, .int .i64 0, .int .i64 0, .int .i64 0, .int .u64 0, .int .i64 0, .slice none 0 0] 29 ?_; intro gb905 hg w252 BK905 hb; have GW905 := bz_ w hg; replace HO904 := rb_ HO904 hb; replace HB := bs_ w hb; clear hb hg; replace hc905 := ce8_ BK905; obtain ⟨Ao254, co254, eo254⟩ := Kd.R_slice HO904.out; subst eo254) | ((with_reducible refine gate_store (t := 29) (p := 29) rfl ?_); refine store_event (t := 29) (p := 29) (v := ?vo_w255) (w1 := ((((((((w252.setCell ⟨gb905, 0, none⟩ (.int .i64 t895)).setCell ⟨gb905, 1, none⟩ (.int .i64 t896)).setCell ⟨gb905, 2, none⟩ (.int .i64 t897)).setCell ⟨gb905, 3, none⟩ (.int .i64 t898)).setCell ⟨gb905, 4, none⟩ (.int .i64 t899)).setCell ⟨gb905, 5, none⟩ (.int .u64 t900)).setCell ⟨gb905, 6, none⟩ (.int .i64 t901)).setCell ⟨gb905, 7, none⟩ (.slice Ao254 t902.length co254))) ?hg ?ho ?hn ?hr ?_; (case ho => rfl); (case hg => rfl); (case hn => rfl); (case hr => first | (go_simp; done) | (go_simp; rfl)); intro w255 hw; replace HO904 : Aside0 (Kd.R (Kd.int .i64) 2 w255 w.heap.size (fun _ => True) (.slice Ao254 t902.length co254) t902) := ⟨(by rw [hw]; exact (by (with_reducible repeat (first | apply Kd.R_alloc | apply Kd.R_drewN | apply Kd.R_drew)); exact Kd.R_mono (rf8_ (g := gb905) (Kd.R_types HO904.out BK905.out (by decide)) (fun _ hk => hk.2)) (fun _ hk => trivial)))⟩; replace BK905 : Aside0 (w255.heap[gb905]? = some (.cells #[.int .i64 t895, .int .i64 t896, .int .i64 t897, .int .i64 t898, .int .i64 t899, .int .u64 t900, .int .i64 t901, .slice Ao254 t902.length co254] 29 (0, 0))) := ⟨(by rw [hw]; exact (bp8_ (bq_ BK905)))⟩; replace HB : Aside0 (Below w.heap.size w w255) := ⟨(by rw [hw]; exact bh_)⟩; clear hw; replace hc905 := ce8_ BK905) | ((with_reducible refine gate_store (t := 26) (p := 271) rfl ?_); refine store_event (t := 26) (p := 271) (v := ?vo_w257) (w1 := ((((((w255.setCell ⟨gb905, 0, none⟩ (.int .i64 10)).setCell ⟨gb905, 1, none⟩ (.int .i64 2)).setCell ⟨gb905, 2, none⟩ (.int .i64 3)).setCell ⟨gb905, 3, none⟩ (.int .i64 8)).setCell ⟨gb905, 4, none⟩ (.int .i64 2)).setCell ⟨gb905, 5, none⟩ (.int .u64 5))) ?hg ?ho ?hn ?hr ?_; (case ho => rfl); (case hg => rfl); (case hn => rfl); (case hr => first | (go_simp; done) | (go_simp; rfl)); intro w257 hw; replace HO904 : Aside0 (Kd.R (Kd.int .i64) 2 w257 w.heap.size (fun _ => True) (.slice Ao254 t902.length co254) t902) := ⟨(by rw [hw]; exact (by (with_reducible repeat (first | apply Kd.R_alloc | apply Kd.R_drewN | apply Kd.R_drew)); exact Kd.R_mono (rf6_ (g := gb905) (Kd.R_types HO904.out BK905.out (by decide)) (fun _ hk => hk.2)) (fun _ hk => trivial)))⟩; replace BK905 : Aside0 (w257.heap[gb905]? = some (.cells #[.int .i64 10, .int .i64 2, .int .i64 3, .int .i64 8, .int .i64 2, .int .u64 5, .int .i64 t901, .slice Ao254 t902.length co254] 29 (0, 0))) := ⟨(by rw [hw]; exact (blk_put (cs := #[.int .i64 10, .int .i64 2, .int .i64 3, .int .i64 8, .int .i64 2, .int .u64 t900, .int .i64 t901, .slice Ao254 t902.length co254]) (blk_put (cs := #[.int .i64 10, .int .i64 2, .int .i64 3, .int .i64 8, .int .i64 t899, .int .u64 t900, .int .i64 t901, .slice Ao254 t902.length co254]) (blk_put (cs := #[.int .i64 10, .int .i64 2, .int .i64 3, .int .i64 t898, .int .i64 t899, .int .u64 t900, .int .i64 t901, .slice Ao254 t902.length co254]) (blk_put (cs := #[.int .i64 10, .int .i64 2, .int .i64 t897, .int .i64 t898, .int .i64 t899, .int .u64 t900, .int .i64 t901, .slice Ao254 t902.length co254]) (blk_put (cs := #[.int .i64 10, .int .i64 t896, .int .i64 t897, .int .i64 t898, .int .i64 t899, .int .u64 t900, .int .i64 t901, .slice Ao254 t902.length co254]) (blk_put (cs := #[.int .i64 t895, .int .i64 t896, .int .i64 t897, .int .i64 t898, .int .i64 t899, .int .u64 t900, .int .i64 t901, .slice Ao254 t902.length co254]) (bq_ BK905) 0 _ rfl) 1 _ rfl) 2 _ rfl) 3 _ rfl) 4 _ rfl) 5 _ rfl))⟩; replace HB : Aside0 (Below w.heap.size w w257) := ⟨(by rw [hw]; exact bh_)⟩; clear hw; replace hc905 := ce8_ BK905; have p164 : 0 ≤ (0 : Int) := (by omega); have q164 : (0 : Int) < ((t902.length : Int) : Int) := of_decide_eq_true (by first | (with_reducible assumption) | assumption); have qi164 : (0 < t902.length) = True := eq_true (by omega); obtain ⟨go164, co164, eo164, gb164, gl164, cl164, HG164⟩ := Kd.R_form HO904.out (by omega); (first | cases eo164 | (injection eo164 with ea_ en_ ec_; (first | subst ea_ | (injection ea_ with ea_; subst ea_)); subst ec_; clear en_)); have GB164 := Aside0.mk gb164; have GG164 := Aside0.mk HG164; clear gb164 gl164 HG164; obtain ⟨hx164_0, hf164_0⟩ := Kd.R_celln 0 HO904.out (0 : Int) p164 q164; (try rw [show ((0 : Int)).toNat = 0 from rfl] at hx164_0); (try simp only [Nat.reduceMul, Nat.zero_mul, Nat.zero_add, Nat.reduceAdd] at hx164_0); (try rw [show ((0 : Int)).toNat = 0 from rfl] at hf164_0); (try simp only [Nat.reduceMul, Nat.zero_mul, Nat.zero_add, Nat.reduceAdd] at hf164_0); replace p164 := eq_true p164; replace q164 := eq_true q164; obtain ⟨hy259_, hz259_⟩ := Kd.R_celln 0 HO904.out (0 : Int) (by omega) (of_decide_eq_true (by first | (with_reducible assumption) | assumption)); (try simp only [Int.reduceToNat, Int.toNat_zero, Int.toNat_ofNat, Nat.reduceMul, Nat.zero_mul, Nat.zero_add] at hy259_ hz259_); (try rw [show ((0 : Int)).toNat = 0 from rfl] at hy259_); (try rw [show ((0 : Int)).toNat = 0 from rfl] at hz259_); have HP259 := Kd.R_putg HO904.out (0 : Int) 2) | ((with_reducible refine gate_store (t := 2) (p := 274) rfl ?_); refine store_event (t := 2) (p := 274) (v := ?vo_w260) (w1 := (w257.setCell ⟨go164, (0 : Int).toNat, none⟩ (.int .i64 2))) ?hg ?ho ?hn ?hr ?_; (case ho => rfl); (case hg => rfl); (case hn => rfl); (case hr => first | (go_simp; done) | (go_simp; rfl)); intro w260 hw; have hg : w257.grownBy w260 (some go164) := (by rw [hw]; exact HP259.2); have hp_ : Kd.R (Kd.int .i64) 2 w260 w.heap.size (fun _ => True) (.slice (some ⟨go164, 0, none⟩) t902.length co254) y906 := (by rw [hw, Ny906.out]; exact HP259.1); clear HP259; replace BK905 := Aside0.mk (blk_grown (g := gb905) (o := .cells #[.int .i64 10, .int .i64 2, .int .i64 3, .int .i64 8, .int .i64 2, .int .u64 5, .int .i64 t901, .slice (some ⟨go164, 0, none⟩) t902.length co254] 29 (0, 0)) (bq_ BK905) hg (Kd.R_ne HO904.out BK905.out (by decide))); replace HO904 := Aside0.mk (hp_); replace HB := Aside0.mk ((by rw [hw]; exact below_set (HB.out) GB164.out : Below w.heap.size w w260)); clear hg hw hp_; replace hc905 := ce8_ BK905) | ((with_reducible refine gate_callee (f := 14) rfl ?_); (try refine ug_ (by rfl) ?_); refine goesL_ (some 278) rfl rfl Try.func14 (by kernel_rfl) rfl #[.agg #[.int .i64 10, .int .i64 2, .int .i64 3, .int .i64 8, .int .i64 2, .int .u64 5, .int .i64 t901, .slice (some ⟨go164, 0, none⟩) y906.length co254], .agg #[.int .u8 3, .int .i64 0, .int .u64 5, .int .i64 0]] rfl (by (try simp only [List.map_toArray, List.map_cons, List.map_nil]); first | done | (rw [show y906.length = t902.length from (Kd.R_reads' HO904.out).1.symm] <;> rfl) | rfl | (simp only [List.length_drop, List.length_take]; rfl)) ?_; (with_reducible refine (lease_Step.calls k1 10 2 3 8 2 5 t901 _ _ y906 3 0 5 0 t907 t908 t909 t910 t911 t912 t913 t914 t917 t918 _ ?side1 ?side2 A165.out).mono ?_); (case side1 => exact cr_ HO904); (case side2 => rw [show y906.length = t902.length from (Kd.R_reads' HO904.out).1.symm]; exact (Kd.R_reads' HO904.out).2.1); rintro e w262 ⟨v915, rfl, ho0, hb⟩; refine ⟨_, rfl, ?_⟩; have HO916 := Aside0.mk (Kd.R_lower (Kd.R_new' ho0 (Kd.R_lt (rs_ HO904))) (below_size bh_)); replace HO904 := Aside0.mk (Kd.R_elder' (rs_ HO904) (Kd.R_base ho0) hb); replace BK905 := bb_ BK905 hb; replace HB := bs_ w hb; (try clear hb); (try clear hb2); (try clear hk); (try clear hi); (try clear ho0)) | ((with_reducible refine gate_dst (N := 30) rfl ?_); (try refine ug_ (by rfl) ?_); refine bx_ #[.int .i64 0, .int .i64 0, .int .i64 0, .int .i64 0, .int .i64 0, .int .u64 0, .int .i64 0, .slice none 0 0] 29 ?_; intro gb919 hg w263 BK919 hb; have GW919 := bz_ w hg; have NB905_919 := bn_ BK905 hg; have NB919_905 := bm_ BK905 hg; replace HO904 := rb_ HO904 hb; replace HO916 := rb_ HO916 hb; replace BK905 := bb_ BK905 hb; replace HB := bs_ w hb; clear hb hg; replace hn919_905 := NB919_905.out; replace hn905_919 := NB905_919.out; replace hc919 := ce8_ BK919; obtain ⟨Ao266, co266, eo266⟩ := Kd.R_slice HO916.out; subst eo266; replace hc905 := ce8_ BK905) | ((with_reducible refine gate_callee (f := 25) rfl ?_); (try refine ug_ (by rfl) ?_); refine goesL_ (some 284) rfl rfl Try.func25 (by kernel_rfl) rfl #[.agg #[.int .i64 10, .int .i64 2, .int .i64 3, .int .i64 8, .int .i64 2, .int .u64 5, .int .i64 t901, .slice (some ⟨go164, 0, none⟩) y906.length co254], .int .u64 5] rfl (by (try simp only [List.map_toArray, List.map_cons, List.map_nil]); first | done | (rw [show y906.length = t902.length from (Kd.R_reads' HO904.out).1.symm] <;> rfl) | rfl | (simp only [List.length_drop, List.length_take]; rfl)) ?_; (with_reducible refine (lease_Bound.calls k1 10 2 3 8 2 5 t901 _ _ y906 5 t920 t921 _ ?side1 ?side2 A166.out).mono ?_); (case side1 => refine (Kd.R_reads' (e := 2) (base := w.heap.size) (ok := fun k_ => (True ∧ some k_ ≠ (.slice Ao266 t914.length co266 : Value).ownBlock)) (n := t902.length) (c := co254) ?_).2.2; exact (by (with_reducible repeat (first | apply Kd.R_alloc | apply Kd.R_drewN | apply Kd.R_drew)); exact (Kd.R_mono (rf8_ (g := gb919) (Kd.R_types HO904.out BK919.out (by decide)) (fun _ hk => hk.2)) (fun _ h_ => h_.1)))); (case side2 => rw [show y906.length = t902.length from (Kd.R_reads' HO904.out).1.symm]; exact (Kd.R_reads' HO904.out).2.1); rintro e w268 ⟨rfl, hb⟩; refine ⟨_, rfl, ?_⟩; replace HO904 := Aside0.mk (Kd.R_below (by (with_reducible repeat (first | apply Kd.R_alloc | apply Kd.R_drewN | apply Kd.R_drew)); exact (Kd.R_mono (rf8_ (g := gb919) (Kd.R_types HO904.out BK919.out (by decide)) (fun _ hk => hk.2)) (fun _ h_ => h_.1))) hb); replace HO916 := Aside0.mk (Kd.R_below (by (with_reducible repeat (first | apply Kd.R_alloc | apply Kd.R_drewN | apply Kd.R_drew)); exact (Kd.R_mono (rf8_ (g := gb919) (Kd.R_types HO916.out BK919.out (by decide)) (fun _ hk => hk.2)) (fun _ h_ => h_.1))) hb); replace BK905 := bf_ BK905 hb; replace BK919 := Aside0.mk (blk_below (g := gb919) (o := .cells #[.int .i64 t907, .int .i64 t908, .int .i64 t909, .int .i64 t910, .int .i64 t911, .int .u64 t912, .int .i64 t913, .slice Ao266 t914.length co266] 29 (0, 0)) (bp8_ (bq_ BK919)) hb); replace HB := bs_ w hb; clear hb; have n_ := Aside0.mk (Kd.R_mono (ok' := (fun _ => True)) HO904.out (fun k_ hk => trivial)); clear HO904; have HO904 := n_; clear n_; (try clear HO916); replace hc905 := ce8_ BK905) | ((with_reducible refine gate_callee (f := 25) rfl ?_); (try refine ug_ (by rfl) ?_); refine goesL_ (some 289) rfl rfl Try.func25 (by kernel_rfl) rfl #[.agg #[.int .i64 10, .int .i64 2, .int .i64 3, .int .i64 8, .int .i64 2, .int .u64 5, .int .i64 t901, .slice (some ⟨go164, 0, none⟩) y906.length co254], .int .u64 18446744073709551615] rfl (by (try simp only [List.map_toArray, List.map_cons, List.map_nil]); first | done | (rw [show y906.length = t902.length from (Kd.R_reads' HO904.out).1.symm] <;> rfl) | rfl | (simp only [List.length_drop, List.length_take]; rfl)) ?_; (with_reducible refine (lease_Bound.calls k1 10 2 3 8 2 5 t901 _ _ y906 18446744073709551615 t922 t923 _ ?side1 ?side2 A167.out).mono ?_); (case side1 => exact cr_ HO904); (case side2 => rw [show y906.length = t902.length from (Kd.R_reads' HO904.out).1.symm]; exact (Kd.R_reads' HO904.out).2.1); rintro e w270 ⟨rfl, hb⟩; refine ⟨_, rfl, ?_⟩; replace HO904 := rb_ HO904 hb; replace BK905 := bb_ BK905 hb; replace BK919 := bb_ BK919 hb; replace HB := bs_ w hb; clear hb; replace hc905 := ce8_ BK905; (try clear BK905)) | ((with_reducible refine gate_callee (f := 15) rfl ?_); (try refine ug_ (by rfl) ?_); refine goesL_ (some 294) rfl rfl Try.func15 (by kernel_rfl) rfl #[.agg #[.int .i64 10, .int .i64 2, .int .i64 3, .int .i64 8, .int .i64 2, .int .u64 5, .int .i64 t901, .slice (some ⟨go164, 0, none⟩) y906.length co254]] rfl (by (try simp only [List.map_toArray, List.map_cons, List.map_nil]); first | done | (rw [show y906.length = t902.length from (Kd.R_reads' HO904.out).1.symm] <;> rfl) | rfl | (simp only [List.length_drop, List.length_take]; rfl)) ?_; (with_reducible refine (lease_Out.calls k1 10 2 3 8 2 5 t901 _ _ y906 t924 t925 _ ?side1 ?side2 A168.out).mono ?_); (case side1 => exact cr_ HO904); (case side2 => rw [show y906.length = t902.length from (Kd.R_reads' HO904.out).1.symm]; exact (Kd.R_reads' HO904.out).2.1); rintro e w272 ⟨rfl, hb⟩; refine ⟨_, rfl, ?_⟩; replace HO904 := rb_ HO904 hb; replace BK919 := bb_ BK919 hb; replace HB := bs_ w hb; clear hb; (try clear HO904); replace hc919 := ce8_ BK919; (try clear BK919)) | ((with_reducible refine gate_callee (f := 28) rfl ?_); (try refine ug_ (by rfl) ?_); refine goesA_ (some 340) Try.func28 #[] ?_; (with_reducible refine (spigotlaw42_given.calls  t926 t927 t928 t929 t930 t931 t932 t933 _ A178.out).mono ?_); rintro e w274 ⟨v934, rfl, ho0, hb⟩; refine ⟨_, rfl, ?_⟩; have HO935 := Aside0.mk (Kd.R_lower ho0 (below_size (hq_ HB))); replace HB := bs_ w hb; clear hb; (try clear ho0); obtain ⟨Ao275, co275, eo275⟩ := Kd.R_slice HO935.out; subst eo275) | ((with_reducible refine gate_callee (f := 14) rfl ?_); (try refine ug_ (by rfl) ?_); refine goesA_ (some 342) Try.func14 #[.agg #[.int .i64 t926, .int .i64 t927, .int .i64 t928, .int .i64 t929, .int .i64 t930, .int .u64 t931, .int .i64 t932, .slice Ao275 t933.length co275], .agg #[.int .u8 1, .int .i64 2, .int .u64 0, .int .i64 0]] ?_; (with_reducible refine (lease_Step.calls k1 t926 t927 t928 t929 t930 t931 t932 _ _ t933 1 2 0 0 t936 t937 t938 t939 t940 t941 t942 t943 t946 t947 _ ?side1 ?side2 A179.out).mono ?_); (case side1 => exact cr_ HO935); (case side2 => exact (Kd.R_reads' HO935.out).2.1); rintro e w276 ⟨v944, rfl, ho0, hb⟩; refine ⟨_, rfl, ?_⟩; have HO945 := Aside0.mk (Kd.R_lower (Kd.R_new' ho0 (Kd.R_lt (rs_ HO935))) (below_size (hq_ HB))); replace HO935 := Aside0.mk (Kd.R_elder' (rs_ HO935) (Kd.R_base ho0) hb); replace HB := bs_ w hb; (try clear hb); (try clear hb2); (try clear hk); (try clear hi); (try clear ho0); have n_ := Aside0.mk (Kd.R_mono (ok' := (fun _ => True)) HO945.out (fun k_ hk => trivial)); clear HO945; have HO945 := n_; clear n_; (try clear HO935)) | ((with_reducible refine gate_dst (N := 40) rfl ?_); (try refine ug_ (by rfl) ?_); refine bx_ #[.int .i64 0, .int .i64 0, .int .i64 0, .int .i64 0, .int .i64 0, .int .u64 0, .int .i64 0, .slice none 0 0] 29 ?_; intro gb948 hg w277 BK948 hb; have GW948 := bz_ w hg; replace HO945 := rb_ HO945 hb; replace HB := bs_ w hb; clear hb hg; replace hc948 := ce8_ BK948; obtain ⟨Ao279, co279, eo279⟩ := Kd.R_slice HO945.out; subst eo279))
     refine ip_ (p := ?P5) ?q5; refine (
    let rec a5_ : ?P5 := by
     have n0_ : Aside0 (Kd.R (Kd.int .i64) 2 ((((((((w277.setCell ⟨gb948, 0, none⟩ (.int .i64 t936)).setCell ⟨gb948, 1, none⟩ (.int .i64 t937)).setCell ⟨gb948, 2, none⟩ (.int .i64 t938)).setCell ⟨gb948, 3, none⟩ (.int .i64 t939)).setCell ⟨gb948, 4, none⟩ (.int .i64 t940)).setCell ⟨gb948, 5, none⟩ (.int .u64 t941)).setCell ⟨gb948, 6, none⟩ (.int .i64 t942)).setCell ⟨gb948, 7, none⟩ (.slice Ao279 t943.length co279)) w.heap.size (fun _ => True) (.slice Ao279 t943.length co279) t943) := ⟨by (with_reducible repeat (first | apply Kd.R_alloc | apply Kd.R_drewN | apply Kd.R_drew)); exact Kd.R_mono (rf8_ (g := gb948) (Kd.R_types HO945.out BK948.out (by decide)) (fun _ hk => hk.2)) (fun _ hk => trivial)⟩
     have n1_ : Aside0 (((((((((w277.setCell ⟨gb948, 0, none⟩ (.int .i64 t936)).setCell ⟨gb948, 1, none⟩ (.int .i64 t937)).setCell ⟨gb948, 2, none⟩ (.int .i64 t938)).setCell ⟨gb948, 3, none⟩ (.int .i64 t939)).setCell ⟨gb948, 4, none⟩ (.int .i64 t940)).setCell ⟨gb948, 5, none⟩ (.int .u64 t941)).setCell ⟨gb948, 6, none⟩ (.int .i64 t942)).setCell ⟨gb948, 7, none⟩ (.slice Ao279 t943.length co279)).heap[gb948]? = some (.cells #[.int .i64 t936, .int .i64 t937, .int .i64 t938, .int .i64 t939, .int .i64 t940, .int .u64 t941, .int .i64 t942, .slice Ao279 t943.length co279] 29 (0, 0))) := ⟨(bp8_ (bq_ BK948))⟩
     have n2_ : Aside0 (Below w.heap.size w ((((((((w277.setCell ⟨gb948, 0, none⟩ (.int .i64 t936)).setCell ⟨gb948, 1, none⟩ (.int .i64 t937)).setCell ⟨gb948, 2, none⟩ (.int .i64 t938)).setCell ⟨gb948, 3, none⟩ (.int .i64 t939)).setCell ⟨gb948, 4, none⟩ (.int .i64 t940)).setCell ⟨gb948, 5, none⟩ (.int .u64 t941)).setCell ⟨gb948, 6, none⟩ (.int .i64 t942)).setCell ⟨gb948, 7, none⟩ (.slice Ao279 t943.length co279))) := bw_
     (try clear HO945)
     (try clear BK948)
     (try clear HB)
     generalize ((((((((w277.setCell ⟨gb948, 0, none⟩ (.int .i64 t936)).setCell ⟨gb948, 1, none⟩ (.int .i64 t937)).setCell ⟨gb948, 2, none⟩ (.int .i64 t938)).setCell ⟨gb948, 3, none⟩ (.int .i64 t939)).setCell ⟨gb948, 4, none⟩ (.int .i64 t940)).setCell ⟨gb948, 5, none⟩ (.int .u64 t941)).setCell ⟨gb948, 6, none⟩ (.int .i64 t942)).setCell ⟨gb948, 7, none⟩ (.slice Ao279 t943.length co279)) = w280 at n0_ n1_ n2_ ⊢
     have HO945 := n0_
     have BK948 := n1_
     have HB := n2_
     clear n0_ n1_ n2_
     replace HO945 := Aside0.mk (Kd.R_drew HO945.out)
     replace BK948 := Aside0.mk (blk_drew BK948.out)
     replace HB := Aside0.mk (below_drew1 HB.out)
     refine start_ (n := 11) (S := fun w' => True) (ds := []) (bl_ 11 0) (by kernel_rfl) rfl (by kernel_rfl) trivial (fun hHeld => ?_); refine with_tabW spigotlaw42_LeaseNames.tab34 spigotlaw42_LeaseNames.bits34 (fun HT_ HW_ => ?_)
     generalize w280.drew = w281 at HO945 BK948 HB hHeld ⊢
     refine join_ (σ := Value × Value × Value × Value × Nat) 3 (bl_ 11 255) (fun s_ => [(347, .agg #[.int .i64 t949, .int .i64 t950, .int .i64 t951, .int .i64 t952, .int .i64 t953, .int .u64 t954, .int .i64 t955, s_.1]), (348, s_.2.1), (349, .tuple #[.agg #[.int .i64 t962, .int .i64 t963, .int .i64 t964, .int .i64 t965, .int .i64 t966, .int .u64 t967, .int .i64 t968, s_.2.2.1], s_.2.2.2.1, .int .i64 t975]), (43, .pointer (some ⟨s_.2.2.2.2, 0, none⟩)), (346, .tuple #[.agg #[.int .i64 t962, .int .i64 t963, .int .i64 t964, .int .i64 t965, .int .i64 t966, .int .u64 t967, .int .i64 t968, s_.2.2.1], s_.2.2.2.1, .int .i64 t975]), (350, .agg #[.int .i64 t962, .int .i64 t963, .int .i64 t964, .int .i64 t965, .int .i64 t966, .int .u64 t967, .int .i64 t968, s_.2.2.1]), (351, s_.2.2.2.1), (352, .int .i64 t975)]) (fun s_ w' => (Kd.R (Kd.int .i64) 2 w' w.heap.size (fun k_ => some k_ ≠ (s_.1 : Value).ownBlock ∧ some k_ ≠ (s_.2.2.1 : Value).ownBlock ∧ some k_ ≠ (s_.2.2.2.1 : Value).ownBlock) (.slice Ao279 t943.length co279) t943) ∧ (Kd.R (Kd.int .i64) 2 w' w.heap.size (fun k_ => some k_ ≠ (.slice Ao279 t943.length co279 : Value).ownBlock ∧ some k_ ≠ (s_.2.2.1 : Value).ownBlock ∧ some k_ ≠ (s_.2.2.2.1 : Value).ownBlock) s_.1 t956) ∧ (Kd.R k31 31 w' w.heap.size (fun _ => True) s_.2.1 y959) ∧ (Kd.R (Kd.int .i64) 2 w' w.heap.size (fun k_ => some k_ ≠ (.slice Ao279 t943.length co279 : Value).ownBlock ∧ some k_ ≠ (s_.1 : Value).ownBlock ∧ some k_ ≠ (s_.2.2.2.1 : Value).ownBlock) s_.2.2.1 t969) ∧ (Kd.R (Kd.int .i64) 2 w' w.heap.size (fun k_ => some k_ ≠ (.slice Ao279 t943.length co279 : Value).ownBlock ∧ some k_ ≠ (s_.1 : Value).ownBlock ∧ some k_ ≠ (s_.2.2.1 : Value).ownBlock) s_.2.2.2.1 t972) ∧ (w'.heap[gb948]? = some (.cells #[.int .i64 t936, .int .i64 t937, .int .i64 t938, .int .i64 t939, .int .i64 t940, .int .u64 t941, .int .i64 t942, .slice Ao279 t943.length co279] 29 (0, 0))) ∧ (w'.heap[s_.2.2.2.2]? = some (.cells #[.int .i64 0, .int .i64 0, .int .i64 0, .int .i64 0, .int .i64 0, .int .u64 0, .int .i64 0, .slice none 0 0] 29 (0, 0))) ∧ (w.heap.size ≤ s_.2.2.2.2) ∧ (w.heap.size ≤ s_.2.2.2.2) ∧ (gb948 ≠ s_.2.2.2.2) ∧ (s_.2.2.2.2 ≠ gb948) ∧ (Below w.heap.size w w')) ?_ ?_
     rotate_left
     ·intro hJ0_1_2_7
      refine join_ (σ := Value × Value × Value × Value) 4 (bl_ 11 127) (fun s_ => [(347, .agg #[.int .i64 t949, .int .i64 t950, .int .i64 t951, .int .i64 t952, .int .i64 t953, .int .u64 t954, .int .i64 t955, s_.1]), (348, s_.2.1), (349, .tuple #[.agg #[.int .i64 t962, .int .i64 t963, .int .i64 t964, .int .i64 t965, .int .i64 t966, .int .u64 t967, .int .i64 t968, s_.2.2.1], s_.2.2.2, .int .i64 t975]), (346, .tuple #[.agg #[.int .i64 t962, .int .i64 t963, .int .i64 t964, .int .i64 t965, .int .i64 t966, .int .u64 t967, .int .i64 t968, s_.2.2.1], s_.2.2.2, .int .i64 t975]), (350, .agg #[.int .i64 t962, .int .i64 t963, .int .i64 t964, .int .i64 t965, .int .i64 t966, .int .u64 t967, .int .i64 t968, s_.2.2.1]), (351, s_.2.2.2), (352, .int .i64 t975)]) (fun s_ w' => (Kd.R (Kd.int .i64) 2 w' w.heap.size (fun k_ => some k_ ≠ (s_.1 : Value).ownBlock ∧ some k_ ≠ (s_.2.2.1 : Value).ownBlock ∧ some k_ ≠ (s_.2.2.2 : Value).ownBlock) (.slice Ao279 t943.length co279) t943) ∧ (Kd.R (Kd.int .i64) 2 w' w.heap.size (fun k_ => some k_ ≠ (.slice Ao279 t943.length co279 : Value).ownBlock ∧ some k_ ≠ (s_.2.2.1 : Value).ownBlock ∧ some k_ ≠ (s_.2.2.2 : Value).ownBlock) s_.1 t956) ∧ (Kd.R k31 31 w' w.heap.size (fun _ => True) s_.2.1 y959) ∧ (Kd.R (Kd.int .i64) 2 w' w.heap.size (fun k_ => some k_ ≠ (.slice Ao279 t943.length co279 : Value).ownBlock ∧ some k_ ≠ (s_.1 : Value).ownBlock ∧ some k_ ≠ (s_.2.2.2 : Value).ownBlock) s_.2.2.1 t969) ∧ (Kd.R (Kd.int .i64) 2 w' w.heap.size (fun k_ => some k_ ≠ (.slice Ao279 t943.length co279 : Value).ownBlock ∧ some k_ ≠ (s_.1 : Value).ownBlock ∧ some k_ ≠ (s_.2.2.1 : Value).ownBlock) s_.2.2.2 t972) ∧ (w'.heap[gb948]? = some (.cells #[.int .i64 t936, .int .i64 t937, .int .i64 t938, .int .i64 t939, .int .i64 t940, .int .u64 t941, .int .i64 t942, .slice Ao279 t943.length co279] 29 (0, 0))) ∧ (Below w.heap.size w w')) ?_ ?_
      rotate_left
      ·intro hJ0_1_2
       refine join_ (σ := Value × Value × Nat) 8 (bl_ 11 131) (fun s_ => [(347, .agg #[.int .i64 t949, .int .i64 t950, .int .i64 t951, .int .i64 t952, .int .i64 t953, .int .u64 t954, .int .i64 t955, s_.1]), (348, s_.2.1), (43, .pointer (some ⟨s_.2.2, 0, none⟩))]) (fun s_ w' => (Kd.R (Kd.int .i64) 2 w' w.heap.size (fun k_ => some k_ ≠ (s_.1 : Value).ownBlock) (.slice Ao279 t943.length co279) t943) ∧ (Kd.R (Kd.int .i64) 2 w' w.heap.size (fun k_ => some k_ ≠ (.slice Ao279 t943.length co279 : Value).ownBlock) s_.1 t956) ∧ (Kd.R k31 31 w' w.heap.size (fun _ => True) s_.2.1 y959) ∧ (w'.heap[gb948]? = some (.cells #[.int .i64 t936, .int .i64 t937, .int .i64 t938, .int .i64 t939, .int .i64 t940, .int .u64 t941, .int .i64 t942, .slice Ao279 t943.length co279] 29 (0, 0))) ∧ (w'.heap[s_.2.2]? = some (.cells #[.int .i64 0, .int .i64 0, .int .i64 0, .int .i64 0, .int .i64 0, .int .u64 0, .int .i64 0, .slice none 0 0] 29 (0, 0))) ∧ (w.heap.size ≤ s_.2.2) ∧ (w.heap.size ≤ s_.2.2) ∧ (gb948 ≠ s_.2.2) ∧ (s_.2.2 ≠ gb948) ∧ (Below w.heap.size w w')) ?_ ?_
       rotate_left
       ·intro hJ0_1_7
        refine join_ (σ := Value × Value) 9 (bl_ 11 3) (fun s_ => [(347, .agg #[.int .i64 t949, .int .i64 t950, .int .i64 t951, .int .i64 t952, .int .i64 t953, .int .u64 t954, .int .i64 t955, s_.1]), (348, s_.2)]) (fun s_ w' => (Kd.R (Kd.int .i64) 2 w' w.heap.size (fun k_ => some k_ ≠ (s_.1 : Value).ownBlock) (.slice Ao279 t943.length co279) t943) ∧ (Kd.R (Kd.int .i64) 2 w' w.heap.size (fun k_ => some k_ ≠ (.slice Ao279 t943.length co279 : Value).ownBlock) s_.1 t956) ∧ (Kd.R k31 31 w' w.heap.size (fun _ => True) s_.2 y959) ∧ (w'.heap[gb948]? = some (.cells #[.int .i64 t936, .int .i64 t937, .int .i64 t938, .int .i64 t939, .int .i64 t940, .int .u64 t941, .int .i64 t942, .slice Ao279 t943.length co279] 29 (0, 0))) ∧ (Below w.heap.size w w')) ?_ ?_
        rotate_left
        ·intro hJ0_1
         refine join_ (σ := Value × Nat) 9 (bl_ 11 129) (fun s_ => [(347, .agg #[.int .i64 t949, .int .i64 t950, .int .i64 t951, .int .i64 t952, .int .i64 t953, .int .u64 t954, .int .i64 t955, s_.1]), (43, .pointer (some ⟨s_.2, 0, none⟩))]) (fun s_ w' => (Kd.R (Kd.int .i64) 2 w' w.heap.size (fun k_ => some k_ ≠ (s_.1 : Value).ownBlock) (.slice Ao279 t943.length co279) t943) ∧ (Kd.R (Kd.int .i64) 2 w' w.heap.size (fun k_ => some k_ ≠ (.slice Ao279 t943.length co279 : Value).ownBlock) s_.1 t956) ∧ (w'.heap[gb948]? = some (.cells #[.int .i64 t936, .int .i64 t937, .int .i64 t938, .int .i64 t939, .int .i64 t940, .int .u64 t941, .int .i64 t942, .slice Ao279 t943.length co279] 29 (0, 0))) ∧ (w'.heap[s_.2]? = some (.cells #[.int .i64 0, .int .i64 0, .int .i64 0, .int .i64 0, .int .i64 0, .int .u64 0, .int .i64 0, .slice none 0 0] 29 (0, 0))) ∧ (w.heap.size ≤ s_.2) ∧ (w.heap.size ≤ s_.2) ∧ (gb948 ≠ s_.2) ∧ (s_.2 ≠ gb948) ∧ (Below w.heap.size w w')) ?_ ?_
         rotate_left
         ·intro hJ0_7
          refine join_ (σ := Value × Nat) 9 (bl_ 11 130) (fun s_ => [(348, s_.1), (43, .pointer (some ⟨s_.2, 0, none⟩))]) (fun s_ w' => (Kd.R (Kd.int .i64) 2 w' w.heap.size (fun _ => True) (.slice Ao279 t943.length co279) t943) ∧ (Kd.R k31 31 w' w.heap.size (fun _ => True) s_.1 y959) ∧ (w'.heap[gb948]? = some (.cells #[.int .i64 t936, .int .i64 t937, .int .i64 t938, .int .i64 t939, .int .i64 t940, .int .u64 t941, .int .i64 t942, .slice Ao279 t943.length co279] 29 (0, 0))) ∧ (w'.heap[s_.2]? = some (.cells #[.int .i64 0, .int .i64 0, .int .i64 0, .int .i64 0, .int .i64 0, .int .u64 0, .int .i64 0, .slice none 0 0] 29 (0, 0))) ∧ (w.heap.size ≤ s_.2) ∧ (w.heap.size ≤ s_.2) ∧ (gb948 ≠ s_.2) ∧ (s_.2 ≠ gb948) ∧ (Below w.heap.size w w')) ?_ ?_
          rotate_left
          ·intro hJ1_7
           refine join_ (σ := Value) 10 (bl_ 11 1) (fun s_ => [(347, .agg #[.int .i64 t949, .int .i64 t950, .int .i64 t951, .int .i64 t952, .int .i64 t953, .int .u64 t954, .int .i64 t955, s_])]) (fun s_ w' => (Kd.R (Kd.int .i64) 2 w' w.heap.size (fun k_ => some k_ ≠ (s_ : Value).ownBlock) (.slice Ao279 t943.length co279) t943) ∧ (Kd.R (Kd.int .i64) 2 w' w.heap.size (fun k_ => some k_ ≠ (.slice Ao279 t943.length co279 : Value).ownBlock) s_ t956) ∧ (w'.heap[gb948]? = some (.cells #[.int .i64 t936, .int .i64 t937, .int .i64 t938, .int .i64 t939, .int .i64 t940, .int .u64 t941, .int .i64 t942, .slice Ao279 t943.length co279] 29 (0, 0))) ∧ (Below w.heap.size w w')) ?_ ?_
           rotate_left
           ·intro hJ0
            refine join_ (σ := Value) 10 (bl_ 11 2) (fun s_ => [(348, s_)]) (fun s_ w' => (Kd.R (Kd.int .i64) 2 w' w.heap.size (fun _ => True) (.slice Ao279 t943.length co279) t943) ∧ (Kd.R k31 31 w' w.heap.size (fun _ => True) s_ y959) ∧ (w'.heap[gb948]? = some (.cells #[.int .i64 t936, .int .i64 t937, .int .i64 t938, .int .i64 t939, .int .i64 t940, .int .u64 t941, .int .i64 t942, .slice Ao279 t943.length co279] 29 (0, 0))) ∧ (Below w.heap.size w w')) ?_ ?_
            rotate_left
            ·intro hJ1
             refine join_ (σ := Nat) 10 (bl_ 11 128) (fun s_ => [(43, .pointer (some ⟨s_, 0, none⟩))]) (fun s_ w' => (Kd.R (Kd.int .i64) 2 w' w.heap.size (fun _ => True) (.slice Ao279 t943.length co279) t943) ∧ (w'.heap[gb948]? = some (.cells #[.int .i64 t936, .int .i64 t937, .int .i64 t938, .int .i64 t939, .int .i64 t940, .int .u64 t941, .int .i64 t942, .slice Ao279 t943.length co279] 29 (0, 0))) ∧ (w'.heap[s_]? = some (.cells #[.int .i64 0, .int .i64 0, .int .i64 0, .int .i64 0, .int .i64 0, .int .u64 0, .int .i64 0, .slice none 0 0] 29 (0, 0))) ∧ (w.heap.size ≤ s_) ∧ (w.heap.size ≤ s_) ∧ (gb948 ≠ s_) ∧ (s_ ≠ gb948) ∧ (Below w.heap.size w w')) ?_ ?_
             rotate_left
             ·intro hJ7
              refine three_ (i := 0) (j := 1) (k := 7) (Ni := some 347) (Nj := some 348) (Nk := some 43) (bl_ 11 1) (bl_ 11 2) (bl_ 11 128) rfl rfl rfl rfl rfl rfl (three_of HT_.out (by kernel_rfl)) (by decide) (by decide) (by decide) (fun K hK => ?_) (fun K hK => ?_) (fun K hK => ?_)
              ·refine goesB_ Try.func28 #[] ?_
               with_reducible refine (spigotlaw42_given.calls  t949 t950 t951 t952 t953 t954 t955 t956 _ A180.out).mono ?_
               rintro e w282 ⟨v957, rfl, ho0, hb⟩
               refine ⟨_, rfl, ?_⟩
               have HO958 := Aside0.mk (Kd.R_lower (Kd.R_new' ho0 (Kd.R_lt (rs_ HO945))) (below_size bh_))
               replace HO945 := Aside0.mk (Kd.R_elder' (rs_ HO945) (Kd.R_base ho0) hb)
               replace BK948 := bb_ BK948 hb
               replace HB := bs_ w hb
               (try clear hb)
               (try clear hb2)
               (try clear hk)
               (try clear hi)
               (try clear ho0)
               refine hK.out _ _ trivial (fun hHeld => ?_)
               clear hK K
               refine nm_ (some 347) ?_
               exact no_ (hJ0 (v957) _ ⟨(by (with_reducible repeat (first | apply Kd.R_alloc | apply Kd.R_drewN | apply Kd.R_drew)); exact Kd.R_mono HO945.out (fun _ hk => hk.2)), (by (with_reducible repeat (first | apply Kd.R_alloc | apply Kd.R_drewN | apply Kd.R_drew)); exact Kd.R_mono HO958.out (fun _ hk => hk.2)), (bq_ BK948), bh_⟩)
              ·refine Kd.R_make_step k31 _ 31 (by rfl) (N := 348) rfl 44 _ _ rfl 101 rfl rfl Try.underlying44 (.agg #[(.int .u8 0), (.int .i64 0), (.int .u64 0), (.int .i64 0)]) 32 info31 rfl (by decide) (by omega) z31 (ok := fun _ => True) (okp := fun _ => True) (k31_mkM _ _ _ z31 ) (fun _ hk => hk) trivial (by omega) (by omega) (Below.refl _ _) (Nat.le_refl _) ?_
               intro v960 w282 ho283 hb hg_ hnew_
               clear hg_ hnew_
               (first | rw [← Ny959.out] at ho283 | (simp only [Int.reduceToNat] at ho283; rw [← Ny959.out] at ho283))
               have HO961 := Aside0.mk (Kd.R_lower ho283 (below_size bh_))
               replace HO945 := rb_ HO945 hb
               replace BK948 := bb_ BK948 hb
               replace HB := bs_ w hb
               clear hb ho283
               refine hK.out _ _ trivial (fun hHeld => ?_)
               clear hK K
               refine nm_ (some 348) ?_
               exact no_ (hJ1 (v960) _ ⟨(rs_ HO945), (rs_ HO961), (bq_ BK948), bh_⟩)
              ·refine bs2_ #[.int .i64 0, .int .i64 0, .int .i64 0, .int .i64 0, .int .i64 0, .int .u64 0, .int .i64 0, .slice none 0 0] 29 ?_
               intro gb976 hg w282 BK976 hb
               have GW976 := bz_ w hg
               have GE976 := GW976
               have NB948_976 := bn_ BK948 hg
               have NB976_948 := bm_ BK948 hg
               replace HO945 := rb_ HO945 hb
               replace BK948 := bb_ BK948 hb
               replace HB := bs_ w hb
               clear hb hg
               refine hK.out _ _ trivial (fun hHeld => ?_)
               clear hK K
               refine nm_ (some 43) ?_
               exact no_ (hJ7 (gb976) _ ⟨(rs_ HO945), (bq_ BK948), (bq_ BK976), GW976.out, GE976.out, NB948_976.out, NB976_948.out, bh_⟩)
             ·refine ip_ (p := ?P6) ?q6; refine (
             let rec a6_ : ?P6 := by
              rintro gb976 w283 ⟨h0_, h1_, h2_, h3_, h4_, h5_, h6_, h7_⟩
              have BK976 := Aside0.mk h2_
              have GW976 := Aside0.mk h3_
              have GE976 := Aside0.mk h4_
              have NB948_976 := Aside0.mk h5_
              have NB976_948 := Aside0.mk h6_
              replace HO945 : Aside0 (Kd.R (Kd.int .i64) 2 w283 w.heap.size (fun _ => True) (.slice Ao279 t943.length co279) t943) := ⟨h0_⟩
              replace BK948 := Aside0.mk h1_
              replace HB := Aside0.mk h7_
              clear h0_ h1_ h2_ h3_ h4_ h5_ h6_ h7_
              have hHeld := trivial
              refine nq_ ?_
              refine tw_ 0 1 (some 347) (some 348) (bl_ 11 129) (bl_ 11 130) HT_ (fun K hK => ?_) fun K hK => ?_
              ·refine goesB_ Try.func28 #[] ?_
               with_reducible refine (spigotlaw42_given.calls  t949 t950 t951 t952 t953 t954 t955 t956 _ A180.out).mono ?_
               rintro e w284 ⟨v957, rfl, ho0, hb⟩
               refine ⟨_, rfl, ?_⟩
               have HO958 := Aside0.mk (Kd.R_lower (Kd.R_new' ho0 (Kd.R_lt (rs_ HO945))) (below_size bh_))
               replace HO945 := Aside0.mk (Kd.R_elder' (rs_ HO945) (Kd.R_base ho0) hb)
               replace BK948 := bb_ BK948 hb
               replace BK976 := bb_ BK976 hb
               replace HB := bs_ w hb
               (try clear hb)
               (try clear hb2)
               (try clear hk)
               (try clear hi)
               (try clear ho0)
               refine hK.out _ _ trivial (fun hHeld => ?_)
               clear hK K
               refine nm_ (some 347) ?_
               exact no_ (hJ0_7 (v957, gb976) _ ⟨(by (with_reducible repeat (first | apply Kd.R_alloc | apply Kd.R_drewN | apply Kd.R_drew)); exact Kd.R_mono HO945.out (fun _ hk => hk.2)), (by (with_reducible repeat (first | apply Kd.R_alloc | apply Kd.R_drewN | apply Kd.R_drew)); exact Kd.R_mono HO958.out (fun _ hk => hk.2)), (bq_ BK948), (bq_ BK976), GW976.out, GE976.out, NB948_976.out, NB976_948.out, bh_⟩)
              ·refine Kd.R_make_step k31 _ 31 (by rfl) (N := 348) rfl 44 _ _ rfl 101 rfl rfl Try.underlying44 (.agg #[(.int .u8 0), (.int .i64 0), (.int .u64 0), (.int .i64 0)]) 32 info31 rfl (by decide) (by omega) z31 (ok := fun _ => True) (okp := fun _ => True) (k31_mkM _ _ _ z31 ) (fun _ hk => hk) trivial (by omega) (by omega) (Below.refl _ _) (Nat.le_refl _) ?_
               intro v960 w284 ho285 hb hg_ hnew_
               clear hg_ hnew_
               (first | rw [← Ny959.out] at ho285 | (simp only [Int.reduceToNat] at ho285; rw [← Ny959.out] at ho285))
               have HO961 := Aside0.mk (Kd.R_lower ho285 (below_size bh_))
               replace HO945 := rb_ HO945 hb
               replace BK948 := bb_ BK948 hb
               replace BK976 := bb_ BK976 hb
               replace HB := bs_ w hb
               clear hb ho285
               refine hK.out _ _ trivial (fun hHeld => ?_)
               clear hK K
               refine nm_ (some 348) ?_
               exact no_ (hJ1_7 (v960, gb976) _ ⟨(rs_ HO945), (rs_ HO961), (bq_ BK948), (bq_ BK976), GW976.out, GE976.out, NB948_976.out, NB976_948.out, bh_⟩)
             a6_)
            ·refine ip_ (p := ?P7) ?q7; refine (
            let rec a7_ : ?P7 := by
             rintro v960 w284 ⟨h0_, h1_, h2_, h3_⟩
             have HO961 : Aside0 (Kd.R k31 31 w284 w.heap.size (fun _ => True) v960 y959) := ⟨h1_⟩
             replace HO945 : Aside0 (Kd.R (Kd.int .i64) 2 w284 w.heap.size (fun _ => True) (.slice Ao279 t943.length co279) t943) := ⟨h0_⟩
             replace BK948 := Aside0.mk h2_
             replace HB := Aside0.mk h3_
             clear h0_ h1_ h2_ h3_
             have hHeld := trivial
             refine nq_ ?_
             refine tw_ 0 7 (some 347) (some 43) (bl_ 11 3) (bl_ 11 130) HT_ (fun K hK => ?_) fun K hK => ?_
             ·refine goesB_ Try.func28 #[] ?_
              with_reducible refine (spigotlaw42_given.calls  t949 t950 t951 t952 t953 t954 t955 t956 _ A180.out).mono ?_
              rintro e w285 ⟨v957, rfl, ho0, hb⟩
              refine ⟨_, rfl, ?_⟩
              have HO958 := Aside0.mk (Kd.R_lower (Kd.R_new' ho0 (Kd.R_lt (rs_ HO945))) (below_size bh_))
              replace HO945 := Aside0.mk (Kd.R_elder' (rs_ HO945) (Kd.R_base ho0) hb)
              replace HO961 := rb_ HO961 hb
              replace BK948 := bb_ BK948 hb
              replace HB := bs_ w hb
              (try clear hb)
              (try clear hb2)
              (try clear hk)
              (try clear hi)
              (try clear ho0)
              refine hK.out _ _ trivial (fun hHeld => ?_)
              clear hK K
              refine nm_ (some 347) ?_
              exact no_ (hJ0_1 (v957, v960) _ ⟨(by (with_reducible repeat (first | apply Kd.R_alloc | apply Kd.R_drewN | apply Kd.R_drew)); exact Kd.R_mono HO945.out (fun _ hk => hk.2)), (by (with_reducible repeat (first | apply Kd.R_alloc | apply Kd.R_drewN | apply Kd.R_drew)); exact Kd.R_mono HO958.out (fun _ hk => hk.2)), (rs_ HO961), (bq_ BK948), bh_⟩)
             ·refine bs2_ #[.int .i64 0, .int .i64 0, .int .i64 0, .int .i64 0, .int .i64 0, .int .u64 0, .int .i64 0, .slice none 0 0] 29 ?_
              intro gb976 hg w285 BK976 hb
              have GW976 := bz_ w hg
              have GE976 := GW976
              have NB948_976 := bn_ BK948 hg
              have NB976_948 := bm_ BK948 hg
              replace HO945 := rb_ HO945 hb
              replace HO961 := rb_ HO961 hb
              replace BK948 := bb_ BK948 hb
              replace HB := bs_ w hb
              clear hb hg
              refine hK.out _ _ trivial (fun hHeld => ?_)
              clear hK K
              refine nm_ (some 43) ?_
              exact no_ (hJ1_7 (v960, gb976) _ ⟨(rs_ HO945), (rs_ HO961), (bq_ BK948), (bq_ BK976), GW976.out, GE976.out, NB948_976.out, NB976_948.out, bh_⟩)
            a7_)
           ·refine ip_ (p := ?P8) ?q8; refine (
           let rec a8_ : ?P8 := by
            rintro v957 w283 ⟨h0_, h1_, h2_, h3_⟩
            have HO958 : Aside0 (Kd.R (Kd.int .i64) 2 w283 w.heap.size (fun k_ => some k_ ≠ (.slice Ao279 t943.length co279 : Value).ownBlock) v957 t956) := ⟨h1_⟩
            replace HO945 : Aside0 (Kd.R (Kd.int .i64) 2 w283 w.heap.size (fun k_ => some k_ ≠ (v957 : Value).ownBlock) (.slice Ao279 t943.length co279) t943) := ⟨h0_⟩
            replace BK948 := Aside0.mk h2_
            replace HB := Aside0.mk h3_
            clear h0_ h1_ h2_ h3_
            have hHeld := trivial
            refine nq_ ?_
            refine tw_ 1 7 (some 348) (some 43) (bl_ 11 3) (bl_ 11 129) HT_ (fun K hK => ?_) fun K hK => ?_
            ·refine Kd.R_make_step k31 _ 31 (by rfl) (N := 348) rfl 44 _ _ rfl 101 rfl rfl Try.underlying44 (.agg #[(.int .u8 0), (.int .i64 0), (.int .u64 0), (.int .i64 0)]) 32 info31 rfl (by decide) (by omega) z31 (ok := fun _ => True) (okp := fun _ => True) (k31_mkM _ _ _ z31 ) (fun _ hk => hk) trivial (by omega) (by omega) (Below.refl _ _) (Nat.le_refl _) ?_
             intro v960 w284 ho285 hb hg_ hnew_
             clear hg_ hnew_
             (first | rw [← Ny959.out] at ho285 | (simp only [Int.reduceToNat] at ho285; rw [← Ny959.out] at ho285))
             have HO961 := Aside0.mk (Kd.R_lower ho285 (below_size bh_))
             replace HO945 := rb_ HO945 hb
             replace HO958 := rb_ HO958 hb
             replace BK948 := bb_ BK948 hb
             replace HB := bs_ w hb
             clear hb ho285
             refine hK.out _ _ trivial (fun hHeld => ?_)
             clear hK K
             refine nm_ (some 348) ?_
             exact no_ (hJ0_1 (v957, v960) _ ⟨(rs_ HO945), (rs_ HO958), (rs_ HO961), (bq_ BK948), bh_⟩)
            ·refine bs2_ #[.int .i64 0, .int .i64 0, .int .i64 0, .int .i64 0, .int .i64 0, .int .u64 0, .int .i64 0, .slice none 0 0] 29 ?_
             intro gb976 hg w284 BK976 hb
             have GW976 := bz_ w hg
             have GE976 := GW976
             have NB948_976 := bn_ BK948 hg
             have NB976_948 := bm_ BK948 hg
             replace HO945 := rb_ HO945 hb
             replace HO958 := rb_ HO958 hb
             replace BK948 := bb_ BK948 hb
             replace HB := bs_ w hb
             clear hb hg
             refine hK.out _ _ trivial (fun hHeld => ?_)
             clear hK K
             refine nm_ (some 43) ?_
             exact no_ (hJ0_7 (v957, gb976) _ ⟨(rs_ HO945), (rs_ HO958), (bq_ BK948), (bq_ BK976), GW976.out, GE976.out, NB948_976.out, NB976_948.out, bh_⟩)
           a8_)
          ·refine ip_ (p := ?P9) ?q9; refine (
          let rec a9_ : ?P9 := by
           rintro ⟨v960, gb976⟩ w285 ⟨h0_, h1_, h2_, h3_, h4_, h5_, h6_, h7_, h8_⟩
           have HO961 : Aside0 (Kd.R k31 31 w285 w.heap.size (fun _ => True) v960 y959) := ⟨h1_⟩
           have BK976 := Aside0.mk h3_
           have GW976 := Aside0.mk h4_
           have GE976 := Aside0.mk h5_
           have NB948_976 := Aside0.mk h6_
           have NB976_948 := Aside0.mk h7_
           replace HO945 : Aside0 (Kd.R (Kd.int .i64) 2 w285 w.heap.size (fun _ => True) (.slice Ao279 t943.length co279) t943) := ⟨h0_⟩
           replace BK948 := Aside0.mk h2_
           replace HB := Aside0.mk h8_
           clear h0_ h1_ h2_ h3_ h4_ h5_ h6_ h7_ h8_
           have hHeld := trivial
           refine nq_ ?_
           refine oa_ 0 (some 347) (bl_ 11 131) HT_ fun K hK => ?_
           refine goesB_ Try.func28 #[] ?_
           with_reducible refine (spigotlaw42_given.calls  t949 t950 t951 t952 t953 t954 t955 t956 _ A180.out).mono ?_
           rintro e w286 ⟨v957, rfl, ho0, hb⟩
           refine ⟨_, rfl, ?_⟩
           have HO958 := Aside0.mk (Kd.R_lower (Kd.R_new' ho0 (Kd.R_lt (rs_ HO945))) (below_size bh_))
           replace HO945 := Aside0.mk (Kd.R_elder' (rs_ HO945) (Kd.R_base ho0) hb)
           replace HO961 := rb_ HO961 hb
           replace BK948 := bb_ BK948 hb
           replace BK976 := bb_ BK976 hb
           replace HB := bs_ w hb
           (try clear hb)
           (try clear hb2)
           (try clear hk)
           (try clear hi)
           (try clear ho0)
           refine hK.out _ _ trivial (fun hHeld => ?_)
           clear hK K
           refine nm_ (some 347) ?_
           exact no_ (hJ0_1_7 (v957, v960, gb976) _ ⟨(by (with_reducible repeat (first | apply Kd.R_alloc | apply Kd.R_drewN | apply Kd.R_drew)); exact Kd.R_mono HO945.out (fun _ hk => hk.2)), (by (with_reducible repeat (first | apply Kd.R_alloc | apply Kd.R_drewN | apply Kd.R_drew)); exact Kd.R_mono HO958.out (fun _ hk => hk.2)), (rs_ HO961), (bq_ BK948), (bq_ BK976), GW976.out, GE976.out, NB948_976.out, NB976_948.out, bh_⟩)
          a9_)
         ·refine ip_ (p := ?P10) ?q10; refine (
         let rec a10_ : ?P10 := by
          rintro ⟨v957, gb976⟩ w284 ⟨h0_, h1_, h2_, h3_, h4_, h5_, h6_, h7_, h8_⟩
          have HO958 : Aside0 (Kd.R (Kd.int .i64) 2 w284 w.heap.size (fun k_ => some k_ ≠ (.slice Ao279 t943.length co279 : Value).ownBlock) v957 t956) := ⟨h1_⟩
          have BK976 := Aside0.mk h3_
          have GW976 := Aside0.mk h4_
          have GE976 := Aside0.mk h5_
          have NB948_976 := Aside0.mk h6_
          have NB976_948 := Aside0.mk h7_
          replace HO945 : Aside0 (Kd.R (Kd.int .i64) 2 w284 w.heap.size (fun k_ => some k_ ≠ (v957 : Value).ownBlock) (.slice Ao279 t943.length co279) t943) := ⟨h0_⟩
          replace BK948 := Aside0.mk h2_
          replace HB := Aside0.mk h8_
          clear h0_ h1_ h2_ h3_ h4_ h5_ h6_ h7_ h8_
          have hHeld := trivial
          refine nq_ ?_
          refine oa_ 1 (some 348) (bl_ 11 131) HT_ fun K hK => ?_
          refine Kd.R_make_step k31 _ 31 (by rfl) (N := 348) rfl 44 _ _ rfl 101 rfl rfl Try.underlying44 (.agg #[(.int .u8 0), (.int .i64 0), (.int .u64 0), (.int .i64 0)]) 32 info31 rfl (by decide) (by omega) z31 (ok := fun _ => True) (okp := fun _ => True) (k31_mkM _ _ _ z31 ) (fun _ hk => hk) trivial (by omega) (by omega) (Below.refl _ _) (Nat.le_refl _) ?_
          intro v960 w285 ho286 hb hg_ hnew_
          clear hg_ hnew_
          (first | rw [← Ny959.out] at ho286 | (simp only [Int.reduceToNat] at ho286; rw [← Ny959.out] at ho286))
          have HO961 := Aside0.mk (Kd.R_lower ho286 (below_size bh_))
          replace HO945 := rb_ HO945 hb
          replace HO958 := rb_ HO958 hb
          replace BK948 := bb_ BK948 hb
          replace BK976 := bb_ BK976 hb
          replace HB := bs_ w hb
          clear hb ho286
          refine hK.out _ _ trivial (fun hHeld => ?_)
          clear hK K
          refine nm_ (some 348) ?_
          exact no_ (hJ0_1_7 (v957, v960, gb976) _ ⟨(rs_ HO945), (rs_ HO958), (rs_ HO961), (bq_ BK948), (bq_ BK976), GW976.out, GE976.out, NB948_976.out, NB976_948.out, bh_⟩)
         a10_)
        ·refine ip_ (p := ?P11) ?q11; refine (
        let rec a11_ : ?P11 := by
         rintro ⟨v957, v960⟩ w285 ⟨h0_, h1_, h2_, h3_, h4_⟩
         have HO958 : Aside0 (Kd.R (Kd.int .i64) 2 w285 w.heap.size (fun k_ => some k_ ≠ (.slice Ao279 t943.length co279 : Value).ownBlock) v957 t956) := ⟨h1_⟩
         have HO961 : Aside0 (Kd.R k31 31 w285 w.heap.size (fun _ => True) v960 y959) := ⟨h2_⟩
         replace HO945 : Aside0 (Kd.R (Kd.int .i64) 2 w285 w.heap.size (fun k_ => some k_ ≠ (v957 : Value).ownBlock) (.slice Ao279 t943.length co279) t943) := ⟨h0_⟩
         replace BK948 := Aside0.mk h3_
         replace HB := Aside0.mk h4_
         clear h0_ h1_ h2_ h3_ h4_
         have hHeld := trivial
         obtain ⟨Ao286, co286, eo286⟩ := Kd.R_slice HO958.out
         (first | subst eo286 | (injection eo286 with f1_ f2_ f3_; have f4_ := f1_.symm; have f5_ := f3_.symm; clear f1_ f2_ f3_; subst f4_; subst f5_))
         obtain ⟨Ao287, co287, eo287⟩ := Kd.R_slice HO961.out
         (first | subst eo287 | (injection eo287 with f1_ f2_ f3_; have f4_ := f1_.symm; have f5_ := f3_.symm; clear f1_ f2_ f3_; subst f4_; subst f5_))
         refine nq_ ?_
         refine tw_ 2 7 (some 349) (some 43) (bl_ 11 7) (bl_ 11 131) HT_ (fun K hK => ?_) fun K hK => ?_
         ·refine goesB_ Try.func16 #[.agg #[.int .i64 t949, .int .i64 t950, .int .i64 t951, .int .i64 t952, .int .i64 t953, .int .u64 t954, .int .i64 t955, .slice Ao286 t956.length co286], .slice Ao287 y959.length co287] ?_
          with_reducible refine (lease_Run.calls k1 t949 t950 t951 t952 t953 t954 t955 _ _ t956 _ _ y959 t962 t963 t964 t965 t966 t967 t968 t969 t972 t975 _ ?side1 ?side2 ?side3 ?side4 A181.out).mono ?_
          (case side1 => exact cr_ HO958)
          (case side2 => exact (Kd.R_reads' HO958.out).2.1)
          (case side3 => exact cr_ HO961)
          (case side4 => exact (Kd.R_reads' HO961.out).2.1)
          rintro e w288 ⟨v970, v973, rfl, ho0, ho1, hb⟩
          refine ⟨_, rfl, ?_⟩
          have HO971 := Aside0.mk (Kd.R_lower (Kd.R_new' (Kd.R_new' ho0 (Kd.R_lt (rs_ HO945))) (Kd.R_lt (rs_ HO958))) (below_size bh_))
          have HO974 := Aside0.mk (Kd.R_lower (Kd.R_new' (Kd.R_new' ho1 (Kd.R_lt (rs_ HO945))) (Kd.R_lt (rs_ HO958))) (below_size bh_))
          replace HO945 := Aside0.mk (Kd.R_mono (Kd.R_told (Kd.R_told (Kd.R_old (rs_ HO945) hb) (Kd.R_base ho0)) (Kd.R_base ho1)) (fun _ h_ => h_.1))
          replace HO958 := Aside0.mk (Kd.R_mono (Kd.R_told (Kd.R_told (Kd.R_old (rs_ HO958) hb) (Kd.R_base ho0)) (Kd.R_base ho1)) (fun _ h_ => h_.1))
          replace HO961 := rb_ HO961 hb
          replace BK948 := bb_ BK948 hb
          replace HB := bs_ w hb
          (try clear hb)
          (try clear hb2)
          (try clear hk)
          (try clear hi)
          (try clear ho0)
          (try clear ho1)
          refine hK.out _ _ trivial (fun hHeld => ?_)
          clear hK K
          refine nm_ (some 349) ?_
          refine pa_ 3 (some 346) (bl_ 11 15) HT_ ?_
          refine pa_ 4 (some 350) (bl_ 11 31) HT_ ?_
          refine pa_ 5 (some 351) (bl_ 11 63) HT_ ?_
          refine pa_ 6 (some 352) (bl_ 11 127) HT_ ?_
          exact no_ (hJ0_1_2 (.slice Ao286 t956.length co286, .slice Ao287 y959.length co287, v970, v973) _ ⟨(by (with_reducible repeat (first | apply Kd.R_alloc | apply Kd.R_drewN | apply Kd.R_drew)); exact Kd.R_mono HO945.out (fun _ hk => ⟨hk.1.1, ⟨hk.1.2, hk.2⟩⟩)), (by (with_reducible repeat (first | apply Kd.R_alloc | apply Kd.R_drewN | apply Kd.R_drew)); exact Kd.R_mono HO958.out (fun _ hk => ⟨hk.1.1, ⟨hk.1.2, hk.2⟩⟩)), (rs_ HO961), (by (with_reducible repeat (first | apply Kd.R_alloc | apply Kd.R_drewN | apply Kd.R_drew)); exact Kd.R_mono HO971.out (fun _ hk => ⟨hk.1.2, ⟨hk.2, hk.1.1⟩⟩)), (by (with_reducible repeat (first | apply Kd.R_alloc | apply Kd.R_drewN | apply Kd.R_drew)); exact Kd.R_mono HO974.out (fun _ hk => ⟨hk.1.2, ⟨hk.2, hk.1.1⟩⟩)), (bq_ BK948), bh_⟩)
         ·refine bs2_ #[.int .i64 0, .int .i64 0, .int .i64 0, .int .i64 0, .int .i64 0, .int .u64 0, .int .i64 0, .slice none 0 0] 29 ?_
          intro gb976 hg w286 BK976 hb
          have GW976 := bz_ w hg
          have GE976 := GW976
          have NB948_976 := bn_ BK948 hg
          have NB976_948 := bm_ BK948 hg
          replace HO945 := rb_ HO945 hb
          replace HO958 := rb_ HO958 hb
          replace HO961 := rb_ HO961 hb
          replace BK948 := bb_ BK948 hb
          replace HB := bs_ w hb
          clear hb hg
          refine hK.out _ _ trivial (fun hHeld => ?_)
          clear hK K
          refine nm_ (some 43) ?_
          exact no_ (hJ0_1_7 (.slice Ao286 t956.length co286, .slice Ao287 y959.length co287, gb976) _ ⟨(rs_ HO945), (rs_ HO958), (rs_ HO961), (bq_ BK948), (bq_ BK976), GW976.out, GE976.out, NB948_976.out, NB976_948.out, bh_⟩)
        a11_)
       ·refine ip_ (p := ?P12) ?q12; refine (
       let rec a12_ : ?P12 := by
        rintro ⟨v957, v960, gb976⟩ w286 ⟨h0_, h1_, h2_, h3_, h4_, h5_, h6_, h7_, h8_, h9_⟩
        have HO958 : Aside0 (Kd.R (Kd.int .i64) 2 w286 w.heap.size (fun k_ => some k_ ≠ (.slice Ao279 t943.length co279 : Value).ownBlock) v957 t956) := ⟨h1_⟩
        have HO961 : Aside0 (Kd.R k31 31 w286 w.heap.size (fun _ => True) v960 y959) := ⟨h2_⟩
        have BK976 := Aside0.mk h4_
        have GW976 := Aside0.mk h5_
        have GE976 := Aside0.mk h6_
        have NB948_976 := Aside0.mk h7_
        have NB976_948 := Aside0.mk h8_
        replace HO945 : Aside0 (Kd.R (Kd.int .i64) 2 w286 w.heap.size (fun k_ => some k_ ≠ (v957 : Value).ownBlock) (.slice Ao279 t943.length co279) t943) := ⟨h0_⟩
        replace BK948 := Aside0.mk h3_
        replace HB := Aside0.mk h9_
        clear h0_ h1_ h2_ h3_ h4_ h5_ h6_ h7_ h8_ h9_
        have hHeld := trivial
        obtain ⟨Ao287, co287, eo287⟩ := Kd.R_slice HO958.out
        (first | subst eo287 | (injection eo287 with f1_ f2_ f3_; have f4_ := f1_.symm; have f5_ := f3_.symm; clear f1_ f2_ f3_; subst f4_; subst f5_))
        obtain ⟨Ao288, co288, eo288⟩ := Kd.R_slice HO961.out
        (first | subst eo288 | (injection eo288 with f1_ f2_ f3_; have f4_ := f1_.symm; have f5_ := f3_.symm; clear f1_ f2_ f3_; subst f4_; subst f5_))
        refine nq_ ?_
        refine oa_ 2 (some 349) (bl_ 11 135) HT_ fun K hK => ?_
        refine goesB_ Try.func16 #[.agg #[.int .i64 t949, .int .i64 t950, .int .i64 t951, .int .i64 t952, .int .i64 t953, .int .u64 t954, .int .i64 t955, .slice Ao287 t956.length co287], .slice Ao288 y959.length co288] ?_
        with_reducible refine (lease_Run.calls k1 t949 t950 t951 t952 t953 t954 t955 _ _ t956 _ _ y959 t962 t963 t964 t965 t966 t967 t968 t969 t972 t975 _ ?side1 ?side2 ?side3 ?side4 A181.out).mono ?_
        (case side1 => exact cr_ HO958)
        (case side2 => exact (Kd.R_reads' HO958.out).2.1)
        (case side3 => exact cr_ HO961)
        (case side4 => exact (Kd.R_reads' HO961.out).2.1)
        rintro e w289 ⟨v970, v973, rfl, ho0, ho1, hb⟩
        refine ⟨_, rfl, ?_⟩
        have HO971 := Aside0.mk (Kd.R_lower (Kd.R_new' (Kd.R_new' ho0 (Kd.R_lt (rs_ HO945))) (Kd.R_lt (rs_ HO958))) (below_size bh_))
        have HO974 := Aside0.mk (Kd.R_lower (Kd.R_new' (Kd.R_new' ho1 (Kd.R_lt (rs_ HO945))) (Kd.R_lt (rs_ HO958))) (below_size bh_))
        replace HO945 := Aside0.mk (Kd.R_mono (Kd.R_told (Kd.R_told (Kd.R_old (rs_ HO945) hb) (Kd.R_base ho0)) (Kd.R_base ho1)) (fun _ h_ => h_.1))
        replace HO958 := Aside0.mk (Kd.R_mono (Kd.R_told (Kd.R_told (Kd.R_old (rs_ HO958) hb) (Kd.R_base ho0)) (Kd.R_base ho1)) (fun _ h_ => h_.1))
        replace HO961 := rb_ HO961 hb
        replace BK948 := bb_ BK948 hb
        replace BK976 := bb_ BK976 hb
        replace HB := bs_ w hb
        (try clear hb)
        (try clear hb2)
        (try clear hk)
        (try clear hi)
        (try clear ho0)
        (try clear ho1)
        refine hK.out _ _ trivial (fun hHeld => ?_)
        clear hK K
        refine nm_ (some 349) ?_
        refine pa_ 3 (some 346) (bl_ 11 143) HT_ ?_
        refine pa_ 4 (some 350) (bl_ 11 159) HT_ ?_
        refine pa_ 5 (some 351) (bl_ 11 191) HT_ ?_
        refine pa_ 6 (some 352) (bl_ 11 255) HT_ ?_
        exact no_ (hJ0_1_2_7 (.slice Ao287 t956.length co287, .slice Ao288 y959.length co288, v970, v973, gb976) _ ⟨(by (with_reducible repeat (first | apply Kd.R_alloc | apply Kd.R_drewN | apply Kd.R_drew)); exact Kd.R_mono HO945.out (fun _ hk => ⟨hk.1.1, ⟨hk.1.2, hk.2⟩⟩)), (by (with_reducible repeat (first | apply Kd.R_alloc | apply Kd.R_drewN | apply Kd.R_drew)); exact Kd.R_mono HO958.out (fun _ hk => ⟨hk.1.1, ⟨hk.1.2, hk.2⟩⟩)), (rs_ HO961), (by (with_reducible repeat (first | apply Kd.R_alloc | apply Kd.R_drewN | apply Kd.R_drew)); exact Kd.R_mono HO971.out (fun _ hk => ⟨hk.1.2, ⟨hk.2, hk.1.1⟩⟩)), (by (with_reducible repeat (first | apply Kd.R_alloc | apply Kd.R_drewN | apply Kd.R_drew)); exact Kd.R_mono HO974.out (fun _ hk => ⟨hk.1.2, ⟨hk.2, hk.1.1⟩⟩)), (bq_ BK948), (bq_ BK976), GW976.out, GE976.out, NB948_976.out, NB976_948.out, bh_⟩)
       a12_)
      ·refine ip_ (p := ?P13) ?q13; refine (
      let rec a13_ : ?P13 := by
       rintro ⟨v957, v960, v970, v973⟩ w288 ⟨h0_, h1_, h2_, h3_, h4_, h5_, h6_⟩
       have HO958 : Aside0 (Kd.R (Kd.int .i64) 2 w288 w.heap.size (fun k_ => some k_ ≠ (.slice Ao279 t943.length co279 : Value).ownBlock ∧ some k_ ≠ (v970 : Value).ownBlock ∧ some k_ ≠ (v973 : Value).ownBlock) v957 t956) := ⟨h1_⟩
       have HO961 : Aside0 (Kd.R k31 31 w288 w.heap.size (fun _ => True) v960 y959) := ⟨h2_⟩
       have HO971 : Aside0 (Kd.R (Kd.int .i64) 2 w288 w.heap.size (fun k_ => some k_ ≠ (.slice Ao279 t943.length co279 : Value).ownBlock ∧ some k_ ≠ (v957 : Value).ownBlock ∧ some k_ ≠ (v973 : Value).ownBlock) v970 t969) := ⟨h3_⟩
       have HO974 : Aside0 (Kd.R (Kd.int .i64) 2 w288 w.heap.size (fun k_ => some k_ ≠ (.slice Ao279 t943.length co279 : Value).ownBlock ∧ some k_ ≠ (v957 : Value).ownBlock ∧ some k_ ≠ (v970 : Value).ownBlock) v973 t972) := ⟨h4_⟩
       replace HO945 : Aside0 (Kd.R (Kd.int .i64) 2 w288 w.heap.size (fun k_ => some k_ ≠ (v957 : Value).ownBlock ∧ some k_ ≠ (v970 : Value).ownBlock ∧ some k_ ≠ (v973 : Value).ownBlock) (.slice Ao279 t943.length co279) t943) := ⟨h0_⟩
       replace BK948 := Aside0.mk h5_
       replace HB := Aside0.mk h6_
       clear h0_ h1_ h2_ h3_ h4_ h5_ h6_
       have hHeld := trivial
       refine nq_ ?_
       refine oa_ 7 (some 43) (bl_ 11 255) HT_ fun K hK => ?_
       refine bs2_ #[.int .i64 0, .int .i64 0, .int .i64 0, .int .i64 0, .int .i64 0, .int .u64 0, .int .i64 0, .slice none 0 0] 29 ?_
       intro gb976 hg w289 BK976 hb
       have GW976 := bz_ w hg
       have GE976 := GW976
       have NB948_976 := bn_ BK948 hg
       have NB976_948 := bm_ BK948 hg
       replace HO945 := rb_ HO945 hb
       replace HO958 := rb_ HO958 hb
       replace HO961 := rb_ HO961 hb
       replace HO971 := rb_ HO971 hb
       replace HO974 := rb_ HO974 hb
       replace BK948 := bb_ BK948 hb
       replace HB := bs_ w hb
       clear hb hg
       refine hK.out _ _ trivial (fun hHeld => ?_)
       clear hK K
       refine nm_ (some 43) ?_
       exact no_ (hJ0_1_2_7 (v957, v960, v970, v973, gb976) _ ⟨(rs_ HO945), (rs_ HO958), (rs_ HO961), (rs_ HO971), (rs_ HO974), (bq_ BK948), (bq_ BK976), GW976.out, GE976.out, NB948_976.out, NB976_948.out, bh_⟩)
      a13_)
     rintro ⟨v957, v960, v970, v973, gb976⟩ w289 ⟨h0_, h1_, h2_, h3_, h4_, h5_, h6_, h7_, h8_, h9_, h10_, h11_⟩
     have HO958 : Aside0 (Kd.R (Kd.int .i64) 2 w289 w.heap.size (fun k_ => some k_ ≠ (.slice Ao279 t943.length co279 : Value).ownBlock ∧ some k_ ≠ (v970 : Value).ownBlock ∧ some k_ ≠ (v973 : Value).ownBlock) v957 t956) := ⟨h1_⟩
     have HO961 : Aside0 (Kd.R k31 31 w289 w.heap.size (fun _ => True) v960 y959) := ⟨h2_⟩
     have HO971 : Aside0 (Kd.R (Kd.int .i64) 2 w289 w.heap.size (fun k_ => some k_ ≠ (.slice Ao279 t943.length co279 : Value).ownBlock ∧ some k_ ≠ (v957 : Value).ownBlock ∧ some k_ ≠ (v973 : Value).ownBlock) v970 t969) := ⟨h3_⟩
     have HO974 : Aside0 (Kd.R (Kd.int .i64) 2 w289 w.heap.size (fun k_ => some k_ ≠ (.slice Ao279 t943.length co279 : Value).ownBlock ∧ some k_ ≠ (v957 : Value).ownBlock ∧ some k_ ≠ (v970 : Value).ownBlock) v973 t972) := ⟨h4_⟩
     have BK976 := Aside0.mk h6_
     have GW976 := Aside0.mk h7_
     have GE976 := Aside0.mk h8_
     have NB948_976 := Aside0.mk h9_
     have NB976_948 := Aside0.mk h10_
     replace HO945 : Aside0 (Kd.R (Kd.int .i64) 2 w289 w.heap.size (fun k_ => some k_ ≠ (v957 : Value).ownBlock ∧ some k_ ≠ (v970 : Value).ownBlock ∧ some k_ ≠ (v973 : Value).ownBlock) (.slice Ao279 t943.length co279) t943) := ⟨h0_⟩
     replace BK948 := Aside0.mk h5_
     replace HB := Aside0.mk h11_
     clear h0_ h1_ h2_ h3_ h4_ h5_ h6_ h7_ h8_ h9_ h10_ h11_
     have hHeld := trivial
     obtain ⟨Ao297, co297, eo297⟩ := Kd.R_slice HO971.out
     (first | subst eo297 | (injection eo297 with f1_ f2_ f3_; have f4_ := f1_.symm; have f5_ := f3_.symm; clear f1_ f2_ f3_; subst f4_; subst f5_))
     refine nq_ ?_
     refine oa_ 8 none (bl_ 11 511) HT_ fun K hK => ?_
     have hs290 : w289.cell? ⟨gb976, 0, none⟩ = some (.int .i64 0) := (blk_cell BK976.out 0).trans rfl
     have hfs290 := blk_frozen BK976.out 0
     have hns290_0 := NB948_976.out
     have hms290_0 := NB976_948.out
     have hs291 : w289.cell? ⟨gb976, 1, none⟩ = some (.int .i64 0) := (blk_cell BK976.out 1).trans rfl
     have hfs291 := blk_frozen BK976.out 1
     have hns291_0 := NB948_976.out
     have hms291_0 := NB976_948.out
     have hs292 : w289.cell? ⟨gb976, 2, none⟩ = some (.int .i64 0) := (blk_cell BK976.out 2).trans rfl
     have hfs292 := blk_frozen BK976.out 2
     have hns292_0 := NB948_976.out
     have hms292_0 := NB976_948.out
     have hs293 : w289.cell? ⟨gb976, 3, none⟩ = some (.int .i64 0) := (blk_cell BK976.out 3).trans rfl
     have hfs293 := blk_frozen BK976.out 3
     have hns293_0 := NB948_976.out
     have hms293_0 := NB976_948.out
     have hs294 : w289.cell? ⟨gb976, 4, none⟩ = some (.int .i64 0) := (blk_cell BK976.out 4).trans rfl
     have hfs294 := blk_frozen BK976.out 4
     have hns294_0 := NB948_976.out
     have hms294_0 := NB976_948.out
     have hs295 : w289.cell? ⟨gb976, 5, none⟩ = some (.int .u64 0) := (blk_cell BK976.out 5).trans rfl
     have hfs295 := blk_frozen BK976.out 5
     have hns295_0 := NB948_976.out
     have hms295_0 := NB976_948.out
     have hs296 : w289.cell? ⟨gb976, 6, none⟩ = some (.int .i64 0) := (blk_cell BK976.out 6).trans rfl
     have hfs296 := blk_frozen BK976.out 6
     have hns296_0 := NB948_976.out
     have hms296_0 := NB976_948.out
     have hs298 : w289.cell? ⟨gb976, 7, none⟩ = some (.slice none 0 0) := (blk_cell BK976.out 7).trans rfl
     have hfs298 := blk_frozen BK976.out 7
     have hns298_0 := NB948_976.out
     have hms298_0 := NB976_948.out
     refine sk_ (hrun := st8_ BK976.out rfl rfl rfl (by kernel_rfl) ⟨rfl, rfl, rfl, rfl, rfl, rfl, rfl, rfl⟩) ?_
     refine hK.out _ _ trivial (fun hHeld => ?_)
     clear hK K
     refine pa_ 9 (some 44) (bl_ 11 1023) HT_ ?_
     refine pa_ 10 (some 45) (bl_ 11 2047) HT_ ?_
     refine done_ (done_of HT_.out (by kernel_rfl)) ?_
     refine ip_ (p := ?P14) ?q14; refine (
    let rec a14_ : ?P14 := by
     try go_wp2_with (first | ((with_reducible refine gate_callee (f := 28) rfl ?_); (try refine ug_ (by rfl) ?_); refine goesA_ (some 354) Try.func28 #[] ?_; (with_reducible refine (spigotlaw42_given.calls  t977 t978 t979 t980 t981 t982 t983 t984 _ A182.out).mono ?_); rintro e w299 ⟨v985, rfl, ho0, hb⟩; refine ⟨_, rfl, ?_⟩; have HO986 := Aside0.mk (Kd.R_lower (Kd.R_new' (Kd.R_new' (Kd.R_new' (Kd.R_new' ho0 (Kd.R_lt (by (with_reducible repeat (first | apply Kd.R_alloc | apply Kd.R_drewN | apply Kd.R_drew)); exact (Kd.R_mono (rf8_ (g := gb976) (Kd.R_types HO945.out BK976.out (by decide)) (fun _ hk => hk.2)) (fun _ h_ => h_.1))))) (Kd.R_lt (by (with_reducible repeat (first | apply Kd.R_alloc | apply Kd.R_drewN | apply Kd.R_drew)); exact (Kd.R_mono (rf8_ (g := gb976) (Kd.R_types HO958.out BK976.out (by decide)) (fun _ hk => hk.2)) (fun _ h_ => h_.1))))) (Kd.R_lt (by (with_reducible repeat (first | apply Kd.R_alloc | apply Kd.R_drewN | apply Kd.R_drew)); exact (Kd.R_mono (rf8_ (g := gb976) (Kd.R_types HO971.out BK976.out (by decide)) (fun _ hk => hk.2)) (fun _ h_ => h_.1))))) (Kd.R_lt (by (with_reducible repeat (first | apply Kd.R_alloc | apply Kd.R_drewN | apply Kd.R_drew)); exact (Kd.R_mono (rf8_ (g := gb976) (Kd.R_types HO974.out BK976.out (by decide)) (fun _ hk => hk.2)) (fun _ h_ => h_.1))))) (below_size bh_)); replace HO945 := Aside0.mk (Kd.R_elder' (by (with_reducible repeat (first | apply Kd.R_alloc | apply Kd.R_drewN | apply Kd.R_drew)); exact (Kd.R_mono (rf8_ (g := gb976) (Kd.R_types HO945.out BK976.out (by decide)) (fun _ hk => hk.2)) (fun _ h_ => h_.1))) (Kd.R_base ho0) hb); replace HO958 := Aside0.mk (Kd.R_elder' (by (with_reducible repeat (first | apply Kd.R_alloc | apply Kd.R_drewN | apply Kd.R_drew)); exact (Kd.R_mono (rf8_ (g := gb976) (Kd.R_types HO958.out BK976.out (by decide)) (fun _ hk => hk.2)) (fun _ h_ => h_.1))) (Kd.R_base ho0) hb); replace HO961 := Aside0.mk (Kd.R_below (by (with_reducible repeat (first | apply Kd.R_alloc | apply Kd.R_drewN | apply Kd.R_drew)); exact (Kd.R_mono (rf8_ (g := gb976) (Kd.R_types HO961.out BK976.out (by decide)) (fun _ hk => hk.2)) (fun _ h_ => h_.1))) hb); replace HO971 := Aside0.mk (Kd.R_elder' (by (with_reducible repeat (first | apply Kd.R_alloc | apply Kd.R_drewN | apply Kd.R_drew)); exact (Kd.R_mono (rf8_ (g := gb976) (Kd.R_types HO971.out BK976.out (by decide)) (fun _ hk => hk.2)) (fun _ h_ => h_.1))) (Kd.R_base ho0) hb); replace HO974 := Aside0.mk (Kd.R_elder' (by (with_reducible repeat (first | apply Kd.R_alloc | apply Kd.R_drewN | apply Kd.R_drew)); exact (Kd.R_mono (rf8_ (g := gb976) (Kd.R_types HO974.out BK976.out (by decide)) (fun _ hk => hk.2)) (fun _ h_ => h_.1))) (Kd.R_base ho0) hb); replace BK948 := bf_ BK948 hb; replace BK976 := Aside0.mk (blk_below (g := gb976) (o := .cells #[.int .i64 t962, .int .i64 t963, .int .i64 t964, .int .i64 t965, .int .i64 t966, .int .u64 t967, .int .i64 t968, .slice Ao297 t969.length co297] 29 (0, 0)) (bp8_ (bq_ BK976)) hb); replace HB := bs_ w hb; (try clear hb); (try clear hb2); (try clear hk); (try clear hi); (try clear ho0); (try clear BK948 BK976); have n_ := Aside0.mk (Kd.R_mono (ok' := (fun _ => True)) HO986.out (fun k_ hk => trivial)); clear HO986; have HO986 := n_; clear n_; (try clear HO945 HO958 HO961 HO971 HO974)) | ((with_reducible refine gate_dst (N := 358) rfl ?_); (try refine ug_ (by rfl) ?_); refine Kd.R_lit k31 _ 31 ?hg (N := 358) ?hd (xs := ([(⟨1, 0, 0, 0⟩ : S31), (⟨1, 7, 0, 0⟩ : S31), (⟨0, 0, 0, 0⟩ : S31)] : List (S31))) (inner := [.int .u8 1, .int .i64 0, .int .u64 0, .int .i64 0, .int .u8 1, .int .i64 7, .int .u64 0, .int .i64 0, .int .u8 0, .int .i64 0, .int .u64 0, .int .i64 0]) (ok := fun _ => True) (okp := fun _ => True) ?hr ?hp (fun _ hk => hk) trivial (Below.refl _ _) (Nat.le_refl _) (by simp) ?_; (case hd => rfl); (case hg => rfl); (case hr => first | (go_simp; done) | (go_simp; rfl)); (case hp => exact (Reps.c4 (show Kd.M k31 _ _ _ (⟨1, 0, 0, 0⟩ : S31) [.int .u8 1, .int .i64 0, .int .u64 0, .int .i64 0] from (k31_mkM _ _ _ (⟨1, 0, 0, 0⟩ : S31) )) (Reps.c4 (show Kd.M k31 _ _ _ (⟨1, 7, 0, 0⟩ : S31) [.int .u8 1, .int .i64 7, .int .u64 0, .int .i64 0] from (k31_mkM _ _ _ (⟨1, 7, 0, 0⟩ : S31) )) (Reps.c4 (show Kd.M k31 _ _ _ (⟨0, 0, 0, 0⟩ : S31) [.int .u8 0, .int .i64 0, .int .u64 0, .int .i64 0] from (k31_mkM _ _ _ (⟨0, 0, 0, 0⟩ : S31) )) (Reps.none _ _))))); intro v988 w300 ho301 hb hg_ hnew_; clear hg_ hnew_; (first | rw [← Ny987.out] at ho301 | (simp only [Int.reduceToNat] at ho301; rw [← Ny987.out] at ho301)); have HO989 := Aside0.mk (Kd.R_lower ho301 (below_size (hq_ HB))); replace HO986 := rb_ HO986 hb; replace HB := bs_ w hb; clear hb ho301; obtain ⟨Ao302, co302, eo302⟩ := Kd.R_slice HO986.out; subst eo302; obtain ⟨Ao303, co303, eo303⟩ := Kd.R_slice HO989.out; subst eo303) | ((with_reducible refine gate_callee (f := 16) rfl ?_); (try refine ug_ (by rfl) ?_); refine goesA_ (some 359) Try.func16 #[.agg #[.int .i64 t977, .int .i64 t978, .int .i64 t979, .int .i64 t980, .int .i64 t981, .int .u64 t982, .int .i64 t983, .slice Ao302 t984.length co302], .slice Ao303 y987.length co303] ?_; (with_reducible refine (lease_Run.calls k1 t977 t978 t979 t980 t981 t982 t983 _ _ t984 _ _ y987 t990 t991 t992 t993 t994 t995 t996 t997 t1000 t1003 _ ?side1 ?side2 ?side3 ?side4 A183.out).mono ?_); (case side1 => exact cr_ HO986); (case side2 => exact (Kd.R_reads' HO986.out).2.1); (case side3 => exact cr_ HO989); (case side4 => exact (Kd.R_reads' HO989.out).2.1); rintro e w304 ⟨v998, v1001, rfl, ho0, ho1, hb⟩; refine ⟨_, rfl, ?_⟩; have HO999 := Aside0.mk (Kd.R_lower (Kd.R_new' ho0 (Kd.R_lt (rs_ HO986))) (below_size (hq_ HB))); have HO1002 := Aside0.mk (Kd.R_lower (Kd.R_new' ho1 (Kd.R_lt (rs_ HO986))) (below_size (hq_ HB))); replace HO986 := Aside0.mk (Kd.R_mono (Kd.R_told (Kd.R_told (Kd.R_old (rs_ HO986) hb) (Kd.R_base ho0)) (Kd.R_base ho1)) (fun _ h_ => h_.1)); replace HO989 := rb_ HO989 hb; replace HB := bs_ w hb; (try clear hb); (try clear hb2); (try clear hk); (try clear hi); (try clear ho0); (try clear ho1); have n_ := Aside0.mk (Kd.R_mono (ok' := (fun _ => True)) HO999.out (fun k_ hk => trivial)); clear HO999; have HO999 := n_; clear n_; (try clear HO986 HO989 HO1002)) | ((with_reducible refine gate_dst (N := 46) rfl ?_); (try refine ug_ (by rfl) ?_); refine bx_ #[.int .i64 0, .int .i64 0, .int .i64 0, .int .i64 0, .int .i64 0, .int .u64 0, .int .i64 0, .slice none 0 0] 29 ?_; intro gb1004 hg w305 BK1004 hb; have GW1004 := bz_ w hg; replace HO999 := rb_ HO999 hb; replace HB := bs_ w hb; clear hb hg; replace hc1004 := ce8_ BK1004; obtain ⟨Ao307, co307, eo307⟩ := Kd.R_slice HO999.out; subst eo307) | ((with_reducible refine gate_callee (f := 28) rfl ?_); (try refine ug_ (by rfl) ?_); refine goesA_ (some 364) Try.func28 #[] ?_; (with_reducible refine (spigotlaw42_given.calls  t1005 t1006 t1007 t1008 t1009 t1010 t1011 t1012 _ A184.out).mono ?_); rintro e w308 ⟨v1013, rfl, ho0, hb⟩; refine ⟨_, rfl, ?_⟩; have HO1014 := Aside0.mk (Kd.R_lower (Kd.R_new' ho0 (Kd.R_lt (by (with_reducible repeat (first | apply Kd.R_alloc | apply Kd.R_drewN | apply Kd.R_drew)); exact (Kd.R_mono (rf8_ (g := gb1004) (Kd.R_types HO999.out BK1004.out (by decide)) (fun _ hk => hk.2)) (fun _ h_ => h_.1))))) (below_size bh_)); replace HO999 := Aside0.mk (Kd.R_elder' (by (with_reducible repeat (first | apply Kd.R_alloc | apply Kd.R_drewN | apply Kd.R_drew)); exact (Kd.R_mono (rf8_ (g := gb1004) (Kd.R_types HO999.out BK1004.out (by decide)) (fun _ hk => hk.2)) (fun _ h_ => h_.1))) (Kd.R_base ho0) hb); replace BK1004 := Aside0.mk (blk_below (g := gb1004) (o := .cells #[.int .i64 t990, .int .i64 t991, .int .i64 t992, .int .i64 t993, .int .i64 t994, .int .u64 t995, .int .i64 t996, .slice Ao307 t997.length co307] 29 (0, 0)) (bp8_ (bq_ BK1004)) hb); replace HB := bs_ w hb; (try clear hb); (try clear hb2); (try clear hk); (try clear hi); (try clear ho0); (try clear BK1004); have n_ := Aside0.mk (Kd.R_mono (ok' := (fun _ => True)) HO1014.out (fun k_ hk => trivial)); clear HO1014; have HO1014 := n_; clear n_; (try clear HO999); obtain ⟨Ao309, co309, eo309⟩ := Kd.R_slice HO1014.out; subst eo309) | ((with_reducible refine gate_callee (f := 16) rfl ?_); (try refine ug_ (by rfl) ?_); refine goesA_ (some 365) Try.func16 #[.agg #[.int .i64 t1005, .int .i64 t1006, .int .i64 t1007, .int .i64 t1008, .int .i64 t1009, .int .u64 t1010, .int .i64 t1011, .slice Ao309 t1012.length co309], .slice none 0 0] ?_; (refine (lease_Run.calls k1 t1005 t1006 t1007 t1008 t1009 t1010 t1011 _ _ t1012 _ _ ([] : List (S31)) t1015 t1016 t1017 t1018 t1019 t1020 t1021 t1022 t1025 t1028 _ ?side1 ?side2 ?side3 ?side4 A185.out).mono ?_); (case side1 => exact cr_ HO1014); (case side2 => exact (Kd.R_reads' HO1014.out).2.1); (case side3 => exact Kd.C_nil _ _); (case side4 => exact Nat.le_refl _); rintro e w310 ⟨v1023, v1026, rfl, ho0, ho1, hb⟩; refine ⟨_, rfl, ?_⟩; have HO1024 := Aside0.mk (Kd.R_lower (Kd.R_new' ho0 (Kd.R_lt (rs_ HO1014))) (below_size (hq_ HB))); have HO1027 := Aside0.mk (Kd.R_lower (Kd.R_new' ho1 (Kd.R_lt (rs_ HO1014))) (below_size (hq_ HB))); replace HO1014 := Aside0.mk (Kd.R_mono (Kd.R_told (Kd.R_told (Kd.R_old (rs_ HO1014) hb) (Kd.R_base ho0)) (Kd.R_base ho1)) (fun _ h_ => h_.1)); replace HB := bs_ w hb; (try clear hb); (try clear hb2); (try clear hk); (try clear hi); (try clear ho0); (try clear ho1); have n_ := Aside0.mk (Kd.R_mono (ok' := (fun k_ => some k_ ≠ (v1026 : Value).ownBlock)) HO1024.out (fun k_ hk => hk.1)); clear HO1024; have HO1024 := n_; clear n_; have n_ := Aside0.mk (Kd.R_mono (ok' := (fun k_ => some k_ ≠ (v1023 : Value).ownBlock)) HO1027.out (fun k_ hk => hk.1)); clear HO1027; have HO1027 := n_; clear n_; (try clear HO1014)) | ((with_reducible refine gate_dst (N := 49) rfl ?_); (try refine ug_ (by rfl) ?_); refine bx_ #[.int .i64 0, .int .i64 0, .int .i64 0, .int .i64 0, .int .i64 0, .int .u64 0, .int .i64 0, .slice none 0 0] 29 ?_; intro gb1029 hg w311 BK1029 hb; have GW1029 := bz_ w hg; replace HO1024 := rb_ HO1024 hb; replace HO1027 := rb_ HO1027 hb; replace HB := bs_ w hb; clear hb hg; replace hc1029 := ce8_ BK1029; obtain ⟨Ao313, co313, eo313⟩ := Kd.R_slice HO1024.out; subst eo313) | ((with_reducible refine gate_dst (N := 370) rfl ?_); (try refine ug_ (by rfl) ?_); refine Kd.R_make k31 _ 31 rfl (N := 370) rfl 44 _ _ rfl 101 rfl rfl Try.underlying44 (.agg #[(.int .u8 0), (.int .i64 0), (.int .u64 0), (.int .i64 0)]) 32 info31 rfl (by decide) (by omega) z31 (ok := fun _ => True) (okp := fun _ => True) (k31_mkM _ _ _ z31 ) (fun _ hk => hk) trivial (by omega) (by omega) (Below.refl _ _) (Nat.le_refl _) ?_; intro v1031 w314 ho315 hb hg_ hnew_; clear hg_ hnew_; (first | rw [← Ny1030.out] at ho315 | (simp only [Int.reduceToNat] at ho315; rw [← Ny1030.out] at ho315)); have HO1032 := Aside0.mk (Kd.R_lower ho315 (below_size bh_)); replace HO1024 := Aside0.mk (Kd.R_below (by (with_reducible repeat (first | apply Kd.R_alloc | apply Kd.R_drewN | apply Kd.R_drew)); exact (Kd.R_mono (rf8_ (g := gb1029) (Kd.R_types HO1024.out BK1029.out (by decide)) (fun _ hk => hk.2)) (fun _ h_ => h_.1))) hb); replace HO1027 := Aside0.mk (Kd.R_below (by (with_reducible repeat (first | apply Kd.R_alloc | apply Kd.R_drewN | apply Kd.R_drew)); exact (Kd.R_mono (rf8_ (g := gb1029) (Kd.R_types HO1027.out BK1029.out (by decide)) (fun _ hk => hk.2)) (fun _ h_ => h_.1))) hb); replace BK1029 := Aside0.mk (blk_below (g := gb1029) (o := .cells #[.int .i64 t1015, .int .i64 t1016, .int .i64 t1017, .int .i64 t1018, .int .i64 t1019, .int .u64 t1020, .int .i64 t1021, .slice Ao313 t1022.length co313] 29 (0, 0)) (bp8_ (bq_ BK1029)) hb); replace HB := bs_ w hb; clear hb ho315; obtain ⟨Ao316, co316, eo316⟩ := Kd.R_slice HO1032.out; subst eo316) | ((with_reducible refine gate_callee (f := 19) rfl ?_); (try refine ug_ (by rfl) ?_); refine goesA_ (some 371) Try.func19 #[.slice Ao316 y1030.length co316, .slice none 0 0] ?_; (refine (lease_Spent.calls k1 _ _ y1030 _ _ ([] : List Int) t1033 t1034 _ ?side1 ?side2 ?side3 ?side4 A186.out).mono ?_); (case side1 => exact cr_ HO1032); (case side2 => exact (Kd.R_reads' HO1032.out).2.1); (case side3 => exact Kd.C_nil _ _); (case side4 => exact Nat.le_refl _); rintro e w317 ⟨rfl, hb⟩; refine ⟨_, rfl, ?_⟩; replace HO1024 := rb_ HO1024 hb; replace HO1027 := rb_ HO1027 hb; replace HO1032 := rb_ HO1032 hb; replace BK1029 := bb_ BK1029 hb; replace HB := bs_ w hb; clear hb; (try clear HO1032)) | ((with_reducible refine gate_dst (N := 376) rfl ?_); (try refine ug_ (by rfl) ?_); refine Kd.R_lit k31 _ 31 ?hg (N := 376) ?hd (xs := ([(⟨0, 0, 0, 0⟩ : S31)] : List (S31))) (inner := [.int .u8 0, .int .i64 0, .int .u64 0, .int .i64 0]) (ok := fun _ => True) (okp := fun _ => True) ?hr ?hp (fun _ hk => hk) trivial (Below.refl _ _) (Nat.le_refl _) (by simp) ?_; (case hd => rfl); (case hg => rfl); (case hr => first | (go_simp; done) | (go_simp; rfl)); (case hp => exact (Reps.c4 (show Kd.M k31 _ _ _ (⟨0, 0, 0, 0⟩ : S31) [.int .u8 0, .int .i64 0, .int .u64 0, .int .i64 0] from (k31_mkM _ _ _ (⟨0, 0, 0, 0⟩ : S31) )) (Reps.none _ _))); intro v1036 w318 ho319 hb hg_ hnew_; clear hg_ hnew_; (first | rw [← Ny1035.out] at ho319 | (simp only [Int.reduceToNat] at ho319; rw [← Ny1035.out] at ho319)); have HO1037 := Aside0.mk (Kd.R_lower ho319 (below_size bh_)); replace HO1024 := rb_ HO1024 hb; replace HO1027 := rb_ HO1027 hb; replace BK1029 := bb_ BK1029 hb; replace HB := bs_ w hb; clear hb ho319; obtain ⟨Ao320, co320, eo320⟩ := Kd.R_slice HO1037.out; subst eo320) | ((with_reducible refine gate_callee (f := 19) rfl ?_); (try refine ug_ (by rfl) ?_); refine goesA_ (some 377) Try.func19 #[.slice Ao320 y1035.length co320, .slice none 0 0] ?_; (refine (lease_Spent.calls k1 _ _ y1035 _ _ ([] : List Int) t1038 t1039 _ ?side1 ?side2 ?side3 ?side4 A187.out).mono ?_); (case side1 => exact cr_ HO1037); (case side2 => exact (Kd.R_reads' HO1037.out).2.1); (case side3 => exact Kd.C_nil _ _); (case side4 => exact Nat.le_refl _); rintro e w321 ⟨rfl, hb⟩; refine ⟨_, rfl, ?_⟩; replace HO1024 := rb_ HO1024 hb; replace HO1027 := rb_ HO1027 hb; replace HO1037 := rb_ HO1037 hb; replace BK1029 := bb_ BK1029 hb; replace HB := bs_ w hb; clear hb; (try clear HO1037)) | ((with_reducible refine gate_dst (N := 382) rfl ?_); (try refine ug_ (by rfl) ?_); refine Kd.R_lit k31 _ 31 ?hg (N := 382) ?hd (xs := ([(⟨2, 0, 0, 3⟩ : S31)] : List (S31))) (inner := [.int .u8 2, .int .i64 0, .int .u64 0, .int .i64 3]) (ok := fun _ => True) (okp := fun _ => True) ?hr ?hp (fun _ hk => hk) trivial (Below.refl _ _) (Nat.le_refl _) (by simp) ?_; (case hd => rfl); (case hg => rfl); (case hr => first | (go_simp; done) | (go_simp; rfl)); (case hp => exact (Reps.c4 (show Kd.M k31 _ _ _ (⟨2, 0, 0, 3⟩ : S31) [.int .u8 2, .int .i64 0, .int .u64 0, .int .i64 3] from (k31_mkM _ _ _ (⟨2, 0, 0, 3⟩ : S31) )) (Reps.none _ _))); intro v1041 w322 ho323 hb hg_ hnew_; clear hg_ hnew_; (first | rw [← Ny1040.out] at ho323 | (simp only [Int.reduceToNat] at ho323; rw [← Ny1040.out] at ho323)); have HO1042 := Aside0.mk (Kd.R_lower ho323 (below_size bh_)); replace HO1024 := rb_ HO1024 hb; replace HO1027 := rb_ HO1027 hb; replace BK1029 := bb_ BK1029 hb; replace HB := bs_ w hb; clear hb ho323) | ((with_reducible refine gate_dst (N := 383) rfl ?_); (try refine ug_ (by rfl) ?_); refine Kd.R_lit (Kd.int .i64) _ 2 ?hg (N := 383) ?hd (xs := ([2] : List Int)) (inner := [.int .i64 2]) (ok := fun _ => True) (okp := fun _ => True) ?hr ?hp (fun _ hk => hk) trivial (Below.refl _ _) (Nat.le_refl _) (by simp) ?_; (case hd => rfl); (case hg => rfl); (case hr => first | (go_simp; done) | (go_simp; rfl)); (case hp => exact (Reps.one (show Kd.M (Kd.int .i64) _ _ _ 2 [.int .i64 2] from rfl) (Reps.none _ _))); intro v1044 w324 ho325 hb hg_ hnew_; clear hg_ hnew_; (first | rw [← Ny1043.out] at ho325 | (simp only [Int.reduceToNat] at ho325; rw [← Ny1043.out] at ho325)); have HO1045 := Aside0.mk (Kd.R_lower (Kd.R_new' (Kd.R_new' ho325 (Kd.R_lt (rs_ HO1024))) (Kd.R_lt (rs_ HO1027))) (below_size bh_)); replace HO1024 := Aside0.mk (Kd.R_elder' (rs_ HO1024) (Kd.R_base ho325) hb); replace HO1027 := Aside0.mk (Kd.R_elder' (rs_ HO1027) (Kd.R_base ho325) hb); replace HO1042 := rb_ HO1042 hb; replace BK1029 := bb_ BK1029 hb; replace HB := bs_ w hb; clear hb ho325; obtain ⟨Ao326, co326, eo326⟩ := Kd.R_slice HO1042.out; subst eo326; obtain ⟨Ao327, co327, eo327⟩ := Kd.R_slice HO1045.out; subst eo327) | ((with_reducible refine gate_callee (f := 19) rfl ?_); (try refine ug_ (by rfl) ?_); refine goesA_ (some 384) Try.func19 #[.slice Ao326 y1040.length co326, .slice Ao327 y1043.length co327] ?_; (with_reducible refine (lease_Spent.calls k1 _ _ y1040 _ _ y1043 t1046 t1047 _ ?side1 ?side2 ?side3 ?side4 A188.out).mono ?_); (case side1 => exact cr_ HO1042); (case side2 => exact (Kd.R_reads' HO1042.out).2.1); (case side3 => exact cr_ HO1045); (case side4 => exact (Kd.R_reads' HO1045.out).2.1); rintro e w328 ⟨rfl, hb⟩; refine ⟨_, rfl, ?_⟩; replace HO1024 := rb_ HO1024 hb; replace HO1027 := rb_ HO1027 hb; replace HO1042 := rb_ HO1042 hb; replace HO1045 := rb_ HO1045 hb; replace BK1029 := bb_ BK1029 hb; replace HB := bs_ w hb; clear hb; have n_ := Aside0.mk (Kd.R_mono (ok' := (fun k_ => some k_ ≠ (v1026 : Value).ownBlock)) HO1024.out (fun k_ hk => hk.1)); clear HO1024; have HO1024 := n_; clear n_; have n_ := Aside0.mk (Kd.R_mono (ok' := (fun k_ => some k_ ≠ (.slice Ao313 t1022.length co313 : Value).ownBlock)) HO1027.out (fun k_ hk => hk.1)); clear HO1027; have HO1027 := n_; clear n_; (try clear HO1042 HO1045)) | ((with_reducible refine gate_dst (N := 392) rfl ?_); (try refine ug_ (by rfl) ?_); refine Kd.R_lit k31 _ 31 ?hg (N := 392) ?hd (xs := ([(⟨2, 0, 0, 3⟩ : S31), (⟨1, 9, 0, 0⟩ : S31), (⟨2, 0, 0, 4⟩ : S31), (⟨2, 0, 0, 5⟩ : S31)] : List (S31))) (inner := [.int .u8 2, .int .i64 0, .int .u64 0, .int .i64 3, .int .u8 1, .int .i64 9, .int .u64 0, .int .i64 0, .int .u8 2, .int .i64 0, .int .u64 0, .int .i64 4, .int .u8 2, .int .i64 0, .int .u64 0, .int .i64 5]) (ok := fun _ => True) (okp := fun _ => True) ?hr ?hp (fun _ hk => hk) trivial (Below.refl _ _) (Nat.le_refl _) (by simp) ?_; (case hd => rfl); (case hg => rfl); (case hr => first | (go_simp; done) | (go_simp; rfl)); (case hp => exact (Reps.c4 (show Kd.M k31 _ _ _ (⟨2, 0, 0, 3⟩ : S31) [.int .u8 2, .int .i64 0, .int .u64 0, .int .i64 3] from (k31_mkM _ _ _ (⟨2, 0, 0, 3⟩ : S31) )) (Reps.c4 (show Kd.M k31 _ _ _ (⟨1, 9, 0, 0⟩ : S31) [.int .u8 1, .int .i64 9, .int .u64 0, .int .i64 0] from (k31_mkM _ _ _ (⟨1, 9, 0, 0⟩ : S31) )) (Reps.c4 (show Kd.M k31 _ _ _ (⟨2, 0, 0, 4⟩ : S31) [.int .u8 2, .int .i64 0, .int .u64 0, .int .i64 4] from (k31_mkM _ _ _ (⟨2, 0, 0, 4⟩ : S31) )) (Reps.c4 (show Kd.M k31 _ _ _ (⟨2, 0, 0, 5⟩ : S31) [.int .u8 2, .int .i64 0, .int .u64 0, .int .i64 5] from (k31_mkM _ _ _ (⟨2, 0, 0, 5⟩ : S31) )) (Reps.none _ _)))))); intro v1049 w329 ho330 hb hg_ hnew_; clear hg_ hnew_; (first | rw [← Ny1048.out] at ho330 | (simp only [Int.reduceToNat] at ho330; rw [← Ny1048.out] at ho330)); have HO1050 := Aside0.mk (Kd.R_lower ho330 (below_size bh_)); replace HO1024 := rb_ HO1024 hb; replace HO1027 := rb_ HO1027 hb; replace BK1029 := bb_ BK1029 hb; replace HB := bs_ w hb; clear hb ho330) | ((with_reducible refine gate_dst (N := 393) rfl ?_); (try refine ug_ (by rfl) ?_); refine Kd.R_lit (Kd.int .i64) _ 2 ?hg (N := 393) ?hd (xs := ([3, 77, (-1), 5] : List Int)) (inner := [.int .i64 3, .int .i64 77, .int .i64 (-1), .int .i64 5]) (ok := fun _ => True) (okp := fun _ => True) ?hr ?hp (fun _ hk => hk) trivial (Below.refl _ _) (Nat.le_refl _) (by simp) ?_; (case hd => rfl); (case hg => rfl); (case hr => first | (go_simp; done) | (go_simp; rfl)); (case hp => exact (Reps.one (show Kd.M (Kd.int .i64) _ _ _ 3 [.int .i64 3] from rfl) (Reps.one (show Kd.M (Kd.int .i64) _ _ _ 77 [.int .i64 77] from rfl) (Reps.one (show Kd.M (Kd.int .i64) _ _ _ (-1) [.int .i64 (-1)] from rfl) (Reps.one (show Kd.M (Kd.int .i64) _ _ _ 5 [.int .i64 5] from rfl) (Reps.none _ _)))))); intro v1052 w331 ho332 hb hg_ hnew_; clear hg_ hnew_; (first | rw [← Ny1051.out] at ho332 | (simp only [Int.reduceToNat] at ho332; rw [← Ny1051.out] at ho332)); have HO1053 := Aside0.mk (Kd.R_lower (Kd.R_new' (Kd.R_new' ho332 (Kd.R_lt (rs_ HO1024))) (Kd.R_lt (rs_ HO1027))) (below_size bh_)); replace HO1024 := Aside0.mk (Kd.R_elder' (rs_ HO1024) (Kd.R_base ho332) hb); replace HO1027 := Aside0.mk (Kd.R_elder' (rs_ HO1027) (Kd.R_base ho332) hb); replace HO1050 := rb_ HO1050 hb; replace BK1029 := bb_ BK1029 hb; replace HB := bs_ w hb; clear hb ho332; obtain ⟨Ao333, co333, eo333⟩ := Kd.R_slice HO1050.out; subst eo333; obtain ⟨Ao334, co334, eo334⟩ := Kd.R_slice HO1053.out; subst eo334) | ((with_reducible refine gate_callee (f := 19) rfl ?_); (try refine ug_ (by rfl) ?_); refine goesA_ (some 394) Try.func19 #[.slice Ao333 y1048.length co333, .slice Ao334 y1051.length co334] ?_; (with_reducible refine (lease_Spent.calls k1 _ _ y1048 _ _ y1051 t1054 t1055 _ ?side1 ?side2 ?side3 ?side4 A189.out).mono ?_); (case side1 => exact cr_ HO1050); (case side2 => exact (Kd.R_reads' HO1050.out).2.1); (case side3 => exact cr_ HO1053); (case side4 => exact (Kd.R_reads' HO1053.out).2.1); rintro e w335 ⟨rfl, hb⟩; refine ⟨_, rfl, ?_⟩; replace HO1024 := rb_ HO1024 hb; replace HO1027 := rb_ HO1027 hb; replace HO1050 := rb_ HO1050 hb; replace HO1053 := rb_ HO1053 hb; replace BK1029 := bb_ BK1029 hb; replace HB := bs_ w hb; clear hb; have n_ := Aside0.mk (Kd.R_mono (ok' := (fun k_ => some k_ ≠ (v1026 : Value).ownBlock)) HO1024.out (fun k_ hk => hk.1)); clear HO1024; have HO1024 := n_; clear n_; have n_ := Aside0.mk (Kd.R_mono (ok' := (fun k_ => some k_ ≠ (.slice Ao313 t1022.length co313 : Value).ownBlock)) HO1027.out (fun k_ hk => hk.1)); clear HO1027; have HO1027 := n_; clear n_; (try clear HO1050 HO1053)))
     replace HO1024 := Aside0.mk (Kd.R_drew HO1024.out)
     replace HO1027 := Aside0.mk (Kd.R_drew HO1027.out)
     replace BK1029 := Aside0.mk (blk_drew BK1029.out)
     replace HB := Aside0.mk (below_drew1 HB.out)
     obtain ⟨Ao337, co337, eo337⟩ := Kd.R_slice HO1027.out
     (first | subst eo337 | (injection eo337 with f1_ f2_ f3_; have f4_ := f1_.symm; have f5_ := f3_.symm; clear f1_ f2_ f3_; subst f4_; subst f5_))
     refine ip_ (p := ?P15) ?q15; refine (
    let rec a15_ : ?P15 := by
     refine start_ (n := 45) (S := fun w' => w'.cell? ⟨gb1029, 0, none⟩ = some (.int .i64 t1015) ∧ w'.cell? ⟨gb1029, 1, none⟩ = some (.int .i64 t1016) ∧ w'.cell? ⟨gb1029, 2, none⟩ = some (.int .i64 t1017) ∧ w'.cell? ⟨gb1029, 3, none⟩ = some (.int .i64 t1018) ∧ w'.cell? ⟨gb1029, 4, none⟩ = some (.int .i64 t1019) ∧ w'.cell? ⟨gb1029, 5, none⟩ = some (.int .u64 t1020) ∧ w'.cell? ⟨gb1029, 6, none⟩ = some (.int .i64 t1021) ∧ w'.cell? ⟨gb1029, 7, none⟩ = some (.slice Ao313 t1022.length co313)) (ds := []) (bl_ 45 0) (by kernel_rfl) rfl (by kernel_rfl) ⟨(blk_cell BK1029.out 0).trans rfl, (blk_cell BK1029.out 1).trans rfl, (blk_cell BK1029.out 2).trans rfl, (blk_cell BK1029.out 3).trans rfl, (blk_cell BK1029.out 4).trans rfl, (blk_cell BK1029.out 5).trans rfl, (blk_cell BK1029.out 6).trans rfl, (blk_cell BK1029.out 7).trans rfl⟩ (fun hHeld => ?_); refine with_tabW spigotlaw42_LeaseNames.tab41 spigotlaw42_LeaseNames.bits41 (fun HT_ HW_ => ?_)
     generalize w335.drew = w336 at HO1024 HO1027 BK1029 HB hHeld ⊢
     refine pa_ 0 (some 397) (bl_ 45 1) HT_ ?_
     refine pa_ 1 (some 398) (bl_ 45 3) HT_ ?_
     refine pa_ 2 (some 399) (bl_ 45 7) HT_ ?_
     refine pa_ 3 (some 400) (bl_ 45 15) HT_ ?_
     refine pa_ 4 (some 401) (bl_ 45 31) HT_ ?_
     refine pa_ 5 (some 402) (bl_ 45 63) HT_ ?_
     refine pa_ 6 (some 403) (bl_ 45 127) HT_ ?_
     refine pa_ 7 (some 404) (bl_ 45 255) HT_ ?_
     refine pa_ 8 (some 405) (bl_ 45 511) HT_ ?_
     refine pa_ 9 (some 406) (bl_ 45 1023) HT_ ?_
     refine pa_ 10 (some 407) (bl_ 45 2047) HT_ ?_
     refine pa_ 11 (some 408) (bl_ 45 4095) HT_ ?_
     refine pa_ 12 (some 409) (bl_ 45 8191) HT_ ?_
     refine pa_ 13 (some 410) (bl_ 45 16383) HT_ ?_
     refine pa_ 14 (some 411) (bl_ 45 32767) HT_ ?_
     refine pa_ 15 (some 412) (bl_ 45 65535) HT_ ?_
     refine pa_ 16 (some 413) (bl_ 45 131071) HT_ ?_
     refine pa_ 17 (some 414) (bl_ 45 262143) HT_ ?_
     refine pa_ 18 (some 415) (bl_ 45 524287) HT_ ?_
     refine pa_ 19 (some 416) (bl_ 45 1048575) HT_ ?_
     refine ta_ 20 (some 417) (bl_ 45 2097151) HT_ HW_ hHeld ?_
     refine oa_ 21 (some 418) (bl_ 45 4194303) HT_ fun K hK => ?_
     refine goesB_ Try.func28 #[] ?_
     with_reducible refine (spigotlaw42_given.calls  t1056 t1057 t1058 t1059 t1060 t1061 t1062 t1063 _ A195.out).mono ?_
     rintro e w338 ⟨v1064, rfl, ho0, hb⟩
     refine ⟨_, rfl, ?_⟩
     have HO1065 := Aside0.mk (Kd.R_lower (Kd.R_new' (Kd.R_new' ho0 (Kd.R_lt (rs_ HO1024))) (Kd.R_lt (rs_ HO1027))) (below_size bh_))
     replace HO1024 := Aside0.mk (Kd.R_elder' (rs_ HO1024) (Kd.R_base ho0) hb)
     replace HO1027 := Aside0.mk (Kd.R_elder' (rs_ HO1027) (Kd.R_base ho0) hb)
     replace BK1029 := bb_ BK1029 hb
     replace HB := bs_ w hb
     (try clear hb)
     (try clear hb2)
     (try clear hk)
     (try clear hi)
     (try clear ho0)
     obtain ⟨Ao339, co339, eo339⟩ := Kd.R_slice HO1065.out
     (first | subst eo339 | (injection eo339 with f1_ f2_ f3_; have f4_ := f1_.symm; have f5_ := f3_.symm; clear f1_ f2_ f3_; subst f4_; subst f5_))
     refine hK.out _ _ ⟨(blk_cell BK1029.out 0).trans rfl, (blk_cell BK1029.out 1).trans rfl, (blk_cell BK1029.out 2).trans rfl, (blk_cell BK1029.out 3).trans rfl, (blk_cell BK1029.out 4).trans rfl, (blk_cell BK1029.out 5).trans rfl, (blk_cell BK1029.out 6).trans rfl, (blk_cell BK1029.out 7).trans rfl⟩ (fun hHeld => ?_)
     clear hK K
     refine nm_ (some 418) ?_
     refine oa_ 22 (some 419) (bl_ 45 8388607) HT_ fun K hK => ?_
     refine goesB_ Try.func17 #[.agg #[.int .i64 t1015, .int .i64 t1016, .int .i64 t1017, .int .i64 t1018, .int .i64 t1019, .int .u64 t1020, .int .i64 t1021, .slice Ao313 t1022.length co313], .agg #[.int .i64 t1056, .int .i64 t1057, .int .i64 t1058, .int .i64 t1059, .int .i64 t1060, .int .u64 t1061, .int .i64 t1062, .slice Ao339 t1063.length co339]] ?_
     with_reducible refine (spigotref42_Same.calls k1 t1015 t1016 t1017 t1018 t1019 t1020 t1021 _ _ t1022 t1056 t1057 t1058 t1059 t1060 t1061 t1062 _ _ t1063 true _ ?side1 ?side2 ?side3 ?side4 A196.out).mono ?_
     (case side1 => exact cr_ HO1024)
     (case side2 => exact (Kd.R_reads' HO1024.out).2.1)
     (case side3 => exact cr_ HO1065)
     (case side4 => exact (Kd.R_reads' HO1065.out).2.1)
     rintro e w340 ⟨rfl, hb⟩
     refine ⟨_, rfl, ?_⟩
     replace HO1024 := rb_ HO1024 hb
     replace HO1027 := rb_ HO1027 hb
     replace HO1065 := rb_ HO1065 hb
     replace BK1029 := bb_ BK1029 hb
     replace HB := bs_ w hb
     clear hb
     refine hK.out _ _ ⟨(blk_cell BK1029.out 0).trans rfl, (blk_cell BK1029.out 1).trans rfl, (blk_cell BK1029.out 2).trans rfl, (blk_cell BK1029.out 3).trans rfl, (blk_cell BK1029.out 4).trans rfl, (blk_cell BK1029.out 5).trans rfl, (blk_cell BK1029.out 6).trans rfl, (blk_cell BK1029.out 7).trans rfl⟩ (fun hHeld => ?_)
     clear hK K
     refine nm_ (some 419) ?_
     refine pa_ 23 (some 420) (bl_ 45 16777215) HT_ ?_
     refine pa_ 24 (some 421) (bl_ 45 33554431) HT_ ?_
     refine pa_ 25 (some 422) (bl_ 45 67108863) HT_ ?_
     refine pa_ 26 (some 423) (bl_ 45 134217727) HT_ ?_
     refine pa_ 27 (some 424) (bl_ 45 268435455) HT_ ?_
     refine pa_ 28 (some 425) (bl_ 45 536870911) HT_ ?_
     refine pa_ 29 (some 426) (bl_ 45 1073741823) HT_ ?_
     refine pa_ 30 (some 427) (bl_ 45 2147483647) HT_ ?_
     refine pa_ 31 (some 428) (bl_ 45 4294967295) HT_ ?_
     refine pa_ 32 (some 429) (bl_ 45 8589934591) HT_ ?_
     refine pa_ 33 (some 430) (bl_ 45 17179869183) HT_ ?_
     refine pa_ 34 (some 431) (bl_ 45 34359738367) HT_ ?_
     refine pa_ 35 (some 432) (bl_ 45 68719476735) HT_ ?_
     refine pa_ 36 (some 433) (bl_ 45 137438953471) HT_ ?_
     refine pa_ 37 (some 434) (bl_ 45 274877906943) HT_ ?_
     refine pa_ 38 (some 435) (bl_ 45 549755813887) HT_ ?_
     refine pa_ 39 (some 436) (bl_ 45 1099511627775) HT_ ?_
     refine pa_ 40 (some 437) (bl_ 45 2199023255551) HT_ ?_
     refine pa_ 41 (some 438) (bl_ 45 4398046511103) HT_ ?_
     refine pa_ 42 (some 439) (bl_ 45 8796093022207) HT_ ?_
     refine pa_ 43 (some 440) (bl_ 45 17592186044415) HT_ ?_
     refine pa_ 44 (some 60) (bl_ 45 35184372088831) HT_ ?_
     refine done_ (done_of HT_.out (by kernel_rfl)) ?_
     (try clear BK1029)
     (try clear HO1024 HO1027 HO1065)
     try go_wp2_with (first | (go_at_call 10; (with_reducible refine (spigotlaw42_alive.calls k1  t1067 _ A206.out).mono ?_); rintro e w341 ⟨rfl, hb⟩; replace HB := bs_ w hb; clear hb))
     go_ret
     exact fi_
    a15_)
    a14_)
    a5_)
    a4_)
    ·replace c197 := Bool.eq_false_iff.mpr c197
     subst c197
     replace H : (none) = some r := by rw [if_neg (show ¬ (false = true) by decide)] at H; exact H
     exact absurd H (by simp)
   a3_)

end Go.Proofs.Ytbfdpodlnijeoaa.X
