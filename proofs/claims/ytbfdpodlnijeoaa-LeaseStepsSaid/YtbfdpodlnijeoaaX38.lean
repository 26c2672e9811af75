-- written by xprint.py, a program of this session over the kit's print
import Derived.Test.YtbfdpodlnijeoaaX0
import Derived.Test.YtbfdpodlnijeoaaX5
import Derived.Test.YtbfdpodlnijeoaaX13
import Derived.Test.YtbfdpodlnijeoaaX14
import Derived.Test.YtbfdpodlnijeoaaX17
import Derived.Test.YtbfdpodlnijeoaaX19
import Derived.Test.YtbfdpodlnijeoaaX22
import Derived.Test.YtbfdpodlnijeoaaX24
import Derived.Test.YtbfdpodlnijeoaaX28
import Derived.Test.YtbfdpodlnijeoaaX34
import Derived.Test.YtbfdpodlnijeoaaX36
import Derived.Test.YtbfdpodlnijeoaaX37
namespace Go.Proofs.Ytbfdpodlnijeoaa.X
open Go.RowKit Go.Proofs.YtbfdpodlnijeoaaW.PrintWords Go.Proofs.YtbfdpodlnijeoaaW.PrintLast Go.Proofs.YtbfdpodlnijeoaaW.PrintMore
attribute [local go_sem] max2_int min2_int max_two min_two max_three min_three max_four min_four   -- for this text's walks alone
set_option linter.unusedVariables false
set_option linter.unusedSimpArgs false

/-! ### spigotlaw42_LeaseSteps: function 7 -/
def spigotlaw42_LeaseSteps.f (k : Nat) (a0_0 : Int) (a0_1 : Int) (a0_2 : Int) (a0_3 : Int) (a0_4 : Int) (a0_5 : Int) (a0_6 : Int) (l0_7 : List Int) (a1_0 : Int) (a1_1 : Int) (a1_2 : Int) (a1_3 : Int) (a2 : Int) : Option (Bool) := (spigotref42_Great.f a0_0 a0_1 a0_2 a0_3 a0_4 a0_5 a0_6 l0_7 ([] : List (S31))).bind fun t649 => (if t649 = true then (some true) else ((spigotref42_Twin.f a0_0 a0_1 a0_2 a0_3 a0_4 a0_5 a0_6 l0_7).bind fun bt650 => ((lease_Step.f k a0_0 a0_1 a0_2 a0_3 a0_4 a0_5 a0_6 l0_7 a1_0 a1_1 a1_2 a1_3).bind fun bt661 => ((spigotref42_Step.f k a0_0 a0_1 a0_2 a0_3 a0_4 a0_5 a0_6 l0_7 a1_0 a1_1 a1_2 a1_3).bind fun bt674 => ((lease_Out.f k a0_0 a0_1 a0_2 a0_3 a0_4 a0_5 a0_6 l0_7).bind fun bt687 => ((spigotref42_Out.f k a0_0 a0_1 a0_2 a0_3 a0_4 a0_5 a0_6 l0_7).bind fun bt689 => ((lease_Bound.f k a0_0 a0_1 a0_2 a0_3 a0_4 a0_5 a0_6 l0_7 a2).bind fun bt691 => ((spigotref42_Bound.f k a0_0 a0_1 a0_2 a0_3 a0_4 a0_5 a0_6 l0_7 a2).bind fun bt693 => ((lease_Check.f k a0_0 a0_1 a0_2 a0_3 a0_4 a0_5 a0_6 l0_7).bind fun t695 => ((spigotref42_Check.f k a0_0 a0_1 a0_2 a0_3 a0_4 a0_5 a0_6 l0_7).bind fun t696 => (if t695 = t696 then ((spigotref42_Same.f k bt661.1 bt661.2.1 bt661.2.2.1 bt661.2.2.2.1 bt661.2.2.2.2.1 bt661.2.2.2.2.2.1 bt661.2.2.2.2.2.2.1 bt661.2.2.2.2.2.2.2.1 bt674.1 bt674.2.1 bt674.2.2.1 bt674.2.2.2.1 bt674.2.2.2.2.1 bt674.2.2.2.2.2.1 bt674.2.2.2.2.2.2.1 bt674.2.2.2.2.2.2.2.1).bind fun t697 => (if t697 = true then (if bt661.2.2.2.2.2.2.2.2.1 = bt674.2.2.2.2.2.2.2.2.1 then (if bt661.2.2.2.2.2.2.2.2.2 = bt674.2.2.2.2.2.2.2.2.2 then (if bt687.1 = bt689.1 then (if bt687.2 = bt689.2 then (if bt691.1 = bt693.1 then (if bt691.2 = bt693.2 then ((spigotref42_Same.f k a0_0 a0_1 a0_2 a0_3 a0_4 a0_5 a0_6 l0_7 bt650.1 bt650.2.1 bt650.2.2.1 bt650.2.2.2.1 bt650.2.2.2.2.1 bt650.2.2.2.2.2.1 bt650.2.2.2.2.2.2.1 bt650.2.2.2.2.2.2.2).bind fun t698 => (some t698)) else (none)) else (none)) else (none)) else (none)) else (none)) else (none)) else (none))) else (none))))))))))))
theorem spigotlaw42_LeaseSteps.mono : ∀ a0 a1 a2 a3 a4 a5 a6 a7 a8 a9 a10 a11 a12 k, LeO (spigotlaw42_LeaseSteps.f k a0 a1 a2 a3 a4 a5 a6 a7 a8 a9 a10 a11 a12) (spigotlaw42_LeaseSteps.f (k + 1) a0 a1 a2 a3 a4 a5 a6 a7 a8 a9 a10 a11 a12) := by
  intro a0 a1 a2 a3 a4 a5 a6 a7 a8 a9 a10 a11 a12 k
  unfold spigotlaw42_LeaseSteps.f
  repeat' first
      | (with_reducible exact lease_Bound.mono _ _ _ _ _ _ _ _ _ _)
      | (with_reducible exact lease_Check.mono _ _ _ _ _ _ _ _ _)
      | (with_reducible exact lease_Out.mono _ _ _ _ _ _ _ _ _)
      | (with_reducible exact lease_Step.mono _ _ _ _ _ _ _ _ _ _ _ _ _)
      | (with_reducible exact spigotref42_Bound.mono _ _ _ _ _ _ _ _ _ _)
      | (with_reducible exact spigotref42_Check.mono _ _ _ _ _ _ _ _ _)
      | (with_reducible exact spigotref42_Out.mono _ _ _ _ _ _ _ _ _)
      | (with_reducible exact spigotref42_Same.mono _ _ _ _ _ _ _ _ _ _ _ _ _ _ _ _ _)
      | (with_reducible exact spigotref42_Step.mono _ _ _ _ _ _ _ _ _ _ _ _ _)
      | (with_reducible exact LeO.refl _)
      | (with_reducible exact LeO.none _)
      | (with_reducible refine LeO.ite ?_ ?_)
      | (with_reducible refine LeO.bind ?_ (fun _ => ?_))
      | exact lease_Bound.mono _ _ _ _ _ _ _ _ _ _
      | exact lease_Check.mono _ _ _ _ _ _ _ _ _
      | exact lease_Out.mono _ _ _ _ _ _ _ _ _
      | exact lease_Step.mono _ _ _ _ _ _ _ _ _ _ _ _ _
      | exact spigotref42_Bound.mono _ _ _ _ _ _ _ _ _ _
      | exact spigotref42_Check.mono _ _ _ _ _ _ _ _ _
      | exact spigotref42_Out.mono _ _ _ _ _ _ _ _ _
      | exact spigotref42_Same.mono _ _ _ _ _ _ _ _ _ _ _ _ _ _ _ _ _
      | exact spigotref42_Step.mono _ _ _ _ _ _ _ _ _ _ _ _ _
      | exact LeO.none _
      | refine LeO.ite ?_ ?_
      | refine LeO.bind ?_ (fun _ => ?_)
def spigotlaw42_LeaseSteps.T10 : Bool × List (List Nat × List Nat) := (true, [([], []), ([0], [0]), ([], []), ([2, 1], [2]), ([1, 3], [1, 3]), ([4, 3], [4]), ([5], [5]), ([5], [5]), ([6, 7, 5, 5], [5, 6, 7]), ([5, 8], [5, 8]), ([9, 8], [9]), ([10], [10]), ([10], [10]), ([11, 12, 10], [10, 11, 12]), ([10, 13], [10, 13]), ([14, 10], [14]), ([15], [15]), ([15], [15]), ([16, 17, 15], [15, 16, 17]), ([15, 18], [15, 18]), ([19, 15], [19]), ([20], [20]), ([20], [20]), ([21, 22, 20], [20, 21, 22]), ([20, 23], [20, 23]), ([24, 20], [24]), ([25], [25]), ([25], [25]), ([26, 27, 25], [25, 26, 27]), ([25, 28], [25, 28]), ([29, 25], [29]), ([30], [30]), ([30], [30]), ([31, 32, 30], [30, 31, 32]), ([30, 33], [30, 33]), ([34, 30], [34]), ([35], [35]), ([35], [35]), ([36, 37, 35], [35, 36, 37]), ([35, 38], [35, 38]), ([39, 35], [39]), ([40], [40]), ([40], [40]), ([41, 42, 40, 40], [40, 41, 42]), ([40, 43], [40, 43]), ([44, 43, 0, 1, 2, 3, 4, 5, 6, 7, 8, 9, 10, 11, 12, 13, 14, 15, 16, 17, 18, 19, 20, 21, 22, 23, 24, 25, 26, 27, 28, 29, 30, 31, 32, 33, 34, 35, 36, 37, 38, 39, 40, 41, 42, 43, 44], [44])])
def spigotlaw42_LeaseSteps.B10 : List Nat := [0, 1, 0, 7, 15, 31, 63, 63, 255, 511, 1023, 2047, 2047, 8191, 16383, 32767, 65535, 65535, 262143, 524287, 1048575, 2097151, 2097151, 8388607, 16777215, 33554431, 67108863, 67108863, 268435455, 536870911, 1073741823, 2147483647, 2147483647, 8589934591, 17179869183, 34359738367, 68719476735, 68719476735, 274877906943, 549755813887, 1099511627775, 2199023255551, 2199023255551, 8796093022207, 17592186044415, 35184372088831]
theorem spigotlaw42_LeaseSteps.tab10 : rtab .any (opsOf Try.f7 10) = spigotlaw42_LeaseSteps.T10 := by kernel_rfl
theorem spigotlaw42_LeaseSteps.bits10 : waitsOk spigotlaw42_LeaseSteps.T10.2 spigotlaw42_LeaseSteps.B10 = true := by kernel_rfl
set_option maxHeartbeats 8000000 in
set_option maxRecDepth 100000 in
theorem spigotlaw42_LeaseSteps.calls (k : Nat) (a0_0 : Int) (a0_1 : Int) (a0_2 : Int) (a0_3 : Int) (a0_4 : Int) (a0_5 : Int) (a0_6 : Int) (A0_7 : Option Addr) (c0_7 : Nat) (l0_7 : List Int) (a1_0 : Int) (a1_1 : Int) (a1_2 : Int) (a1_3 : Int) (a2 : Int) (r : Bool) (w : World) (hr0_7 : Kd.C (Kd.int .i64) w A0_7 l0_7.length l0_7) (hc0_7 : l0_7.length ≤ c0_7) (h : spigotlaw42_LeaseSteps.f k a0_0 a0_1 a0_2 a0_3 a0_4 a0_5 a0_6 l0_7 a1_0 a1_1 a1_2 a1_3 a2 = some r) :
  Calls Try.prog 7 #[.agg #[.int .i64 a0_0, .int .i64 a0_1, .int .i64 a0_2, .int .i64 a0_3, .int .i64 a0_4, .int .u64 a0_5, .int .i64 a0_6, .slice A0_7 l0_7.length c0_7], .agg #[.int .u8 a1_0, .int .i64 a1_1, .int .u64 a1_2, .int .i64 a1_3], .int .u64 a2] w fun e w' => e = .returned (.bool r) ∧ Below w.heap.size w w' := by
 have hu29 := Try.underlying29
 have hu31 := Try.underlying31
 have HR0_7 := Aside0.mk hr0_7
 have HC0_7 := Aside0.mk hc0_7
 clear hr0_7 hc0_7
 have HB := Aside0.mk (Below.refl w.heap.size w)
 have H : ((spigotref42_Great.f a0_0 a0_1 a0_2 a0_3 a0_4 a0_5 a0_6 l0_7 ([] : List (S31))).bind fun t649 => (if t649 = true then (some true) else ((spigotref42_Twin.f a0_0 a0_1 a0_2 a0_3 a0_4 a0_5 a0_6 l0_7).bind fun bt650 => ((lease_Step.f k a0_0 a0_1 a0_2 a0_3 a0_4 a0_5 a0_6 l0_7 a1_0 a1_1 a1_2 a1_3).bind fun bt661 => ((spigotref42_Step.f k a0_0 a0_1 a0_2 a0_3 a0_4 a0_5 a0_6 l0_7 a1_0 a1_1 a1_2 a1_3).bind fun bt674 => ((lease_Out.f k a0_0 a0_1 a0_2 a0_3 a0_4 a0_5 a0_6 l0_7).bind fun bt687 => ((spigotref42_Out.f k a0_0 a0_1 a0_2 a0_3 a0_4 a0_5 a0_6 l0_7).bind fun bt689 => ((lease_Bound.f k a0_0 a0_1 a0_2 a0_3 a0_4 a0_5 a0_6 l0_7 a2).bind fun bt691 => ((spigotref42_Bound.f k a0_0 a0_1 a0_2 a0_3 a0_4 a0_5 a0_6 l0_7 a2).bind fun bt693 => ((lease_Check.f k a0_0 a0_1 a0_2 a0_3 a0_4 a0_5 a0_6 l0_7).bind fun t695 => ((spigotref42_Check.f k a0_0 a0_1 a0_2 a0_3 a0_4 a0_5 a0_6 l0_7).bind fun t696 => (if t695 = t696 then ((spigotref42_Same.f k bt661.1 bt661.2.1 bt661.2.2.1 bt661.2.2.2.1 bt661.2.2.2.2.1 bt661.2.2.2.2.2.1 bt661.2.2.2.2.2.2.1 bt661.2.2.2.2.2.2.2.1 bt674.1 bt674.2.1 bt674.2.2.1 bt674.2.2.2.1 bt674.2.2.2.2.1 bt674.2.2.2.2.2.1 bt674.2.2.2.2.2.2.1 bt674.2.2.2.2.2.2.2.1).bind fun t697 => (if t697 = true then (if bt661.2.2.2.2.2.2.2.2.1 = bt674.2.2.2.2.2.2.2.2.1 then (if bt661.2.2.2.2.2.2.2.2.2 = bt674.2.2.2.2.2.2.2.2.2 then (if bt687.1 = bt689.1 then (if bt687.2 = bt689.2 then (if bt691.1 = bt693.1 then (if bt691.2 = bt693.2 then ((spigotref42_Same.f k a0_0 a0_1 a0_2 a0_3 a0_4 a0_5 a0_6 l0_7 bt650.1 bt650.2.1 bt650.2.2.1 bt650.2.2.2.1 bt650.2.2.2.2.1 bt650.2.2.2.2.2.1 bt650.2.2.2.2.2.2.1 bt650.2.2.2.2.2.2.2).bind fun t698 => (some t698)) else (none)) else (none)) else (none)) else (none)) else (none)) else (none)) else (none))) else (none))))))))))))) = some r := h
 clear h
 obtain ⟨t649, A4, H⟩ := bo_ H
 try dsimp only at H
 by_cases c5 : t649 = true
 ·subst c5
  replace H : (some true) = some r := by rw [if_pos rfl] at H; exact H
  obtain rfl := Option.some.inj H
  go_enter Try.func7, Try.ntmps7
  go_wp2_with (first | ((with_reducible refine gate_dst (N := 3) rfl ?_); (try refine ug_ (by rfl) ?_); refine bx_ #[.int .i64 a0_0, .int .i64 a0_1, .int .i64 a0_2, .int .i64 a0_3, .int .i64 a0_4, .int .u64 a0_5, .int .i64 a0_6, .slice A0_7 l0_7.length c0_7] 29 ?_; intro gb647 hg w6 BK647 hb; have GW647 := bz_ w hg; have GE647 := GW647; replace HB := bs_ w hb; clear hb hg) | ((with_reducible refine gate_dst (N := 4) rfl ?_); (try refine ug_ (by rfl) ?_); refine bx_ #[.int .u8 a1_0, .int .i64 a1_1, .int .u64 a1_2, .int .i64 a1_3] 31 ?_; intro gb648 hg w7 BK648 hb; have GW648 := bz_ w hg; have GE648 := GW648; have NB647_648 := bn_ BK647 hg; have NB648_647 := bm_ BK647 hg; replace BK647 := bb_ BK647 hb; replace HB := bs_ w hb; clear hb hg; replace hn647_648 := NB647_648.out; replace hn648_647 := NB648_647.out; replace hc647 := ce8_ BK647) | ((with_reducible refine gate_callee (f := 11) rfl ?_); (try refine ug_ (by rfl) ?_); refine goesA_ (some 23) Try.func11 #[.agg #[.int .i64 a0_0, .int .i64 a0_1, .int .i64 a0_2, .int .i64 a0_3, .int .i64 a0_4, .int .u64 a0_5, .int .i64 a0_6, .slice A0_7 l0_7.length c0_7], .slice none 0 0] ?_; (refine (spigotref42_Great.calls a0_0 a0_1 a0_2 a0_3 a0_4 a0_5 a0_6 _ _ l0_7 _ _ ([] : List (S31)) true _ ?side1 ?side2 ?side3 ?side4 A4.out).mono ?_); (case side1 => exact cs_ HR0_7 HB); (case side2 => exact HC0_7.out); (case side3 => exact Kd.C_nil _ _); (case side4 => exact Nat.le_refl _); rintro e w10 ⟨rfl, hb⟩; refine ⟨_, rfl, ?_⟩; replace BK647 := bb_ BK647 hb; replace BK648 := bb_ BK648 hb; replace HB := bs_ w hb; clear hb))
  go_ret
  exact fi_
 ·replace c5 := Bool.eq_false_iff.mpr c5
  subst c5
  rw [if_neg (show ¬ (false = true) by decide)] at H
  try dsimp only at H
  obtain ⟨⟨t650, t651, t652, t653, t654, t655, t656, t657⟩, A11, H⟩ := bo_ H
  try dsimp only at H
  obtain ⟨⟨t661, t662, t663, t664, t665, t666, t667, t668, t671, t672⟩, A12, H⟩ := bo_ H
  try dsimp only at H
  obtain ⟨⟨t674, t675, t676, t677, t678, t679, t680, t681, t684, t685⟩, A13, H⟩ := bo_ H
  try dsimp only at H
  obtain ⟨⟨t687, t688⟩, A14, H⟩ := bo_ H
  try dsimp only at H
  obtain ⟨⟨t689, t690⟩, A15, H⟩ := bo_ H
  try dsimp only at H
  obtain ⟨⟨t691, t692⟩, A16, H⟩ := bo_ H
  try dsimp only at H
  obtain ⟨⟨t693, t694⟩, A17, H⟩ := bo_ H
  try dsimp only at H
  obtain ⟨t695, A18, H⟩ := bo_ H
  try dsimp only at H
  obtain ⟨t696, A19, H⟩ := bo_ H
  try dsimp only at H
  by_cases c20 : t695 = t696
  rotate_left
  ·rw [if_neg c20] at H; exact absurd H (by simp)
  rw [if_pos c20] at H
  have c20b0 : (t695 == t696) = true := beq_iff_eq.mpr c20
  have c20b1 : (t695 != t696) = false := bne_eq_false_iff_eq.mpr c20
  clear c20
  obtain ⟨t697, A21, H⟩ := bo_ H
  try dsimp only at H
  by_cases c22 : t697 = true
  ·subst c22
   rw [if_pos rfl] at H
   try dsimp only at H
   by_cases c23 : t671 = t684
   rotate_left
   ·rw [if_neg c23] at H; exact absurd H (by simp)
   rw [if_pos c23] at H
   have c23b0 : (t671 == t684) = true := beq_iff_eq.mpr c23
   have c23b1 : (t671 != t684) = false := bne_eq_false_iff_eq.mpr c23
   clear c23
   by_cases c24 : t672 = t685
   rotate_left
   ·rw [if_neg c24] at H; exact absurd H (by simp)
   rw [if_pos c24] at H
   have c24b0 : (t672 == t685) = true := beq_iff_eq.mpr c24
   have c24b1 : (t672 != t685) = false := bne_eq_false_iff_eq.mpr c24
   clear c24
   by_cases c25 : t687 = t689
   rotate_left
   ·rw [if_neg c25] at H; exact absurd H (by simp)
   rw [if_pos c25] at H
   have c25b0 : (t687 == t689) = true := beq_iff_eq.mpr c25
   have c25b1 : (t687 != t689) = false := bne_eq_false_iff_eq.mpr c25
   clear c25
   by_cases c26 : t688 = t690
   rotate_left
   ·rw [if_neg c26] at H; exact absurd H (by simp)
   rw [if_pos c26] at H
   have c26b0 : (t688 == t690) = true := beq_iff_eq.mpr c26
   have c26b1 : (t688 != t690) = false := bne_eq_false_iff_eq.mpr c26
   clear c26
   by_cases c27 : t691 = t693
   rotate_left
   ·rw [if_neg c27] at H; exact absurd H (by simp)
   rw [if_pos c27] at H
   have c27b0 : (t691 == t693) = true := beq_iff_eq.mpr c27
   have c27b1 : (t691 != t693) = false := bne_eq_false_iff_eq.mpr c27
   clear c27
   by_cases c28 : t692 = t694
   rotate_left
   ·rw [if_neg c28] at H; exact absurd H (by simp)
   rw [if_pos c28] at H
   have c28b0 : (t692 == t694) = true := beq_iff_eq.mpr c28
   have c28b1 : (t692 != t694) = false := bne_eq_false_iff_eq.mpr c28
   clear c28
   obtain ⟨t698, A29, H⟩ := bo_ H
   replace H : (some t698) = some r := H
   obtain rfl := Option.some.inj H
   go_enter Try.func7, Try.ntmps7
   try go_wp2_with (first | ((with_reducible refine gate_dst (N := 3) rfl ?_); (try refine ug_ (by rfl) ?_); refine bx_ #[.int .i64 a0_0, .int .i64 a0_1, .int .i64 a0_2, .int .i64 a0_3, .int .i64 a0_4, .int .u64 a0_5, .int .i64 a0_6, .slice A0_7 l0_7.length c0_7] 29 ?_; intro gb647 hg w30 BK647 hb; have GW647 := bz_ w hg; have GE647 := GW647; replace HB := bs_ w hb; clear hb hg) | ((with_reducible refine gate_dst (N := 4) rfl ?_); (try refine ug_ (by rfl) ?_); refine bx_ #[.int .u8 a1_0, .int .i64 a1_1, .int .u64 a1_2, .int .i64 a1_3] 31 ?_; intro gb648 hg w31 BK648 hb; have GW648 := bz_ w hg; have GE648 := GW648; have NB647_648 := bn_ BK647 hg; have NB648_647 := bm_ BK647 hg; replace BK647 := bb_ BK647 hb; replace HB := bs_ w hb; clear hb hg; replace hn647_648 := NB647_648.out; replace hn648_647 := NB648_647.out; replace hc647 := ce8_ BK647) | ((with_reducible refine gate_callee (f := 11) rfl ?_); (try refine ug_ (by rfl) ?_); refine goesA_ (some 23) Try.func11 #[.agg #[.int .i64 a0_0, .int .i64 a0_1, .int .i64 a0_2, .int .i64 a0_3, .int .i64 a0_4, .int .u64 a0_5, .int .i64 a0_6, .slice A0_7 l0_7.length c0_7], .slice none 0 0] ?_; (refine (spigotref42_Great.calls a0_0 a0_1 a0_2 a0_3 a0_4 a0_5 a0_6 _ _ l0_7 _ _ ([] : List (S31)) false _ ?side1 ?side2 ?side3 ?side4 A4.out).mono ?_); (case side1 => exact cs_ HR0_7 HB); (case side2 => exact HC0_7.out); (case side3 => exact Kd.C_nil _ _); (case side4 => exact Nat.le_refl _); rintro e w34 ⟨rfl, hb⟩; refine ⟨_, rfl, ?_⟩; replace BK647 := bb_ BK647 hb; replace BK648 := bb_ BK648 hb; replace HB := bs_ w hb; clear hb; replace hc647 := ce8_ BK647) | ((with_reducible refine gate_callee (f := 22) rfl ?_); (try refine ug_ (by rfl) ?_); refine goesA_ (some 25) Try.func22 #[.agg #[.int .i64 a0_0, .int .i64 a0_1, .int .i64 a0_2, .int .i64 a0_3, .int .i64 a0_4, .int .u64 a0_5, .int .i64 a0_6, .slice A0_7 l0_7.length c0_7]] ?_; (with_reducible refine (spigotref42_Twin.calls a0_0 a0_1 a0_2 a0_3 a0_4 a0_5 a0_6 _ _ l0_7 t650 t651 t652 t653 t654 t655 t656 t657 _ ?side1 ?side2 A11.out).mono ?_); (case side1 => exact cs_ HR0_7 HB); (case side2 => exact HC0_7.out); rintro e w36 ⟨v658, rfl, ho0, hb⟩; refine ⟨_, rfl, ?_⟩; have HO659 := Aside0.mk (Kd.R_lower ho0 (below_size bh_)); replace BK647 := bb_ BK647 hb; replace BK648 := bb_ BK648 hb; replace HB := bs_ w hb; (try clear hb); (try clear hb2); (try clear hk); (try clear hi); (try clear ho0)) | ((with_reducible refine gate_dst (N := 7) rfl ?_); (try refine ug_ (by rfl) ?_); refine bx_ #[.int .i64 0, .int .i64 0, .int .i64 0, .int .i64 0, .int .i64 0, .int .u64 0, .int .i64 0, .slice none 0 0] 29 ?_; intro gb660 hg w37 BK660 hb; have GW660 := bz_ w hg; have NB647_660 := bn_ BK647 hg; have NB660_647 := bm_ BK647 hg; have NB648_660 := bn_ BK648 hg; have NB660_648 := bm_ BK648 hg; replace HO659 := rb_ HO659 hb; replace BK647 := bb_ BK647 hb; replace BK648 := bb_ BK648 hb; replace HB := bs_ w hb; clear hb hg; replace hn660_647 := NB660_647.out; replace hn647_660 := NB647_660.out; replace hn660_648 := NB660_648.out; replace hn648_660 := NB648_660.out; replace hc660 := ce8_ BK660; obtain ⟨Ao41, co41, eo41⟩ := Kd.R_slice HO659.out; subst eo41; replace hc647 := ce8_ BK647; replace hc648 := ce4_ BK648) | ((with_reducible refine gate_callee (f := 14) rfl ?_); (try refine ug_ (by rfl) ?_); refine goesA_ (some 29) Try.func14 #[.agg #[.int .i64 a0_0, .int .i64 a0_1, .int .i64 a0_2, .int .i64 a0_3, .int .i64 a0_4, .int .u64 a0_5, .int .i64 a0_6, .slice A0_7 l0_7.length c0_7], .agg #[.int .u8 a1_0, .int .i64 a1_1, .int .u64 a1_2, .int .i64 a1_3]] ?_; (with_reducible refine (lease_Step.calls k a0_0 a0_1 a0_2 a0_3 a0_4 a0_5 a0_6 _ _ l0_7 a1_0 a1_1 a1_2 a1_3 t661 t662 t663 t664 t665 t666 t667 t668 t671 t672 _ ?side1 ?side2 A12.out).mono ?_); (case side1 => exact Kd.C_below HR0_7.out bh_); (case side2 => exact HC0_7.out); rintro e w44 ⟨v669, rfl, ho0, hb⟩; refine ⟨_, rfl, ?_⟩; have HO670 := Aside0.mk (Kd.R_lower (Kd.R_new' ho0 (Kd.R_lt (by (with_reducible repeat (first | apply Kd.R_alloc | apply Kd.R_drewN | apply Kd.R_drew)); exact (Kd.R_mono (Kd.R_far (p := ⟨gb660, 7, none⟩) (Kd.R_far (p := ⟨gb660, 6, none⟩) (Kd.R_far (p := ⟨gb660, 5, none⟩) (Kd.R_far (p := ⟨gb660, 4, none⟩) (Kd.R_far (p := ⟨gb660, 3, none⟩) (Kd.R_far (p := ⟨gb660, 2, none⟩) (Kd.R_far (p := ⟨gb660, 1, none⟩) (Kd.R_far (p := ⟨gb660, 0, none⟩) (Kd.R_types HO659.out BK660.out (by decide)) (fun _ hk => hk.2) (.int .i64 t650)) (fun _ hk => hk.2) (.int .i64 t651)) (fun _ hk => hk.2) (.int .i64 t652)) (fun _ hk => hk.2) (.int .i64 t653)) (fun _ hk => hk.2) (.int .i64 t654)) (fun _ hk => hk.2) (.int .u64 t655)) (fun _ hk => hk.2) (.int .i64 t656)) (fun _ hk => hk.2) (.slice Ao41 t657.length co41)) (fun _ h_ => h_.1))))) (below_size bh_)); replace HO659 := Aside0.mk (Kd.R_elder' (by (with_reducible repeat (first | apply Kd.R_alloc | apply Kd.R_drewN | apply Kd.R_drew)); exact (Kd.R_mono (Kd.R_far (p := ⟨gb660, 7, none⟩) (Kd.R_far (p := ⟨gb660, 6, none⟩) (Kd.R_far (p := ⟨gb660, 5, none⟩) (Kd.R_far (p := ⟨gb660, 4, none⟩) (Kd.R_far (p := ⟨gb660, 3, none⟩) (Kd.R_far (p := ⟨gb660, 2, none⟩) (Kd.R_far (p := ⟨gb660, 1, none⟩) (Kd.R_far (p := ⟨gb660, 0, none⟩) (Kd.R_types HO659.out BK660.out (by decide)) (fun _ hk => hk.2) (.int .i64 t650)) (fun _ hk => hk.2) (.int .i64 t651)) (fun _ hk => hk.2) (.int .i64 t652)) (fun _ hk => hk.2) (.int .i64 t653)) (fun _ hk => hk.2) (.int .i64 t654)) (fun _ hk => hk.2) (.int .u64 t655)) (fun _ hk => hk.2) (.int .i64 t656)) (fun _ hk => hk.2) (.slice Ao41 t657.length co41)) (fun _ h_ => h_.1))) (Kd.R_base ho0) hb); replace BK647 := bf_ BK647 hb; replace BK648 := bf_ BK648 hb; replace BK660 := Aside0.mk (blk_below (g := gb660) (o := .cells #[.int .i64 t650, .int .i64 t651, .int .i64 t652, .int .i64 t653, .int .i64 t654, .int .u64 t655, .int .i64 t656, .slice Ao41 t657.length co41] 29 (0, 0)) (blk_put (cs := #[.int .i64 t650, .int .i64 t651, .int .i64 t652, .int .i64 t653, .int .i64 t654, .int .u64 t655, .int .i64 t656, .slice none 0 0]) (blk_put (cs := #[.int .i64 t650, .int .i64 t651, .int .i64 t652, .int .i64 t653, .int .i64 t654, .int .u64 t655, .int .i64 0, .slice none 0 0]) (blk_put (cs := #[.int .i64 t650, .int .i64 t651, .int .i64 t652, .int .i64 t653, .int .i64 t654, .int .u64 0, .int .i64 0, .slice none 0 0]) (blk_put (cs := #[.int .i64 t650, .int .i64 t651, .int .i64 t652, .int .i64 t653, .int .i64 0, .int .u64 0, .int .i64 0, .slice none 0 0]) (blk_put (cs := #[.int .i64 t650, .int .i64 t651, .int .i64 t652, .int .i64 0, .int .i64 0, .int .u64 0, .int .i64 0, .slice none 0 0]) (blk_put (cs := #[.int .i64 t650, .int .i64 t651, .int .i64 0, .int .i64 0, .int .i64 0, .int .u64 0, .int .i64 0, .slice none 0 0]) (blk_put (cs := #[.int .i64 t650, .int .i64 0, .int .i64 0, .int .i64 0, .int .i64 0, .int .u64 0, .int .i64 0, .slice none 0 0]) (blk_put (cs := #[.int .i64 0, .int .i64 0, .int .i64 0, .int .i64 0, .int .i64 0, .int .u64 0, .int .i64 0, .slice none 0 0]) (bq_ BK660) 0 _ rfl) 1 _ rfl) 2 _ rfl) 3 _ rfl) 4 _ rfl) 5 _ rfl) 6 _ rfl) 7 _ rfl) hb); replace HB := bs_ w hb; (try clear hb); (try clear hb2); (try clear hk); (try clear hi); (try clear ho0)) | ((with_reducible refine gate_dst (N := 8) rfl ?_); (try refine ug_ (by rfl) ?_); refine bx_ #[.int .i64 0, .int .i64 0, .int .i64 0, .int .i64 0, .int .i64 0, .int .u64 0, .int .i64 0, .slice none 0 0] 29 ?_; intro gb673 hg w45 BK673 hb; have GW673 := bz_ w hg; have NB647_673 := bn_ BK647 hg; have NB673_647 := bm_ BK647 hg; have NB648_673 := bn_ BK648 hg; have NB673_648 := bm_ BK648 hg; have NB660_673 := bn_ BK660 hg; have NB673_660 := bm_ BK660 hg; replace HO659 := rb_ HO659 hb; replace HO670 := rb_ HO670 hb; replace BK647 := bb_ BK647 hb; replace BK648 := bb_ BK648 hb; replace BK660 := bb_ BK660 hb; replace HB := bs_ w hb; clear hb hg; replace hn673_647 := NB673_647.out; replace hn647_673 := NB647_673.out; replace hn673_648 := NB673_648.out; replace hn648_673 := NB648_673.out; replace hn673_660 := NB673_660.out; replace hn660_673 := NB660_673.out; replace hc673 := ce8_ BK673; obtain ⟨Ao50, co50, eo50⟩ := Kd.R_slice HO670.out; subst eo50; replace hc647 := ce8_ BK647; replace hc648 := ce4_ BK648) | ((with_reducible refine gate_callee (f := 23) rfl ?_); (try refine ug_ (by rfl) ?_); refine goesA_ (some 36) Try.func23 #[.agg #[.int .i64 a0_0, .int .i64 a0_1, .int .i64 a0_2, .int .i64 a0_3, .int .i64 a0_4, .int .u64 a0_5, .int .i64 a0_6, .slice A0_7 l0_7.length c0_7], .agg #[.int .u8 a1_0, .int .i64 a1_1, .int .u64 a1_2, .int .i64 a1_3]] ?_; (with_reducible refine (spigotref42_Step.calls k a0_0 a0_1 a0_2 a0_3 a0_4 a0_5 a0_6 _ _ l0_7 a1_0 a1_1 a1_2 a1_3 t674 t675 t676 t677 t678 t679 t680 t681 t684 t685 _ ?side1 ?side2 A13.out).mono ?_); (case side1 => exact Kd.C_below HR0_7.out bh_); (case side2 => exact HC0_7.out); rintro e w53 ⟨v682, rfl, ho0, hb⟩; refine ⟨_, rfl, ?_⟩; have HO683 := Aside0.mk (Kd.R_lower (Kd.R_new' (Kd.R_new' ho0 (Kd.R_lt (by (with_reducible repeat (first | apply Kd.R_alloc | apply Kd.R_drewN | apply Kd.R_drew)); exact (Kd.R_mono (Kd.R_far (p := ⟨gb673, 7, none⟩) (Kd.R_far (p := ⟨gb673, 6, none⟩) (Kd.R_far (p := ⟨gb673, 5, none⟩) (Kd.R_far (p := ⟨gb673, 4, none⟩) (Kd.R_far (p := ⟨gb673, 3, none⟩) (Kd.R_far (p := ⟨gb673, 2, none⟩) (Kd.R_far (p := ⟨gb673, 1, none⟩) (Kd.R_far (p := ⟨gb673, 0, none⟩) (Kd.R_types HO659.out BK673.out (by decide)) (fun _ hk => hk.2) (.int .i64 t661)) (fun _ hk => hk.2) (.int .i64 t662)) (fun _ hk => hk.2) (.int .i64 t663)) (fun _ hk => hk.2) (.int .i64 t664)) (fun _ hk => hk.2) (.int .i64 t665)) (fun _ hk => hk.2) (.int .u64 t666)) (fun _ hk => hk.2) (.int .i64 t667)) (fun _ hk => hk.2) (.slice Ao50 t668.length co50)) (fun _ h_ => h_.1))))) (Kd.R_lt (by (with_reducible repeat (first | apply Kd.R_alloc | apply Kd.R_drewN | apply Kd.R_drew)); exact (Kd.R_mono (Kd.R_far (p := ⟨gb673, 7, none⟩) (Kd.R_far (p := ⟨gb673, 6, none⟩) (Kd.R_far (p := ⟨gb673, 5, none⟩) (Kd.R_far (p := ⟨gb673, 4, none⟩) (Kd.R_far (p := ⟨gb673, 3, none⟩) (Kd.R_far (p := ⟨gb673, 2, none⟩) (Kd.R_far (p := ⟨gb673, 1, none⟩) (Kd.R_far (p := ⟨gb673, 0, none⟩) (Kd.R_types HO670.out BK673.out (by decide)) (fun _ hk => hk.2) (.int .i64 t661)) (fun _ hk => hk.2) (.int .i64 t662)) (fun _ hk => hk.2) (.int .i64 t663)) (fun _ hk => hk.2) (.int .i64 t664)) (fun _ hk => hk.2) (.int .i64 t665)) (fun _ hk => hk.2) (.int .u64 t666)) (fun _ hk => hk.2) (.int .i64 t667)) (fun _ hk => hk.2) (.slice Ao50 t668.length co50)) (fun _ h_ => h_.1))))) (below_size bh_)); replace HO659 := Aside0.mk (Kd.R_elder' (by (with_reducible repeat (first | apply Kd.R_alloc | apply Kd.R_drewN | apply Kd.R_drew)); exact (Kd.R_mono (Kd.R_far (p := ⟨gb673, 7, none⟩) (Kd.R_far (p := ⟨gb673, 6, none⟩) (Kd.R_far (p := ⟨gb673, 5, none⟩) (Kd.R_far (p := ⟨gb673, 4, none⟩) (Kd.R_far (p := ⟨gb673, 3, none⟩) (Kd.R_far (p := ⟨gb673, 2, none⟩) (Kd.R_far (p := ⟨gb673, 1, none⟩) (Kd.R_far (p := ⟨gb673, 0, none⟩) (Kd.R_types HO659.out BK673.out (by decide)) (fun _ hk => hk.2) (.int .i64 t661)) (fun _ hk => hk.2) (.int .i64 t662)) (fun _ hk => hk.2) (.int .i64 t663)) (fun _ hk => hk.2) (.int .i64 t664)) (fun _ hk => hk.2) (.int .i64 t665)) (fun _ hk => hk.2) (.int .u64 t666)) (fun _ hk => hk.2) (.int .i64 t667)) (fun _ hk => hk.2) (.slice Ao50 t668.length co50)) (fun _ h_ => h_.1))) (Kd.R_base ho0) hb); replace HO670 := Aside0.mk (Kd.R_elder' (by (with_reducible repeat (first | apply Kd.R_alloc | apply Kd.R_drewN | apply Kd.R_drew)); exact (Kd.R_mono (Kd.R_far (p := ⟨gb673, 7, none⟩) (Kd.R_far (p := ⟨gb673, 6, none⟩) (Kd.R_far (p := ⟨gb673, 5, none⟩) (Kd.R_far (p := ⟨gb673, 4, none⟩) (Kd.R_far (p := ⟨gb673, 3, none⟩) (Kd.R_far (p := ⟨gb673, 2, none⟩) (Kd.R_far (p := ⟨gb673, 1, none⟩) (Kd.R_far (p := ⟨gb673, 0, none⟩) (Kd.R_types HO670.out BK673.out (by decide)) (fun _ hk => hk.2) (.int .i64 t661)) (fun _ hk => hk.2) (.int .i64 t662)) (fun _ hk => hk.2) (.int .i64 t663)) (fun _ hk => hk.2) (.int .i64 t664)) (fun _ hk => hk.2) (.int .i64 t665)) (fun _ hk => hk.2) (.int .u64 t666)) (fun _ hk => hk.2) (.int .i64 t667)) (fun _ hk => hk.2) (.slice Ao50 t668.length co50)) (fun _ h_ => h_.1))) (Kd.R_base ho0) hb); replace BK647 := bf_ BK647 hb; replace BK648 := bf_ BK648 hb; replace BK660 := bf_ BK660 hb; replace BK673 := Aside0.mk (blk_below (g := gb673) (o := .cells #[.int .i64 t661, .int .i64 t662, .int .i64 t663, .int .i64 t664, .int .i64 t665, .int .u64 t666, .int .i64 t667, .slice Ao50 t668.length co50] 29 (0, 0)) (blk_put (cs := #[.int .i64 t661, .int .i64 t662, .int .i64 t663, .int .i64 t664, .int .i64 t665, .int .u64 t666, .int .i64 t667, .slice none 0 0]) (blk_put (cs := #[.int .i64 t661, .int .i64 t662, .int .i64 t663, .int .i64 t664, .int .i64 t665, .int .u64 t666, .int .i64 0, .slice none 0 0]) (blk_put (cs := #[.int .i64 t661, .int .i64 t662, .int .i64 t663, .int .i64 t664, .int .i64 t665, .int .u64 0, .int .i64 0, .slice none 0 0]) (blk_put (cs := #[.int .i64 t661, .int .i64 t662, .int .i64 t663, .int .i64 t664, .int .i64 0, .int .u64 0, .int .i64 0, .slice none 0 0]) (blk_put (cs := #[.int .i64 t661, .int .i64 t662, .int .i64 t663, .int .i64 0, .int .i64 0, .int .u64 0, .int .i64 0, .slice none 0 0]) (blk_put (cs := #[.int .i64 t661, .int .i64 t662, .int .i64 0, .int .i64 0, .int .i64 0, .int .u64 0, .int .i64 0, .slice none 0 0]) (blk_put (cs := #[.int .i64 t661, .int .i64 0, .int .i64 0, .int .i64 0, .int .i64 0, .int .u64 0, .int .i64 0, .slice none 0 0]) (blk_put (cs := #[.int .i64 0, .int .i64 0, .int .i64 0, .int .i64 0, .int .i64 0, .int .u64 0, .int .i64 0, .slice none 0 0]) (bq_ BK673) 0 _ rfl) 1 _ rfl) 2 _ rfl) 3 _ rfl) 4 _ rfl) 5 _ rfl) 6 _ rfl) 7 _ rfl) hb); replace HB := bs_ w hb; (try clear hb); (try clear hb2); (try clear hk); (try clear hi); (try clear ho0)) | ((with_reducible refine gate_dst (N := 11) rfl ?_); (try refine ug_ (by rfl) ?_); refine bx_ #[.int .i64 0, .int .i64 0, .int .i64 0, .int .i64 0, .int .i64 0, .int .u64 0, .int .i64 0, .slice none 0 0] 29 ?_; intro gb686 hg w54 BK686 hb; have GW686 := bz_ w hg; have NB647_686 := bn_ BK647 hg; have NB686_647 := bm_ BK647 hg; have NB648_686 := bn_ BK648 hg; have NB686_648 := bm_ BK648 hg; have NB660_686 := bn_ BK660 hg; have NB686_660 := bm_ BK660 hg; have NB673_686 := bn_ BK673 hg; have NB686_673 := bm_ BK673 hg; replace HO659 := rb_ HO659 hb; replace HO670 := rb_ HO670 hb; replace HO683 := rb_ HO683 hb; replace BK647 := bb_ BK647 hb; replace BK648 := bb_ BK648 hb; replace BK660 := bb_ BK660 hb; replace BK673 := bb_ BK673 hb; replace HB := bs_ w hb; clear hb hg; replace hn686_647 := NB686_647.out; replace hn647_686 := NB647_686.out; replace hn686_648 := NB686_648.out; replace hn648_686 := NB648_686.out; replace hn686_660 := NB686_660.out; replace hn660_686 := NB660_686.out; replace hn686_673 := NB686_673.out; replace hn673_686 := NB673_686.out; replace hc686 := ce8_ BK686; obtain ⟨Ao60, co60, eo60⟩ := Kd.R_slice HO683.out; subst eo60; replace hc647 := ce8_ BK647) | ((with_reducible refine gate_callee (f := 15) rfl ?_); (try refine ug_ (by rfl) ?_); refine goesA_ (some 42) Try.func15 #[.agg #[.int .i64 a0_0, .int .i64 a0_1, .int .i64 a0_2, .int .i64 a0_3, .int .i64 a0_4, .int .u64 a0_5, .int .i64 a0_6, .slice A0_7 l0_7.length c0_7]] ?_; (with_reducible refine (lease_Out.calls k a0_0 a0_1 a0_2 a0_3 a0_4 a0_5 a0_6 _ _ l0_7 t687 t688 _ ?side1 ?side2 A14.out).mono ?_); (case side1 => exact Kd.C_below HR0_7.out bh_); (case side2 => exact HC0_7.out); rintro e w62 ⟨rfl, hb⟩; refine ⟨_, rfl, ?_⟩; replace HO659 := Aside0.mk (Kd.R_below (by (with_reducible repeat (first | apply Kd.R_alloc | apply Kd.R_drewN | apply Kd.R_drew)); exact (Kd.R_mono (Kd.R_far (p := ⟨gb686, 7, none⟩) (Kd.R_far (p := ⟨gb686, 6, none⟩) (Kd.R_far (p := ⟨gb686, 5, none⟩) (Kd.R_far (p := ⟨gb686, 4, none⟩) (Kd.R_far (p := ⟨gb686, 3, none⟩) (Kd.R_far (p := ⟨gb686, 2, none⟩) (Kd.R_far (p := ⟨gb686, 1, none⟩) (Kd.R_far (p := ⟨gb686, 0, none⟩) (Kd.R_types HO659.out BK686.out (by decide)) (fun _ hk => hk.2) (.int .i64 t674)) (fun _ hk => hk.2) (.int .i64 t675)) (fun _ hk => hk.2) (.int .i64 t676)) (fun _ hk => hk.2) (.int .i64 t677)) (fun _ hk => hk.2) (.int .i64 t678)) (fun _ hk => hk.2) (.int .u64 t679)) (fun _ hk => hk.2) (.int .i64 t680)) (fun _ hk => hk.2) (.slice Ao60 t681.length co60)) (fun _ h_ => h_.1))) hb); replace HO670 := Aside0.mk (Kd.R_below (by (with_reducible repeat (first | apply Kd.R_alloc | apply Kd.R_drewN | apply Kd.R_drew)); exact (Kd.R_mono (Kd.R_far (p := ⟨gb686, 7, none⟩) (Kd.R_far (p := ⟨gb686, 6, none⟩) (Kd.R_far (p := ⟨gb686, 5, none⟩) (Kd.R_far (p := ⟨gb686, 4, none⟩) (Kd.R_far (p := ⟨gb686, 3, none⟩) (Kd.R_far (p := ⟨gb686, 2, none⟩) (Kd.R_far (p := ⟨gb686, 1, none⟩) (Kd.R_far (p := ⟨gb686, 0, none⟩) (Kd.R_types HO670.out BK686.out (by decide)) (fun _ hk => hk.2) (.int .i64 t674)) (fun _ hk => hk.2) (.int .i64 t675)) (fun _ hk => hk.2) (.int .i64 t676)) (fun _ hk => hk.2) (.int .i64 t677)) (fun _ hk => hk.2) (.int .i64 t678)) (fun _ hk => hk.2) (.int .u64 t679)) (fun _ hk => hk.2) (.int .i64 t680)) (fun _ hk => hk.2) (.slice Ao60 t681.length co60)) (fun _ h_ => h_.1))) hb); replace HO683 := Aside0.mk (Kd.R_below (by (with_reducible repeat (first | apply Kd.R_alloc | apply Kd.R_drewN | apply Kd.R_drew)); exact (Kd.R_mono (Kd.R_far (p := ⟨gb686, 7, none⟩) (Kd.R_far (p := ⟨gb686, 6, none⟩) (Kd.R_far (p := ⟨gb686, 5, none⟩) (Kd.R_far (p := ⟨gb686, 4, none⟩) (Kd.R_far (p := ⟨gb686, 3, none⟩) (Kd.R_far (p := ⟨gb686, 2, none⟩) (Kd.R_far (p := ⟨gb686, 1, none⟩) (Kd.R_far (p := ⟨gb686, 0, none⟩) (Kd.R_types HO683.out BK686.out (by decide)) (fun _ hk => hk.2) (.int .i64 t674)) (fun _ hk => hk.2) (.int .i64 t675)) (fun _ hk => hk.2) (.int .i64 t676)) (fun _ hk => hk.2) (.int .i64 t677)) (fun _ hk => hk.2) (.int .i64 t678)) (fun _ hk => hk.2) (.int .u64 t679)) (fun _ hk => hk.2) (.int .i64 t680)) (fun _ hk => hk.2) (.slice Ao60 t681.length co60)) (fun _ h_ => h_.1))) hb); replace BK647 := bf_ BK647 hb; replace BK648 := bf_ BK648 hb; replace BK660 := bf_ BK660 hb; replace BK673 := bf_ BK673 hb; replace BK686 := Aside0.mk (blk_below (g := gb686) (o := .cells #[.int .i64 t674, .int .i64 t675, .int .i64 t676, .int .i64 t677, .int .i64 t678, .int .u64 t679, .int .i64 t680, .slice Ao60 t681.length co60] 29 (0, 0)) (blk_put (cs := #[.int .i64 t674, .int .i64 t675, .int .i64 t676, .int .i64 t677, .int .i64 t678, .int .u64 t679, .int .i64 t680, .slice none 0 0]) (blk_put (cs := #[.int .i64 t674, .int .i64 t675, .int .i64 t676, .int .i64 t677, .int .i64 t678, .int .u64 t679, .int .i64 0, .slice none 0 0]) (blk_put (cs := #[.int .i64 t674, .int .i64 t675, .int .i64 t676, .int .i64 t677, .int .i64 t678, .int .u64 0, .int .i64 0, .slice none 0 0]) (blk_put (cs := #[.int .i64 t674, .int .i64 t675, .int .i64 t676, .int .i64 t677, .int .i64 0, .int .u64 0, .int .i64 0, .slice none 0 0]) (blk_put (cs := #[.int .i64 t674, .int .i64 t675, .int .i64 t676, .int .i64 0, .int .i64 0, .int .u64 0, .int .i64 0, .slice none 0 0]) (blk_put (cs := #[.int .i64 t674, .int .i64 t675, .int .i64 0, .int .i64 0, .int .i64 0, .int .u64 0, .int .i64 0, .slice none 0 0]) (blk_put (cs := #[.int .i64 t674, .int .i64 0, .int .i64 0, .int .i64 0, .int .i64 0, .int .u64 0, .int .i64 0, .slice none 0 0]) (blk_put (cs := #[.int .i64 0, .int .i64 0, .int .i64 0, .int .i64 0, .int .i64 0, .int .u64 0, .int .i64 0, .slice none 0 0]) (bq_ BK686) 0 _ rfl) 1 _ rfl) 2 _ rfl) 3 _ rfl) 4 _ rfl) 5 _ rfl) 6 _ rfl) 7 _ rfl) hb); replace HB := bs_ w hb; clear hb; replace hc647 := ce8_ BK647) | ((with_reducible refine gate_callee (f := 24) rfl ?_); (try refine ug_ (by rfl) ?_); refine goesA_ (some 47) Try.func24 #[.agg #[.int .i64 a0_0, .int .i64 a0_1, .int .i64 a0_2, .int .i64 a0_3, .int .i64 a0_4, .int .u64 a0_5, .int .i64 a0_6, .slice A0_7 l0_7.length c0_7]] ?_; (with_reducible refine (spigotref42_Out.calls k a0_0 a0_1 a0_2 a0_3 a0_4 a0_5 a0_6 _ _ l0_7 t689 t690 _ ?side1 ?side2 A15.out).mono ?_); (case side1 => exact cs_ HR0_7 HB); (case side2 => exact HC0_7.out); rintro e w64 ⟨rfl, hb⟩; refine ⟨_, rfl, ?_⟩; replace HO659 := rb_ HO659 hb; replace HO670 := rb_ HO670 hb; replace HO683 := rb_ HO683 hb; replace BK647 := bb_ BK647 hb; replace BK648 := bb_ BK648 hb; replace BK660 := bb_ BK660 hb; replace BK673 := bb_ BK673 hb; replace BK686 := bb_ BK686 hb; replace HB := bs_ w hb; clear hb; replace hc647 := ce8_ BK647) | ((with_reducible refine gate_callee (f := 25) rfl ?_); (try refine ug_ (by rfl) ?_); refine goesA_ (some 53) Try.func25 #[.agg #[.int .i64 a0_0, .int .i64 a0_1, .int .i64 a0_2, .int .i64 a0_3, .int .i64 a0_4, .int .u64 a0_5, .int .i64 a0_6, .slice A0_7 l0_7.length c0_7], .int .u64 a2] ?_; (with_reducible refine (lease_Bound.calls k a0_0 a0_1 a0_2 a0_3 a0_4 a0_5 a0_6 _ _ l0_7 a2 t691 t692 _ ?side1 ?side2 A16.out).mono ?_); (case side1 => exact cs_ HR0_7 HB); (case side2 => exact HC0_7.out); rintro e w66 ⟨rfl, hb⟩; refine ⟨_, rfl, ?_⟩; replace HO659 := rb_ HO659 hb; replace HO670 := rb_ HO670 hb; replace HO683 := rb_ HO683 hb; replace BK647 := bb_ BK647 hb; replace BK648 := bb_ BK648 hb; replace BK660 := bb_ BK660 hb; replace BK673 := bb_ BK673 hb; replace BK686 := bb_ BK686 hb; replace HB := bs_ w hb; clear hb; replace hc647 := ce8_ BK647) | ((with_reducible refine gate_callee (f := 26) rfl ?_); (try refine ug_ (by rfl) ?_); refine goesA_ (some 59) Try.func26 #[.agg #[.int .i64 a0_0, .int .i64 a0_1, .int .i64 a0_2, .int .i64 a0_3, .int .i64 a0_4, .int .u64 a0_5, .int .i64 a0_6, .slice A0_7 l0_7.length c0_7], .int .u64 a2] ?_; (with_reducible refine (spigotref42_Bound.calls k a0_0 a0_1 a0_2 a0_3 a0_4 a0_5 a0_6 _ _ l0_7 a2 t693 t694 _ ?side1 ?side2 A17.out).mono ?_); (case side1 => exact cs_ HR0_7 HB); (case side2 => exact HC0_7.out); rintro e w68 ⟨rfl, hb⟩; refine ⟨_, rfl, ?_⟩; replace HO659 := rb_ HO659 hb; replace HO670 := rb_ HO670 hb; replace HO683 := rb_ HO683 hb; replace BK647 := bb_ BK647 hb; replace BK648 := bb_ BK648 hb; replace BK660 := bb_ BK660 hb; replace BK673 := bb_ BK673 hb; replace BK686 := bb_ BK686 hb; replace HB := bs_ w hb; clear hb))
   replace HO659 := Aside0.mk (Kd.R_drew HO659.out)
   replace HO670 := Aside0.mk (Kd.R_drew HO670.out)
   replace HO683 := Aside0.mk (Kd.R_drew HO683.out)
   replace BK647 := Aside0.mk (blk_drew BK647.out)
   replace BK648 := Aside0.mk (blk_drew BK648.out)
   replace BK660 := Aside0.mk (blk_drew BK660.out)
   replace BK673 := Aside0.mk (blk_drew BK673.out)
   replace BK686 := Aside0.mk (blk_drew BK686.out)
   replace HB := Aside0.mk (below_drew1 HB.out)
   refine start_ (n := 46) (S := fun w' => w'.cell? ⟨gb647, 0, none⟩ = some (.int .i64 a0_0) ∧ w'.cell? ⟨gb647, 1, none⟩ = some (.int .i64 a0_1) ∧ w'.cell? ⟨gb647, 2, none⟩ = some (.int .i64 a0_2) ∧ w'.cell? ⟨gb647, 3, none⟩ = some (.int .i64 a0_3) ∧ w'.cell? ⟨gb647, 4, none⟩ = some (.int .i64 a0_4) ∧ w'.cell? ⟨gb647, 5, none⟩ = some (.int .u64 a0_5) ∧ w'.cell? ⟨gb647, 6, none⟩ = some (.int .i64 a0_6) ∧ w'.cell? ⟨gb647, 7, none⟩ = some (.slice A0_7 l0_7.length c0_7) ∧ w'.cell? ⟨gb673, 0, none⟩ = some (.int .i64 t661) ∧ w'.cell? ⟨gb673, 1, none⟩ = some (.int .i64 t662) ∧ w'.cell? ⟨gb673, 2, none⟩ = some (.int .i64 t663) ∧ w'.cell? ⟨gb673, 3, none⟩ = some (.int .i64 t664) ∧ w'.cell? ⟨gb673, 4, none⟩ = some (.int .i64 t665) ∧ w'.cell? ⟨gb673, 5, none⟩ = some (.int .u64 t666) ∧ w'.cell? ⟨gb673, 6, none⟩ = some (.int .i64 t667) ∧ w'.cell? ⟨gb673, 7, none⟩ = some (.slice Ao50 t668.length co50) ∧ w'.cell? ⟨gb686, 0, none⟩ = some (.int .i64 t674) ∧ w'.cell? ⟨gb686, 1, none⟩ = some (.int .i64 t675) ∧ w'.cell? ⟨gb686, 2, none⟩ = some (.int .i64 t676) ∧ w'.cell? ⟨gb686, 3, none⟩ = some (.int .i64 t677) ∧ w'.cell? ⟨gb686, 4, none⟩ = some (.int .i64 t678) ∧ w'.cell? ⟨gb686, 5, none⟩ = some (.int .u64 t679) ∧ w'.cell? ⟨gb686, 6, none⟩ = some (.int .i64 t680) ∧ w'.cell? ⟨gb686, 7, none⟩ = some (.slice Ao60 t681.length co60) ∧ w'.cell? ⟨gb660, 0, none⟩ = some (.int .i64 t650) ∧ w'.cell? ⟨gb660, 1, none⟩ = some (.int .i64 t651) ∧ w'.cell? ⟨gb660, 2, none⟩ = some (.int .i64 t652) ∧ w'.cell? ⟨gb660, 3, none⟩ = some (.int .i64 t653) ∧ w'.cell? ⟨gb660, 4, none⟩ = some (.int .i64 t654) ∧ w'.cell? ⟨gb660, 5, none⟩ = some (.int .u64 t655) ∧ w'.cell? ⟨gb660, 6, none⟩ = some (.int .i64 t656) ∧ w'.cell? ⟨gb660, 7, none⟩ = some (.slice Ao41 t657.length co41)) (ds := []) (bl_ 46 0) (by kernel_rfl) rfl (by kernel_rfl) ⟨(blk_cell BK647.out 0).trans rfl, (blk_cell BK647.out 1).trans rfl, (blk_cell BK647.out 2).trans rfl, (blk_cell BK647.out 3).trans rfl, (blk_cell BK647.out 4).trans rfl, (blk_cell BK647.out 5).trans rfl, (blk_cell BK647.out 6).trans rfl, (blk_cell BK647.out 7).trans rfl, (blk_cell BK673.out 0).trans rfl, (blk_cell BK673.out 1).trans rfl, (blk_cell BK673.out 2).trans rfl, (blk_cell BK673.out 3).trans rfl, (blk_cell BK673.out 4).trans rfl, (blk_cell BK673.out 5).trans rfl, (blk_cell BK673.out 6).trans rfl, (blk_cell BK673.out 7).trans rfl, (blk_cell BK686.out 0).trans rfl, (blk_cell BK686.out 1).trans rfl, (blk_cell BK686.out 2).trans rfl, (blk_cell BK686.out 3).trans rfl, (blk_cell BK686.out 4).trans rfl, (blk_cell BK686.out 5).trans rfl, (blk_cell BK686.out 6).trans rfl, (blk_cell BK686.out 7).trans rfl, (blk_cell BK660.out 0).trans rfl, (blk_cell BK660.out 1).trans rfl, (blk_cell BK660.out 2).trans rfl, (blk_cell BK660.out 3).trans rfl, (blk_cell BK660.out 4).trans rfl, (blk_cell BK660.out 5).trans rfl, (blk_cell BK660.out 6).trans rfl, (blk_cell BK660.out 7).trans rfl⟩ (fun hHeld => ?_); refine with_tabW spigotlaw42_LeaseSteps.tab10 spigotlaw42_LeaseSteps.bits10 (fun HT_ HW_ => ?_)
   generalize w68.drew = w69 at HO659 HO670 HO683 BK647 BK648 BK660 BK673 BK686 HB hHeld ⊢
   refine ta_ 0 (some 62) (bl_ 46 1) HT_ HW_ hHeld ?_
   refine ta_ 2 (some 64) (bl_ 46 5) HT_ HW_ hHeld ?_
   refine oa_ 1 (some 63) (bl_ 46 7) HT_ fun K hK => ?_
   refine goesB_ Try.func27 #[.agg #[.int .i64 a0_0, .int .i64 a0_1, .int .i64 a0_2, .int .i64 a0_3, .int .i64 a0_4, .int .u64 a0_5, .int .i64 a0_6, .slice A0_7 l0_7.length c0_7]] ?_
   with_reducible refine (lease_Check.calls k a0_0 a0_1 a0_2 a0_3 a0_4 a0_5 a0_6 _ _ l0_7 t695 _ ?side1 ?side2 A18.out).mono ?_
   (case side1 => exact cs_ HR0_7 HB)
   (case side2 => exact HC0_7.out)
   rintro e w70 ⟨rfl, hb⟩
   refine ⟨_, rfl, ?_⟩
   replace HO659 := rb_ HO659 hb
   replace HO670 := rb_ HO670 hb
   replace HO683 := rb_ HO683 hb
   replace BK647 := bb_ BK647 hb
   replace BK648 := bb_ BK648 hb
   replace BK660 := bb_ BK660 hb
   replace BK673 := bb_ BK673 hb
   replace BK686 := bb_ BK686 hb
   replace HB := bs_ w hb
   clear hb
   refine hK.out _ _ ⟨(blk_cell BK647.out 0).trans rfl, (blk_cell BK647.out 1).trans rfl, (blk_cell BK647.out 2).trans rfl, (blk_cell BK647.out 3).trans rfl, (blk_cell BK647.out 4).trans rfl, (blk_cell BK647.out 5).trans rfl, (blk_cell BK647.out 6).trans rfl, (blk_cell BK647.out 7).trans rfl, (blk_cell BK673.out 0).trans rfl, (blk_cell BK673.out 1).trans rfl, (blk_cell BK673.out 2).trans rfl, (blk_cell BK673.out 3).trans rfl, (blk_cell BK673.out 4).trans rfl, (blk_cell BK673.out 5).trans rfl, (blk_cell BK673.out 6).trans rfl, (blk_cell BK673.out 7).trans rfl, (blk_cell BK686.out 0).trans rfl, (blk_cell BK686.out 1).trans rfl, (blk_cell BK686.out 2).trans rfl, (blk_cell BK686.out 3).trans rfl, (blk_cell BK686.out 4).trans rfl, (blk_cell BK686.out 5).trans rfl, (blk_cell BK686.out 6).trans rfl, (blk_cell BK686.out 7).trans rfl, (blk_cell BK660.out 0).trans rfl, (blk_cell BK660.out 1).trans rfl, (blk_cell BK660.out 2).trans rfl, (blk_cell BK660.out 3).trans rfl, (blk_cell BK660.out 4).trans rfl, (blk_cell BK660.out 5).trans rfl, (blk_cell BK660.out 6).trans rfl, (blk_cell BK660.out 7).trans rfl⟩ (fun hHeld => ?_)
   clear hK K
   refine nm_ (some 63) ?_
   refine oa_ 3 (some 65) (bl_ 46 15) HT_ fun K hK => ?_
   refine goesB_ Try.func12 #[.agg #[.int .i64 a0_0, .int .i64 a0_1, .int .i64 a0_2, .int .i64 a0_3, .int .i64 a0_4, .int .u64 a0_5, .int .i64 a0_6, .slice A0_7 l0_7.length c0_7]] ?_
   with_reducible refine (spigotref42_Check.calls k a0_0 a0_1 a0_2 a0_3 a0_4 a0_5 a0_6 _ _ l0_7 t696 _ ?side1 ?side2 A19.out).mono ?_
   (case side1 => exact cs_ HR0_7 HB)
   (case side2 => exact HC0_7.out)
   rintro e w71 ⟨rfl, hb⟩
   refine ⟨_, rfl, ?_⟩
   replace HO659 := rb_ HO659 hb
   replace HO670 := rb_ HO670 hb
   replace HO683 := rb_ HO683 hb
   replace BK647 := bb_ BK647 hb
   replace BK648 := bb_ BK648 hb
   replace BK660 := bb_ BK660 hb
   replace BK673 := bb_ BK673 hb
   replace BK686 := bb_ BK686 hb
   replace HB := bs_ w hb
   clear hb
   refine hK.out _ _ ⟨(blk_cell BK647.out 0).trans rfl, (blk_cell BK647.out 1).trans rfl, (blk_cell BK647.out 2).trans rfl, (blk_cell BK647.out 3).trans rfl, (blk_cell BK647.out 4).trans rfl, (blk_cell BK647.out 5).trans rfl, (blk_cell BK647.out 6).trans rfl, (blk_cell BK647.out 7).trans rfl, (blk_cell BK673.out 0).trans rfl, (blk_cell BK673.out 1).trans rfl, (blk_cell BK673.out 2).trans rfl, (blk_cell BK673.out 3).trans rfl, (blk_cell BK673.out 4).trans rfl, (blk_cell BK673.out 5).trans rfl, (blk_cell BK673.out 6).trans rfl, (blk_cell BK673.out 7).trans rfl, (blk_cell BK686.out 0).trans rfl, (blk_cell BK686.out 1).trans rfl, (blk_cell BK686.out 2).trans rfl, (blk_cell BK686.out 3).trans rfl, (blk_cell BK686.out 4).trans rfl, (blk_cell BK686.out 5).trans rfl, (blk_cell BK686.out 6).trans rfl, (blk_cell BK686.out 7).trans rfl, (blk_cell BK660.out 0).trans rfl, (blk_cell BK660.out 1).trans rfl, (blk_cell BK660.out 2).trans rfl, (blk_cell BK660.out 3).trans rfl, (blk_cell BK660.out 4).trans rfl, (blk_cell BK660.out 5).trans rfl, (blk_cell BK660.out 6).trans rfl, (blk_cell BK660.out 7).trans rfl⟩ (fun hHeld => ?_)
   clear hK K
   refine nm_ (some 65) ?_
   refine pa_ 4 (some 66) (bl_ 46 31) HT_ ?_
   refine pa_ 5 (some 67) (bl_ 46 63) HT_ ?_
   refine ta_ 6 (some 68) (bl_ 46 127) HT_ HW_ hHeld ?_
   refine ta_ 7 (some 69) (bl_ 46 255) HT_ HW_ hHeld ?_
   refine oa_ 8 (some 70) (bl_ 46 511) HT_ fun K hK => ?_
   refine goesB_ Try.func17 #[.agg #[.int .i64 t661, .int .i64 t662, .int .i64 t663, .int .i64 t664, .int .i64 t665, .int .u64 t666, .int .i64 t667, .slice Ao50 t668.length co50], .agg #[.int .i64 t674, .int .i64 t675, .int .i64 t676, .int .i64 t677, .int .i64 t678, .int .u64 t679, .int .i64 t680, .slice Ao60 t681.length co60]] ?_
   with_reducible refine (spigotref42_Same.calls k t661 t662 t663 t664 t665 t666 t667 _ _ t668 t674 t675 t676 t677 t678 t679 t680 _ _ t681 true _ ?side1 ?side2 ?side3 ?side4 A21.out).mono ?_
   (case side1 => exact cr_ HO670)
   (case side2 => exact (Kd.R_reads' HO670.out).2.1)
   (case side3 => exact cr_ HO683)
   (case side4 => exact (Kd.R_reads' HO683.out).2.1)
   rintro e w72 ⟨rfl, hb⟩
   refine ⟨_, rfl, ?_⟩
   replace HO659 := rb_ HO659 hb
   replace HO670 := rb_ HO670 hb
   replace HO683 := rb_ HO683 hb
   replace BK647 := bb_ BK647 hb
   replace BK648 := bb_ BK648 hb
   replace BK660 := bb_ BK660 hb
   replace BK673 := bb_ BK673 hb
   replace BK686 := bb_ BK686 hb
   replace HB := bs_ w hb
   clear hb
   refine hK.out _ _ ⟨(blk_cell BK647.out 0).trans rfl, (blk_cell BK647.out 1).trans rfl, (blk_cell BK647.out 2).trans rfl, (blk_cell BK647.out 3).trans rfl, (blk_cell BK647.out 4).trans rfl, (blk_cell BK647.out 5).trans rfl, (blk_cell BK647.out 6).trans rfl, (blk_cell BK647.out 7).trans rfl, (blk_cell BK673.out 0).trans rfl, (blk_cell BK673.out 1).trans rfl, (blk_cell BK673.out 2).trans rfl, (blk_cell BK673.out 3).trans rfl, (blk_cell BK673.out 4).trans rfl, (blk_cell BK673.out 5).trans rfl, (blk_cell BK673.out 6).trans rfl, (blk_cell BK673.out 7).trans rfl, (blk_cell BK686.out 0).trans rfl, (blk_cell BK686.out 1).trans rfl, (blk_cell BK686.out 2).trans rfl, (blk_cell BK686.out 3).trans rfl, (blk_cell BK686.out 4).trans rfl, (blk_cell BK686.out 5).trans rfl, (blk_cell BK686.out 6).trans rfl, (blk_cell BK686.out 7).trans rfl, (blk_cell BK660.out 0).trans rfl, (blk_cell BK660.out 1).trans rfl, (blk_cell BK660.out 2).trans rfl, (blk_cell BK660.out 3).trans rfl, (blk_cell BK660.out 4).trans rfl, (blk_cell BK660.out 5).trans rfl, (blk_cell BK660.out 6).trans rfl, (blk_cell BK660.out 7).trans rfl⟩ (fun hHeld => ?_)
   clear hK K
   refine nm_ (some 70) ?_
   refine pa_ 9 (some 71) (bl_ 46 1023) HT_ ?_
   refine pa_ 10 (some 72) (bl_ 46 2047) HT_ ?_
   refine pa_ 11 (some 73) (bl_ 46 4095) HT_ ?_
   refine pa_ 12 (some 74) (bl_ 46 8191) HT_ ?_
   refine pa_ 13 (some 75) (bl_ 46 16383) HT_ ?_
   refine pa_ 14 (some 76) (bl_ 46 32767) HT_ ?_
   refine pa_ 15 (some 77) (bl_ 46 65535) HT_ ?_
   refine pa_ 16 (some 78) (bl_ 46 131071) HT_ ?_
   refine pa_ 17 (some 79) (bl_ 46 262143) HT_ ?_
   refine pa_ 18 (some 80) (bl_ 46 524287) HT_ ?_
   refine pa_ 19 (some 81) (bl_ 46 1048575) HT_ ?_
   refine pa_ 20 (some 82) (bl_ 46 2097151) HT_ ?_
   refine pa_ 21 (some 83) (bl_ 46 4194303) HT_ ?_
   refine pa_ 22 (some 84) (bl_ 46 8388607) HT_ ?_
   refine pa_ 23 (some 85) (bl_ 46 16777215) HT_ ?_
   refine pa_ 24 (some 86) (bl_ 46 33554431) HT_ ?_
   refine pa_ 25 (some 87) (bl_ 46 67108863) HT_ ?_
   refine pa_ 26 (some 88) (bl_ 46 134217727) HT_ ?_
   refine pa_ 27 (some 89) (bl_ 46 268435455) HT_ ?_
   refine pa_ 28 (some 90) (bl_ 46 536870911) HT_ ?_
   refine pa_ 29 (some 91) (bl_ 46 1073741823) HT_ ?_
   refine pa_ 30 (some 92) (bl_ 46 2147483647) HT_ ?_
   refine pa_ 31 (some 93) (bl_ 46 4294967295) HT_ ?_
   refine pa_ 32 (some 94) (bl_ 46 8589934591) HT_ ?_
   refine pa_ 33 (some 95) (bl_ 46 17179869183) HT_ ?_
   refine pa_ 34 (some 96) (bl_ 46 34359738367) HT_ ?_
   refine pa_ 35 (some 97) (bl_ 46 68719476735) HT_ ?_
   refine pa_ 36 (some 98) (bl_ 46 137438953471) HT_ ?_
   refine pa_ 37 (some 99) (bl_ 46 274877906943) HT_ ?_
   refine pa_ 38 (some 100) (bl_ 46 549755813887) HT_ ?_
   refine pa_ 39 (some 101) (bl_ 46 1099511627775) HT_ ?_
   refine pa_ 40 (some 102) (bl_ 46 2199023255551) HT_ ?_
   refine ta_ 41 (some 103) (bl_ 46 4398046511103) HT_ HW_ hHeld ?_
   refine ta_ 42 (some 104) (bl_ 46 8796093022207) HT_ HW_ hHeld ?_
   refine oa_ 43 (some 105) (bl_ 46 17592186044415) HT_ fun K hK => ?_
   refine goesB_ Try.func17 #[.agg #[.int .i64 a0_0, .int .i64 a0_1, .int .i64 a0_2, .int .i64 a0_3, .int .i64 a0_4, .int .u64 a0_5, .int .i64 a0_6, .slice A0_7 l0_7.length c0_7], .agg #[.int .i64 t650, .int .i64 t651, .int .i64 t652, .int .i64 t653, .int .i64 t654, .int .u64 t655, .int .i64 t656, .slice Ao41 t657.length co41]] ?_
   with_reducible refine (spigotref42_Same.calls k a0_0 a0_1 a0_2 a0_3 a0_4 a0_5 a0_6 _ _ l0_7 t650 t651 t652 t653 t654 t655 t656 _ _ t657 t698 _ ?side1 ?side2 ?side3 ?side4 A29.out).mono ?_
   (case side1 => exact cs_ HR0_7 HB)
   (case side2 => exact HC0_7.out)
   (case side3 => exact cr_ HO659)
   (case side4 => exact (Kd.R_reads' HO659.out).2.1)
   rintro e w73 ⟨rfl, hb⟩
   refine ⟨_, rfl, ?_⟩
   replace HO659 := rb_ HO659 hb
   replace HO670 := rb_ HO670 hb
   replace HO683 := rb_ HO683 hb
   replace BK647 := bb_ BK647 hb
   replace BK648 := bb_ BK648 hb
   replace BK660 := bb_ BK660 hb
   replace BK673 := bb_ BK673 hb
   replace BK686 := bb_ BK686 hb
   replace HB := bs_ w hb
   clear hb
   refine hK.out _ _ ⟨(blk_cell BK647.out 0).trans rfl, (blk_cell BK647.out 1).trans rfl, (blk_cell BK647.out 2).trans rfl, (blk_cell BK647.out 3).trans rfl, (blk_cell BK647.out 4).trans rfl, (blk_cell BK647.out 5).trans rfl, (blk_cell BK647.out 6).trans rfl, (blk_cell BK647.out 7).trans rfl, (blk_cell BK673.out 0).trans rfl, (blk_cell BK673.out 1).trans rfl, (blk_cell BK673.out 2).trans rfl, (blk_cell BK673.out 3).trans rfl, (blk_cell BK673.out 4).trans rfl, (blk_cell BK673.out 5).trans rfl, (blk_cell BK673.out 6).trans rfl, (blk_cell BK673.out 7).trans rfl, (blk_cell BK686.out 0).trans rfl, (blk_cell BK686.out 1).trans rfl, (blk_cell BK686.out 2).trans rfl, (blk_cell BK686.out 3).trans rfl, (blk_cell BK686.out 4).trans rfl, (blk_cell BK686.out 5).trans rfl, (blk_cell BK686.out 6).trans rfl, (blk_cell BK686.out 7).trans rfl, (blk_cell BK660.out 0).trans rfl, (blk_cell BK660.out 1).trans rfl, (blk_cell BK660.out 2).trans rfl, (blk_cell BK660.out 3).trans rfl, (blk_cell BK660.out 4).trans rfl, (blk_cell BK660.out 5).trans rfl, (blk_cell BK660.out 6).trans rfl, (blk_cell BK660.out 7).trans rfl⟩ (fun hHeld => ?_)
   clear hK K
   refine nm_ (some 105) ?_
   refine pa_ 44 (some 106) (bl_ 46 35184372088831) HT_ ?_
   refine pa_ 45 (some 6) (bl_ 46 70368744177663) HT_ ?_
   refine done_ (done_of HT_.out (by kernel_rfl)) ?_
   try go_wp2
   go_ret
   exact fi_
  ·replace c22 := Bool.eq_false_iff.mpr c22
   subst c22
   replace H : (none) = some r := by rw [if_neg (show ¬ (false = true) by decide)] at H; exact H
   exact absurd H (by simp)

end Go.Proofs.Ytbfdpodlnijeoaa.X
