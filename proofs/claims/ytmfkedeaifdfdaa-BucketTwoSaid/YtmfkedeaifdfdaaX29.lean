-- written by xprint.py, a program of this session over the kit's print
import Derived.Test.YtmfkedeaifdfdaaX0
import Derived.Test.YtmfkedeaifdfdaaX2
import Derived.Test.YtmfkedeaifdfdaaX3
import Derived.Test.YtmfkedeaifdfdaaX5
import Derived.Test.YtmfkedeaifdfdaaX10
import Derived.Test.YtmfkedeaifdfdaaX22
import Derived.Test.YtmfkedeaifdfdaaX28
namespace Go.Proofs.Ytmfkedeaifdfdaa.X
open Go.RowKit Go.Proofs.YtmfkedeaifdfdaaW.PrintWords Go.Proofs.YtmfkedeaifdfdaaW.PrintLast Go.Proofs.YtmfkedeaifdfdaaW.PrintMore
attribute [local go_sem] max2_int min2_int max_two min_two max_three min_three max_four min_four   -- for this text's walks alone
set_option linter.unusedVariables false
set_option linter.unusedSimpArgs false

attribute [local go_sem high] eqA26 eqA60
/-! ### spigotlaw03_BucketTwo: function 8 -/
def spigotlaw03_BucketTwo.j0 : Nat → Int → Int → Bool → Int → Int → Int → Int → Int → Int → Option (Bool)
  | 0, _, _, _, _, _, _, _, _, _ => none
  | k + 1, x1, x2, x33, x647000, x647001, x647002, x647003, x647004, x647005 => if x33 = true then ((spigotlaw03_alive.f k).bind fun t648 => (some t648)) else ((bucket_Refill.f k x647000 x647001 x647002 x647003 x647004 x647005 x1).bind fun bt649 => ((bucket_Refill.f k bt649.1 bt649.2.1 bt649.2.2.1 bt649.2.2.2.1 bt649.2.2.2.2.1 bt649.2.2.2.2.2.1 x2).bind fun bt657 => ((bucket_Refill.f k x647000 x647001 x647002 x647003 x647004 x647005 x2).bind fun bt665 => (if bt649.2.2.2.2.2.2 = 0 then (if bt657.2.2.2.2.2.2 = 0 then (if bt665.2.2.2.2.2.2 = 0 then (if ((!(bt657.1 == bt665.1) || (!(bt657.2.1 == bt665.2.1) || (!(bt657.2.2.1 == bt665.2.2.1)))) || (!(bt657.2.2.2.1 == bt665.2.2.2.1) || (!(bt657.2.2.2.2.1 == bt665.2.2.2.2.1) || (!(bt657.2.2.2.2.2.1 == bt665.2.2.2.2.2.1))))) = true then (none) else ((spigotref03_Check.f bt649.1 bt649.2.1 bt649.2.2.1 bt649.2.2.2.1 bt649.2.2.2.2.1 bt649.2.2.2.2.2.1).bind fun t673 => (if t673 = 0 then ((spigotref03_Check.f bt665.1 bt665.2.1 bt665.2.2.1 bt665.2.2.2.1 bt665.2.2.2.2.1 bt665.2.2.2.2.2.1).bind fun t674 => (if t674 = 0 then (if bt665.2.2.2.2.2.1 = x2 then (if bt665.2.2.2.1 < bt649.2.2.2.1 then (none) else ((wide_Mul.f (IntKind.u64.wrap (x647003)) (IntKind.u64.wrap (x647002))).bind fun bt675 => ((wide_Of.f (IntKind.u64.wrap (x647004))).bind fun bt677 => ((wide_Add.f bt675.1 bt675.2 bt677.1 bt677.2).bind fun bt679 => ((wide_Mul.f (IntKind.u64.wrap (x2 - x647005)) (IntKind.u64.wrap (x647001))).bind fun bt683 => ((wide_Add.f bt679.1 bt679.2.1 bt683.1 bt683.2).bind fun bt685 => ((wide_Mul.f (IntKind.u64.wrap (bt665.2.2.2.1)) (IntKind.u64.wrap (x647002))).bind fun bt689 => ((wide_Of.f (IntKind.u64.wrap (bt665.2.2.2.2.1))).bind fun bt691 => ((wide_Add.f bt689.1 bt689.2 bt691.1 bt691.2).bind fun bt693 => ((wide_Mul.f (IntKind.u64.wrap (x647000)) (IntKind.u64.wrap (x647002))).bind fun bt697 => (if bt679.2.2 = 0 then (if bt685.2.2 = 0 then (if bt693.2.2 = 0 then ((wide_Cmp.f k bt685.1 bt685.2.1 bt697.1 bt697.2).bind fun t700 => (if t700 ≥ 0 then (if bt665.2.2.2.1 = x647000 then (if (bt693.1 == bt697.1 && (bt693.2.1 == bt697.2)) = true then ((spigotlaw03_alive.f k).bind fun t701 => (some t701)) else (none)) else (none)) else (if (bt693.1 == bt685.1 && (bt693.2.1 == bt685.2.1)) = true then ((spigotlaw03_alive.f k).bind fun t702 => (some t702)) else (none)))) else (none)) else (none)) else (none)))))))))))) else (none)) else (none))) else (none)))) else (none)) else (none)) else (none)))))
def spigotlaw03_BucketTwo.f (k : Nat) (a0_0 : Int) (a0_1 : Int) (a0_2 : Int) (a0_3 : Int) (a0_4 : Int) (a0_5 : Int) (a1 : Int) (a2 : Int) : Option (Bool) := (spigotref03_Check.f a0_0 a0_1 a0_2 a0_3 a0_4 a0_5).bind fun t647 => (if t647 = 0 then (if a1 < a0_5 then (spigotlaw03_BucketTwo.j0 k a1 a2 true a0_0 a0_1 a0_2 a0_3 a0_4 a0_5) else (spigotlaw03_BucketTwo.j0 k a1 a2 (decide (a2 < a1)) a0_0 a0_1 a0_2 a0_3 a0_4 a0_5)) else (spigotlaw03_BucketTwo.j0 k a1 a2 true a0_0 a0_1 a0_2 a0_3 a0_4 a0_5))
theorem spigotlaw03_BucketTwo.mono_l : ∀ k, (∀ y0 y1 y2 y3 y4 y5 y6 y7 y8, LeO (spigotlaw03_BucketTwo.j0 k y0 y1 y2 y3 y4 y5 y6 y7 y8) (spigotlaw03_BucketTwo.j0 (k + 1) y0 y1 y2 y3 y4 y5 y6 y7 y8))
  | 0 => fun _ _ _ _ _ _ _ _ _ r h => by simp [spigotlaw03_BucketTwo.j0] at h
  | k + 1 => by
    have ih0 := spigotlaw03_BucketTwo.mono_l k
    · intro y0 y1 y2 y3 y4 y5 y6 y7 y8
      unfold spigotlaw03_BucketTwo.j0
      repeat' first
      | (with_reducible exact ih0 _ _ _ _ _ _ _ _ _)
      | (with_reducible exact bucket_Refill.mono _ _ _ _ _ _ _ _)
      | (with_reducible exact spigotlaw03_alive.mono _)
      | (with_reducible exact wide_Cmp.mono _ _ _ _ _)
      | (with_reducible exact LeO.refl _)
      | (with_reducible exact LeO.none _)
      | (with_reducible refine LeO.ite ?_ ?_)
      | (with_reducible refine LeO.bind ?_ (fun _ => ?_))
      | exact ih0 _ _ _ _ _ _ _ _ _
      | exact bucket_Refill.mono _ _ _ _ _ _ _ _
      | exact spigotlaw03_alive.mono _
      | exact wide_Cmp.mono _ _ _ _ _
      | exact LeO.none _
      | refine LeO.ite ?_ ?_
      | refine LeO.bind ?_ (fun _ => ?_)
theorem spigotlaw03_BucketTwo.mono : ∀ a0 a1 a2 a3 a4 a5 a6 a7 k, LeO (spigotlaw03_BucketTwo.f k a0 a1 a2 a3 a4 a5 a6 a7) (spigotlaw03_BucketTwo.f (k + 1) a0 a1 a2 a3 a4 a5 a6 a7) := by
  intro a0 a1 a2 a3 a4 a5 a6 a7 k
  have ih0 := spigotlaw03_BucketTwo.mono_l k
  unfold spigotlaw03_BucketTwo.f
  repeat' first
      | (with_reducible exact ih0 _ _ _ _ _ _ _ _ _)
      | (with_reducible exact bucket_Refill.mono _ _ _ _ _ _ _ _)
      | (with_reducible exact spigotlaw03_alive.mono _)
      | (with_reducible exact wide_Cmp.mono _ _ _ _ _)
      | (with_reducible exact LeO.refl _)
      | (with_reducible exact LeO.none _)
      | (with_reducible refine LeO.ite ?_ ?_)
      | (with_reducible refine LeO.bind ?_ (fun _ => ?_))
      | exact ih0 _ _ _ _ _ _ _ _ _
      | exact bucket_Refill.mono _ _ _ _ _ _ _ _
      | exact spigotlaw03_alive.mono _
      | exact wide_Cmp.mono _ _ _ _ _
      | exact LeO.none _
      | refine LeO.ite ?_ ?_
      | refine LeO.bind ?_ (fun _ => ?_)
def spigotlaw03_BucketTwo.T8 : Bool × List (List Nat × List Nat) := (true, [([], []), ([0], [0]), ([1], [1]), ([], []), ([3], [3]), ([4], [4]), ([5], [5]), ([2, 6], [2, 6]), ([], []), ([8], [8]), ([9], [9]), ([10, 7], [10]), ([7, 11, 11], [7, 11]), ([12], [12]), ([13], [13]), ([13], [13]), ([], []), ([16, 14, 12, 0, 1, 2, 3, 4, 5, 6, 7, 8, 9, 10, 11, 12, 13, 14, 16], [14, 16]), ([15, 17, 0, 1, 2, 3, 4, 5, 6, 7, 8, 9, 10, 11, 12, 13, 14, 15, 16, 17], [15])])
def spigotlaw03_BucketTwo.B8 : List Nat := [0, 1, 3, 0, 8, 24, 56, 127, 0, 256, 768, 2047, 4095, 8191, 16383, 16383, 0, 98303, 262143]
theorem spigotlaw03_BucketTwo.tab8 : rtab .any (opsOf Try.f8 8) = spigotlaw03_BucketTwo.T8 := by kernel_rfl
theorem spigotlaw03_BucketTwo.bits8 : waitsOk spigotlaw03_BucketTwo.T8.2 spigotlaw03_BucketTwo.B8 = true := by kernel_rfl
def spigotlaw03_BucketTwo.T9 : Bool × List (List Nat × List Nat) := (true, [([], []), ([], []), ([], []), ([2], [2]), ([1, 3], [1, 3]), ([], []), ([5], [5]), ([6], [6]), ([7], [7]), ([4, 8], [4, 8]), ([0, 9, 9], [0, 9]), ([10], [10]), ([11], [11]), ([11], [11]), ([], []), ([14, 12, 10, 0, 1, 2, 3, 4, 5, 6, 7, 8, 9, 10, 11, 12, 14], [12, 14]), ([13, 15, 0, 1, 2, 3, 4, 5, 6, 7, 8, 9, 10, 11, 12, 13, 14, 15], [13])])
def spigotlaw03_BucketTwo.B9 : List Nat := [0, 0, 0, 4, 14, 0, 32, 96, 224, 510, 1023, 2047, 4095, 4095, 0, 24575, 65535]
theorem spigotlaw03_BucketTwo.tab9 : rtab .any (opsOf Try.f8 9) = spigotlaw03_BucketTwo.T9 := by kernel_rfl
theorem spigotlaw03_BucketTwo.bits9 : waitsOk spigotlaw03_BucketTwo.T9.2 spigotlaw03_BucketTwo.B9 = true := by kernel_rfl
def spigotlaw03_BucketTwo.T10 : Bool × List (List Nat × List Nat) := (true, [([], []), ([0], [0]), ([1], [1]), ([], []), ([3], [3]), ([4], [4]), ([5], [5]), ([2, 6], [2, 6]), ([], []), ([8], [8]), ([9], [9]), ([10, 7], [10]), ([7, 11, 11], [7, 11]), ([12], [12]), ([13], [13]), ([13], [13]), ([], []), ([16, 14, 12, 0, 1, 2, 3, 4, 5, 6, 7, 8, 9, 10, 11, 12, 13, 14, 16], [14, 16]), ([15, 17, 0, 1, 2, 3, 4, 5, 6, 7, 8, 9, 10, 11, 12, 13, 14, 15, 16, 17], [15])])
def spigotlaw03_BucketTwo.B10 : List Nat := [0, 1, 3, 0, 8, 24, 56, 127, 0, 256, 768, 2047, 4095, 8191, 16383, 16383, 0, 98303, 262143]
theorem spigotlaw03_BucketTwo.tab10 : rtab .any (opsOf Try.f8 10) = spigotlaw03_BucketTwo.T10 := by kernel_rfl
theorem spigotlaw03_BucketTwo.bits10 : waitsOk spigotlaw03_BucketTwo.T10.2 spigotlaw03_BucketTwo.B10 = true := by kernel_rfl
set_option maxHeartbeats 8000000 in
set_option maxRecDepth 100000 in
theorem spigotlaw03_BucketTwo.calls (k : Nat) (a0_0 : Int) (a0_1 : Int) (a0_2 : Int) (a0_3 : Int) (a0_4 : Int) (a0_5 : Int) (a1 : Int) (a2 : Int) (r : Bool) (w : World) (h : spigotlaw03_BucketTwo.f k a0_0 a0_1 a0_2 a0_3 a0_4 a0_5 a1 a2 = some r) :
  Calls Try.prog 8 #[.agg #[.int .i64 a0_0, .int .i64 a0_1, .int .i64 a0_2, .int .i64 a0_3, .int .i64 a0_4, .int .u64 a0_5], .int .u64 a1, .int .u64 a2] w fun e w' => e = .returned (.bool r) ∧ Below w.heap.size w w' := by
 have hu26 := Try.underlying26
 have hu60 := Try.underlying60
 have HB := Aside0.mk (Below.refl w.heap.size w)
 have H : ((spigotref03_Check.f a0_0 a0_1 a0_2 a0_3 a0_4 a0_5).bind fun t647 => (if t647 = 0 then (if a1 < a0_5 then (spigotlaw03_BucketTwo.j0 k a1 a2 true a0_0 a0_1 a0_2 a0_3 a0_4 a0_5) else (spigotlaw03_BucketTwo.j0 k a1 a2 (decide (a2 < a1)) a0_0 a0_1 a0_2 a0_3 a0_4 a0_5)) else (spigotlaw03_BucketTwo.j0 k a1 a2 true a0_0 a0_1 a0_2 a0_3 a0_4 a0_5))) = some r := h
 clear h
 have HC4 := Aside0.mk H
 clear H
 go_enter Try.func8, Try.ntmps8
 go_upto_region 1 with (first | ((with_reducible refine gate_dst (N := 3) rfl ?_); (try refine ug_ (by rfl) ?_); refine bx_ #[.int .i64 a0_0, .int .i64 a0_1, .int .i64 a0_2, .int .i64 a0_3, .int .i64 a0_4, .int .u64 a0_5] 26 ?_; intro gb646 hg w5 BK646 hb; have GW646 := bz_ w hg; replace HB := bs_ w hb; clear hb hg))
 (try simp only [Act.put, List.setIfInBounds_toArray, List.set_cons_zero, List.set_cons_succ])
 go_cut [33] (fun v33 wc => ∃ (kq : Nat) (x33_3 : Bool), v33 = .bool x33_3 ∧ Aside0 (spigotlaw03_BucketTwo.j0 kq a1 a2 x33_3 a0_0 a0_1 a0_2 a0_3 a0_4 a0_5 = some r) ∧ Aside0 (kq ≤ k) ∧ Aside0 (wc.heap[gb646]? = some (.cells #[.int .i64 a0_0, .int .i64 a0_1, .int .i64 a0_2, .int .i64 a0_3, .int .i64 a0_4, .int .u64 a0_5] 26 (0, 0))) ∧ Aside0 (Below w.heap.size w wc))
 case first =>
  have H := HC4.out
  clear HC4
  obtain ⟨t647, A6, H⟩ := bo_ H
  try dsimp only at H
  by_cases c7 : t647 = 0
  ·rw [if_pos c7] at H
   have c7b0 : (t647 == 0) = true := beq_iff_eq.mpr c7
   have c7b1 : (t647 != 0) = false := bne_eq_false_iff_eq.mpr c7
   clear c7
   (first | rw [c7b0] | (simp only [i64_w, i32_w]; rw [c7b0]) | skip)
   by_cases c8 : a1 < a0_5
   ·rw [if_pos c8] at H
    have c8b0 : decide (a1 < a0_5) = true := decide_eq_true c8
    clear c8
    have H' := Aside0.mk H
    clear H
    replace hc646 := ce6_ BK646
    go_wp2_with (first | ((with_reducible refine gate_callee (f := 17) rfl ?_); (try refine ug_ (by rfl) ?_); refine goesA_ (some 21) Try.func17 #[.agg #[.int .i64 a0_0, .int .i64 a0_1, .int .i64 a0_2, .int .i64 a0_3, .int .i64 a0_4, .int .u64 a0_5]] ?_; (with_reducible refine (spigotref03_Check.calls a0_0 a0_1 a0_2 a0_3 a0_4 a0_5 t647 _ A6.out).mono ?_); rintro e w10 ⟨rfl, hb⟩; refine ⟨_, rfl, ?_⟩; replace BK646 := bb_ BK646 hb; replace HB := bs_ w hb; clear hb; replace hc646 := ce6_ BK646))
    go_meet
    case rel => exact ⟨_, (true), rf_, H', al_, ⟨bq_ BK646⟩, bw_⟩
   ·rw [if_neg c8] at H
    have c8b0 : decide (a1 < a0_5) = false := decide_eq_false c8
    clear c8
    have H' := Aside0.mk H
    clear H
    replace hc646 := ce6_ BK646
    go_wp2_with (first | ((with_reducible refine gate_callee (f := 17) rfl ?_); (try refine ug_ (by rfl) ?_); refine goesA_ (some 21) Try.func17 #[.agg #[.int .i64 a0_0, .int .i64 a0_1, .int .i64 a0_2, .int .i64 a0_3, .int .i64 a0_4, .int .u64 a0_5]] ?_; (with_reducible refine (spigotref03_Check.calls a0_0 a0_1 a0_2 a0_3 a0_4 a0_5 t647 _ A6.out).mono ?_); rintro e w13 ⟨rfl, hb⟩; refine ⟨_, rfl, ?_⟩; replace BK646 := bb_ BK646 hb; replace HB := bs_ w hb; clear hb; replace hc646 := ce6_ BK646))
    go_meet
    case rel => exact ⟨_, (decide (a2 < a1)), rf_, H', al_, ⟨bq_ BK646⟩, bw_⟩
  ·rw [if_neg c7] at H
   have c7b0 : (t647 == 0) = false := beq_eq_false_iff_ne.mpr c7
   have c7b1 : (t647 != 0) = true := bne_iff_ne.mpr c7
   (first | rw [c7b0] | (simp only [i64_w, i32_w]; rw [c7b0]) | skip)
   have H' := Aside0.mk H
   clear H
   replace hc646 := ce6_ BK646
   go_wp2_with (first | ((with_reducible refine gate_callee (f := 17) rfl ?_); (try refine ug_ (by rfl) ?_); refine goesA_ (some 21) Try.func17 #[.agg #[.int .i64 a0_0, .int .i64 a0_1, .int .i64 a0_2, .int .i64 a0_3, .int .i64 a0_4, .int .u64 a0_5]] ?_; (with_reducible refine (spigotref03_Check.calls a0_0 a0_1 a0_2 a0_3 a0_4 a0_5 t647 _ A6.out).mono ?_); rintro e w16 ⟨rfl, hb⟩; refine ⟨_, rfl, ?_⟩; replace BK646 := bb_ BK646 hb; replace HB := bs_ w hb; clear hb))
   go_meet
   case rel => exact ⟨_, (true), rf_, H', al_, ⟨bq_ BK646⟩, bw_⟩
 case rest =>
  clear HC4
  obtain ⟨kq, x33_3, rfl, HA, HJ3, BK646, HB⟩ := hcut
  cases kq with
  | zero => exact absurd HA.out (by simp [spigotlaw03_BucketTwo.j0])
  | succ kj3 =>
   have H := HA.out
   clear HA
   simp only [spigotlaw03_BucketTwo.j0] at H
   by_cases c17 : x33_3 = true
   ·subst c17
    rw [if_pos rfl] at H
    try dsimp only at H
    obtain ⟨t648, A18, H⟩ := bo_ H
    replace H : (some t648) = some r := H
    obtain rfl := Option.some.inj H
    go_wp2_with (first | ((with_reducible refine gate_callee (f := 27) rfl ?_); (try refine ug_ (by rfl) ?_); refine goesA_ (some 34) Try.func27 #[] ?_; (with_reducible refine (spigotlaw03_alive.calls kj3  t648 _ A18.out).mono ?_); rintro e w19 ⟨rfl, hb⟩; refine ⟨_, rfl, ?_⟩; replace BK646 := bb_ BK646 hb; replace HB := bs_ w hb; clear hb))
    go_ret
    exact fi_
   ·replace c17 := Bool.eq_false_iff.mpr c17
    subst c17
    rw [if_neg (show ¬ (false = true) by decide)] at H
    try dsimp only at H
    obtain ⟨⟨t649, t650, t651, t652, t653, t654, t655⟩, A20, H⟩ := bo_ H
    try dsimp only at H
    obtain ⟨⟨t657, t658, t659, t660, t661, t662, t663⟩, A21, H⟩ := bo_ H
    try dsimp only at H
    obtain ⟨⟨t665, t666, t667, t668, t669, t670, t671⟩, A22, H⟩ := bo_ H
    try dsimp only at H
    by_cases c23 : t655 = 0
    rotate_left
    ·rw [if_neg c23] at H; exact absurd H (by simp)
    rw [if_pos c23] at H
    have c23b0 : (t655 == 0) = true := beq_iff_eq.mpr c23
    have c23b1 : (t655 != 0) = false := bne_eq_false_iff_eq.mpr c23
    clear c23
    by_cases c24 : t663 = 0
    rotate_left
    ·rw [if_neg c24] at H; exact absurd H (by simp)
    rw [if_pos c24] at H
    have c24b0 : (t663 == 0) = true := beq_iff_eq.mpr c24
    have c24b1 : (t663 != 0) = false := bne_eq_false_iff_eq.mpr c24
    clear c24
    by_cases c25 : t671 = 0
    rotate_left
    ·rw [if_neg c25] at H; exact absurd H (by simp)
    rw [if_pos c25] at H
    have c25b0 : (t671 == 0) = true := beq_iff_eq.mpr c25
    have c25b1 : (t671 != 0) = false := bne_eq_false_iff_eq.mpr c25
    clear c25
    by_cases c26 : ((!(t657 == t665) || (!(t658 == t666) || (!(t659 == t667)))) || (!(t660 == t668) || (!(t661 == t669) || (!(t662 == t670))))) = true
    ·rw [if_pos c26] at H; exact absurd H (by simp)
    rw [if_neg c26] at H
    have c26b0 : ((!(t657 == t665) || (!(t658 == t666) || (!(t659 == t667)))) || (!(t660 == t668) || (!(t661 == t669) || (!(t662 == t670))))) = false := by simpa using c26
    clear c26
    obtain ⟨t673, A27, H⟩ := bo_ H
    try dsimp only at H
    by_cases c28 : t673 = 0
    rotate_left
    ·rw [if_neg c28] at H; exact absurd H (by simp)
    rw [if_pos c28] at H
    have c28b0 : (t673 == 0) = true := beq_iff_eq.mpr c28
    have c28b1 : (t673 != 0) = false := bne_eq_false_iff_eq.mpr c28
    clear c28
    obtain ⟨t674, A29, H⟩ := bo_ H
    try dsimp only at H
    by_cases c30 : t674 = 0
    rotate_left
    ·rw [if_neg c30] at H; exact absurd H (by simp)
    rw [if_pos c30] at H
    have c30b0 : (t674 == 0) = true := beq_iff_eq.mpr c30
    have c30b1 : (t674 != 0) = false := bne_eq_false_iff_eq.mpr c30
    clear c30
    by_cases c31 : t670 = a2
    rotate_left
    ·rw [if_neg c31] at H; exact absurd H (by simp)
    rw [if_pos c31] at H
    have c31b0 : (t670 == a2) = true := beq_iff_eq.mpr c31
    have c31b1 : (t670 != a2) = false := bne_eq_false_iff_eq.mpr c31
    clear c31
    by_cases c32 : t668 < t652
    ·rw [if_pos c32] at H; exact absurd H (by simp)
    rw [if_neg c32] at H
    have c32b0 : decide (t668 < t652) = false := decide_eq_false c32
    clear c32
    obtain ⟨⟨t675, t676⟩, A33, H⟩ := bo_ H
    try dsimp only at H
    obtain ⟨⟨t677, t678⟩, A34, H⟩ := bo_ H
    try dsimp only at H
    obtain ⟨⟨t679, t680, t681⟩, A35, H⟩ := bo_ H
    try dsimp only at H
    obtain ⟨⟨t683, t684⟩, A36, H⟩ := bo_ H
    try dsimp only at H
    obtain ⟨⟨t685, t686, t687⟩, A37, H⟩ := bo_ H
    try dsimp only at H
    obtain ⟨⟨t689, t690⟩, A38, H⟩ := bo_ H
    try dsimp only at H
    obtain ⟨⟨t691, t692⟩, A39, H⟩ := bo_ H
    try dsimp only at H
    obtain ⟨⟨t693, t694, t695⟩, A40, H⟩ := bo_ H
    try dsimp only at H
    obtain ⟨⟨t697, t698⟩, A41, H⟩ := bo_ H
    try dsimp only at H
    by_cases c42 : t681 = 0
    rotate_left
    ·rw [if_neg c42] at H; exact absurd H (by simp)
    rw [if_pos c42] at H
    have c42b0 : (t681 == 0) = true := beq_iff_eq.mpr c42
    have c42b1 : (t681 != 0) = false := bne_eq_false_iff_eq.mpr c42
    clear c42
    by_cases c43 : t687 = 0
    rotate_left
    ·rw [if_neg c43] at H; exact absurd H (by simp)
    rw [if_pos c43] at H
    have c43b0 : (t687 == 0) = true := beq_iff_eq.mpr c43
    have c43b1 : (t687 != 0) = false := bne_eq_false_iff_eq.mpr c43
    clear c43
    by_cases c44 : t695 = 0
    rotate_left
    ·rw [if_neg c44] at H; exact absurd H (by simp)
    rw [if_pos c44] at H
    have c44b0 : (t695 == 0) = true := beq_iff_eq.mpr c44
    have c44b1 : (t695 != 0) = false := bne_eq_false_iff_eq.mpr c44
    clear c44
    obtain ⟨t700, A45, H⟩ := bo_ H
    try dsimp only at H
    by_cases c46 : t700 ≥ 0
    ·rw [if_pos c46] at H
     have c46b0 : decide (0 ≤ t700) = true := decide_eq_true c46
     clear c46
     by_cases c47 : t668 = a0_0
     rotate_left
     ·rw [if_neg c47] at H; exact absurd H (by simp)
     rw [if_pos c47] at H
     have c47b0 : (t668 == a0_0) = true := beq_iff_eq.mpr c47
     have c47b1 : (t668 != a0_0) = false := bne_eq_false_iff_eq.mpr c47
     clear c47
     by_cases c48 : (t693 == t697 && (t694 == t698)) = true
     rotate_left
     ·rw [if_neg c48] at H; exact absurd H (by simp)
     rw [if_pos c48] at H
     have c48b0 : (t693 == t697 && (t694 == t698)) = true := c48
     (try (have c48b1 : decide (t693 = t697 && (t694 == t698)) = true := by simpa using c48))
     (try (have c48b2 : (t693 == t697 && (t694 == t698)) = true := by simpa using c48))
     clear c48
     obtain ⟨t701, A49, H⟩ := bo_ H
     replace H : (some t701) = some r := H
     obtain rfl := Option.some.inj H
     replace hc646 := ce6_ BK646
     try go_wp2_with (first | ((with_reducible refine gate_callee (f := 12) rfl ?_); (try refine ug_ (by rfl) ?_); refine goesA_ (some 38) Try.func12 #[.agg #[.int .i64 a0_0, .int .i64 a0_1, .int .i64 a0_2, .int .i64 a0_3, .int .i64 a0_4, .int .u64 a0_5], .int .u64 a1] ?_; (with_reducible refine (bucket_Refill.calls kj3 a0_0 a0_1 a0_2 a0_3 a0_4 a0_5 a1 t649 t650 t651 t652 t653 t654 t655 _ A20.out).mono ?_); rintro e w51 ⟨rfl, hb⟩; refine ⟨_, rfl, ?_⟩; replace BK646 := bb_ BK646 hb; replace HB := bs_ w hb; clear hb) | ((with_reducible refine gate_dst (N := 7) rfl ?_); (try refine ug_ (by rfl) ?_); refine bx_ #[.int .i64 0, .int .i64 0, .int .i64 0, .int .i64 0, .int .i64 0, .int .u64 0] 26 ?_; intro gb656 hg w52 BK656 hb; have GW656 := bz_ w hg; have GE656 := GW656; have NB646_656 := bn_ BK646 hg; have NB656_646 := bm_ BK646 hg; replace BK646 := bb_ BK646 hb; replace HB := bs_ w hb; clear hb hg; replace hn656_646 := NB656_646.out; replace hn646_656 := NB646_656.out; replace hc656 := ce6_ BK656) | ((with_reducible refine gate_callee (f := 12) rfl ?_); (try refine ug_ (by rfl) ?_); refine goesA_ (some 44) Try.func12 #[.agg #[.int .i64 t649, .int .i64 t650, .int .i64 t651, .int .i64 t652, .int .i64 t653, .int .u64 t654], .int .u64 a2] ?_; (with_reducible refine (bucket_Refill.calls kj3 t649 t650 t651 t652 t653 t654 a2 t657 t658 t659 t660 t661 t662 t663 _ A21.out).mono ?_); rintro e w55 ⟨rfl, hb⟩; refine ⟨_, rfl, ?_⟩; replace BK646 := bf_ BK646 hb; replace BK656 := Aside0.mk (blk_below (g := gb656) (o := .cells #[.int .i64 t649, .int .i64 t650, .int .i64 t651, .int .i64 t652, .int .i64 t653, .int .u64 t654] 26 (0, 0)) (bp6_ (bq_ BK656)) hb); replace HB := bs_ w hb; clear hb) | ((with_reducible refine gate_dst (N := 9) rfl ?_); (try refine ug_ (by rfl) ?_); refine bx_ #[.int .i64 0, .int .i64 0, .int .i64 0, .int .i64 0, .int .i64 0, .int .u64 0] 26 ?_; intro gb664 hg w56 BK664 hb; have GW664 := bz_ w hg; have GE664 := GW664; have NB646_664 := bn_ BK646 hg; have NB664_646 := bm_ BK646 hg; have NB656_664 := bn_ BK656 hg; have NB664_656 := bm_ BK656 hg; replace BK646 := bb_ BK646 hb; replace BK656 := bb_ BK656 hb; replace HB := bs_ w hb; clear hb hg; replace hn664_646 := NB664_646.out; replace hn646_664 := NB646_664.out; replace hn664_656 := NB664_656.out; replace hn656_664 := NB656_664.out; replace hc664 := ce6_ BK664; replace hc646 := ce6_ BK646) | ((with_reducible refine gate_callee (f := 12) rfl ?_); (try refine ug_ (by rfl) ?_); refine goesA_ (some 50) Try.func12 #[.agg #[.int .i64 a0_0, .int .i64 a0_1, .int .i64 a0_2, .int .i64 a0_3, .int .i64 a0_4, .int .u64 a0_5], .int .u64 a2] ?_; (with_reducible refine (bucket_Refill.calls kj3 a0_0 a0_1 a0_2 a0_3 a0_4 a0_5 a2 t665 t666 t667 t668 t669 t670 t671 _ A22.out).mono ?_); rintro e w61 ⟨rfl, hb⟩; refine ⟨_, rfl, ?_⟩; replace BK646 := bf_ BK646 hb; replace BK656 := bf_ BK656 hb; replace BK664 := Aside0.mk (blk_below (g := gb664) (o := .cells #[.int .i64 t657, .int .i64 t658, .int .i64 t659, .int .i64 t660, .int .i64 t661, .int .u64 t662] 26 (0, 0)) (bp6_ (bq_ BK664)) hb); replace HB := bs_ w hb; clear hb) | ((with_reducible refine gate_dst (N := 11) rfl ?_); (try refine ug_ (by rfl) ?_); refine bx_ #[.int .i64 0, .int .i64 0, .int .i64 0, .int .i64 0, .int .i64 0, .int .u64 0] 26 ?_; intro gb672 hg w62 BK672 hb; have GW672 := bz_ w hg; have GE672 := GW672; have NB646_672 := bn_ BK646 hg; have NB672_646 := bm_ BK646 hg; have NB656_672 := bn_ BK656 hg; have NB672_656 := bm_ BK656 hg; have NB664_672 := bn_ BK664 hg; have NB672_664 := bm_ BK664 hg; replace BK646 := bb_ BK646 hb; replace BK656 := bb_ BK656 hb; replace BK664 := bb_ BK664 hb; replace HB := bs_ w hb; clear hb hg; replace hn672_646 := NB672_646.out; replace hn646_672 := NB646_672.out; replace hn672_656 := NB672_656.out; replace hn656_672 := NB656_672.out; replace hn672_664 := NB672_664.out; replace hn664_672 := NB664_672.out; replace hc672 := ce6_ BK672; replace hc664 := ce6_ BK664; replace hc656 := ce6_ BK656) | (go_at_call 17; (with_reducible refine (spigotref03_Check.calls t649 t650 t651 t652 t653 t654 t673 _ A27.out).mono ?_); rintro e w69 ⟨rfl, hb⟩; replace BK646 := bf_ BK646 hb; replace BK656 := bf_ BK656 hb; replace BK664 := bf_ BK664 hb; replace BK672 := Aside0.mk (blk_below (g := gb672) (o := .cells #[.int .i64 t665, .int .i64 t666, .int .i64 t667, .int .i64 t668, .int .i64 t669, .int .u64 t670] 26 (0, 0)) (bp6_ (bq_ BK672)) hb); replace HB := bs_ w hb; clear hb; replace hc672 := ce6_ BK672) | (go_at_call 17; (with_reducible refine (spigotref03_Check.calls t665 t666 t667 t668 t669 t670 t674 _ A29.out).mono ?_); rintro e w71 ⟨rfl, hb⟩; replace BK646 := bb_ BK646 hb; replace BK656 := bb_ BK656 hb; replace BK664 := bb_ BK664 hb; replace BK672 := bb_ BK672 hb; replace HB := bs_ w hb; clear hb; replace hc672 := ce6_ BK672; replace hc656 := ce6_ BK656))
     replace BK646 := Aside0.mk (blk_drew BK646.out)
     replace BK656 := Aside0.mk (blk_drew BK656.out)
     replace BK664 := Aside0.mk (blk_drew BK664.out)
     replace BK672 := Aside0.mk (blk_drew BK672.out)
     replace HB := Aside0.mk (below_drew1 HB.out)
     refine start_ (n := 19) (S := fun w' => w'.cell? ⟨gb646, 0, none⟩ = some (.int .i64 a0_0) ∧ w'.cell? ⟨gb646, 1, none⟩ = some (.int .i64 a0_1) ∧ w'.cell? ⟨gb646, 2, none⟩ = some (.int .i64 a0_2) ∧ w'.cell? ⟨gb646, 3, none⟩ = some (.int .i64 a0_3) ∧ w'.cell? ⟨gb646, 4, none⟩ = some (.int .i64 a0_4) ∧ w'.cell? ⟨gb646, 5, none⟩ = some (.int .u64 a0_5)) (ds := []) (bl_ 19 0) (by kernel_rfl) rfl (by kernel_rfl) (cc6_ BK646) (fun hHeld => ?_); refine with_tabW spigotlaw03_BucketTwo.tab8 spigotlaw03_BucketTwo.bits8 (fun HT_ HW_ => ?_)
     generalize w71.drew = w74 at BK646 BK656 BK664 BK672 HB hHeld ⊢
     refine pa_ 0 (some 92) (bl_ 19 1) HT_ ?_
     refine pa_ 3 (some 95) (bl_ 19 9) HT_ ?_
     refine pa_ 4 (some 96) (bl_ 19 25) HT_ ?_
     refine pa_ 8 (some 100) (bl_ 19 281) HT_ ?_
     refine ta_ 1 (some 93) (bl_ 19 283) HT_ HW_ hHeld ?_
     refine pa_ 2 (some 94) (bl_ 19 287) HT_ ?_
     refine ta_ 5 (some 97) (bl_ 19 319) HT_ HW_ hHeld ?_
     refine pa_ 6 (some 98) (bl_ 19 383) HT_ ?_
     refine ta_ 9 (some 101) (bl_ 19 895) HT_ HW_ hHeld ?_
     refine pa_ 10 (some 102) (bl_ 19 1919) HT_ ?_
     refine join_ (σ := Nat) 2 (bl_ 19 131071) (fun s_ => [(99, .agg #[.int .u64 t675, .int .u64 t676]), (103, .agg #[.int .u64 t677, .int .u64 t678]), (104, .tuple #[.agg #[.int .u64 t679, .int .u64 t680], .int .i64 t681]), (13, .pointer (some ⟨s_, 0, none⟩)), (91, .tuple #[.agg #[.int .u64 t679, .int .u64 t680], .int .i64 t681]), (105, .agg #[.int .u64 t679, .int .u64 t680]), (106, .int .i64 t681)]) (fun s_ w' => (w'.cell? ⟨gb646, 0, none⟩ = some (.int .i64 a0_0) ∧ w'.cell? ⟨gb646, 1, none⟩ = some (.int .i64 a0_1) ∧ w'.cell? ⟨gb646, 2, none⟩ = some (.int .i64 a0_2) ∧ w'.cell? ⟨gb646, 3, none⟩ = some (.int .i64 a0_3) ∧ w'.cell? ⟨gb646, 4, none⟩ = some (.int .i64 a0_4) ∧ w'.cell? ⟨gb646, 5, none⟩ = some (.int .u64 a0_5)) ∧ (w'.heap[gb646]? = some (.cells #[.int .i64 a0_0, .int .i64 a0_1, .int .i64 a0_2, .int .i64 a0_3, .int .i64 a0_4, .int .u64 a0_5] 26 (0, 0))) ∧ (w'.heap[gb656]? = some (.cells #[.int .i64 t649, .int .i64 t650, .int .i64 t651, .int .i64 t652, .int .i64 t653, .int .u64 t654] 26 (0, 0))) ∧ (w'.heap[gb664]? = some (.cells #[.int .i64 t657, .int .i64 t658, .int .i64 t659, .int .i64 t660, .int .i64 t661, .int .u64 t662] 26 (0, 0))) ∧ (w'.heap[gb672]? = some (.cells #[.int .i64 t665, .int .i64 t666, .int .i64 t667, .int .i64 t668, .int .i64 t669, .int .u64 t670] 26 (0, 0))) ∧ (w'.heap[s_]? = some (.cells #[.int .u64 0, .int .u64 0] 60 (0, 0))) ∧ (w.heap.size ≤ s_) ∧ (w.heap.size ≤ s_) ∧ (gb646 ≠ s_) ∧ (s_ ≠ gb646) ∧ (gb656 ≠ s_) ∧ (s_ ≠ gb656) ∧ (gb664 ≠ s_) ∧ (s_ ≠ gb664) ∧ (gb672 ≠ s_) ∧ (s_ ≠ gb672) ∧ (Below w.heap.size w w')) ?_ ?_
     rotate_left
     ·intro hCont
      refine tw_ 7 16 (some 99) (some 13) (bl_ 19 2047) (bl_ 19 67455) HT_ (fun K hK => ?_) fun K hK => ?_
      ·refine goesB_ Try.func30 #[.int .u64 (IntKind.u64.wrap (a0_3)), .int .u64 (IntKind.u64.wrap (a0_2))] ?_
       with_reducible refine (wide_Mul.calls (IntKind.u64.wrap (a0_3)) (IntKind.u64.wrap (a0_2)) t675 t676 _ A33.out).mono ?_
       rintro e w75 ⟨rfl, hb⟩
       refine ⟨_, rfl, ?_⟩
       replace BK646 := bb_ BK646 hb
       replace BK656 := bb_ BK656 hb
       replace BK664 := bb_ BK664 hb
       replace BK672 := bb_ BK672 hb
       replace HB := bs_ w hb
       clear hb
       refine hK.out _ _ (cc6_ BK646) (fun hHeld => ?_)
       clear hK K
       refine nm_ (some 99) ?_
       refine tw_ 11 16 (some 103) (some 13) (bl_ 19 4095) (bl_ 19 67583) HT_ (fun K hK => ?_) fun K hK => ?_
       ·refine goesB_ Try.func31 #[.int .u64 (IntKind.u64.wrap (a0_4))] ?_
        with_reducible refine (wide_Of.calls (IntKind.u64.wrap (a0_4)) t677 t678 _ A34.out).mono ?_
        rintro e w76 ⟨rfl, hb⟩
        refine ⟨_, rfl, ?_⟩
        replace BK646 := bb_ BK646 hb
        replace BK656 := bb_ BK656 hb
        replace BK664 := bb_ BK664 hb
        replace BK672 := bb_ BK672 hb
        replace HB := bs_ w hb
        clear hb
        refine hK.out _ _ (cc6_ BK646) (fun hHeld => ?_)
        clear hK K
        refine nm_ (some 103) ?_
        refine tw_ 12 16 (some 104) (some 13) (bl_ 19 8191) (bl_ 19 69631) HT_ (fun K hK => ?_) fun K hK => ?_
        ·refine goesB_ Try.func29 #[.agg #[.int .u64 t675, .int .u64 t676], .agg #[.int .u64 t677, .int .u64 t678]] ?_
         with_reducible refine (wide_Add.calls t675 t676 t677 t678 t679 t680 t681 _ A35.out).mono ?_
         rintro e w77 ⟨rfl, hb⟩
         refine ⟨_, rfl, ?_⟩
         replace BK646 := bb_ BK646 hb
         replace BK656 := bb_ BK656 hb
         replace BK664 := bb_ BK664 hb
         replace BK672 := bb_ BK672 hb
         replace HB := bs_ w hb
         clear hb
         refine hK.out _ _ (cc6_ BK646) (fun hHeld => ?_)
         clear hK K
         refine nm_ (some 104) ?_
         refine pa_ 13 (some 91) (bl_ 19 16383) HT_ ?_
         refine pa_ 14 (some 105) (bl_ 19 32767) HT_ ?_
         refine pa_ 15 (some 106) (bl_ 19 65535) HT_ ?_
         refine oa_ 16 (some 13) (bl_ 19 131071) HT_ fun K hK => ?_
         refine bs2_ #[.int .u64 0, .int .u64 0] 60 ?_
         intro gb682 hg w78 BK682 hb
         have GW682 := bz_ w hg
         have GE682 := GW682
         have NB646_682 := bn_ BK646 hg
         have NB682_646 := bm_ BK646 hg
         have NB656_682 := bn_ BK656 hg
         have NB682_656 := bm_ BK656 hg
         have NB664_682 := bn_ BK664 hg
         have NB682_664 := bm_ BK664 hg
         have NB672_682 := bn_ BK672 hg
         have NB682_672 := bm_ BK672 hg
         replace BK646 := bb_ BK646 hb
         replace BK656 := bb_ BK656 hb
         replace BK664 := bb_ BK664 hb
         replace BK672 := bb_ BK672 hb
         replace HB := bs_ w hb
         clear hb hg
         refine hK.out _ _ (cc6_ BK646) (fun hHeld => ?_)
         clear hK K
         refine nm_ (some 13) ?_
         exact no_ (hCont (gb682) _ ⟨hHeld, (bq_ BK646), (bq_ BK656), (bq_ BK664), (bq_ BK672), (bq_ BK682), GW682.out, GE682.out, NB646_682.out, NB682_646.out, NB656_682.out, NB682_656.out, NB664_682.out, NB682_664.out, NB672_682.out, NB682_672.out, bh_⟩)
        ·refine bs2_ #[.int .u64 0, .int .u64 0] 60 ?_
         intro gb682 hg w77 BK682 hb
         have GW682 := bz_ w hg
         have GE682 := GW682
         have NB646_682 := bn_ BK646 hg
         have NB682_646 := bm_ BK646 hg
         have NB656_682 := bn_ BK656 hg
         have NB682_656 := bm_ BK656 hg
         have NB664_682 := bn_ BK664 hg
         have NB682_664 := bm_ BK664 hg
         have NB672_682 := bn_ BK672 hg
         have NB682_672 := bm_ BK672 hg
         replace BK646 := bb_ BK646 hb
         replace BK656 := bb_ BK656 hb
         replace BK664 := bb_ BK664 hb
         replace BK672 := bb_ BK672 hb
         replace HB := bs_ w hb
         clear hb hg
         refine hK.out _ _ (cc6_ BK646) (fun hHeld => ?_)
         clear hK K
         refine nm_ (some 13) ?_
         refine oa_ 12 (some 104) (bl_ 19 73727) HT_ fun K hK => ?_
         refine goesB_ Try.func29 #[.agg #[.int .u64 t675, .int .u64 t676], .agg #[.int .u64 t677, .int .u64 t678]] ?_
         with_reducible refine (wide_Add.calls t675 t676 t677 t678 t679 t680 t681 _ A35.out).mono ?_
         rintro e w78 ⟨rfl, hb⟩
         refine ⟨_, rfl, ?_⟩
         replace BK646 := bb_ BK646 hb
         replace BK656 := bb_ BK656 hb
         replace BK664 := bb_ BK664 hb
         replace BK672 := bb_ BK672 hb
         replace BK682 := bb_ BK682 hb
         replace HB := bs_ w hb
         clear hb
         refine hK.out _ _ (cc6_ BK646) (fun hHeld => ?_)
         clear hK K
         refine nm_ (some 104) ?_
         refine pa_ 13 (some 91) (bl_ 19 81919) HT_ ?_
         refine pa_ 14 (some 105) (bl_ 19 98303) HT_ ?_
         refine pa_ 15 (some 106) (bl_ 19 131071) HT_ ?_
         exact no_ (hCont (gb682) _ ⟨hHeld, (bq_ BK646), (bq_ BK656), (bq_ BK664), (bq_ BK672), (bq_ BK682), GW682.out, GE682.out, NB646_682.out, NB682_646.out, NB656_682.out, NB682_656.out, NB664_682.out, NB682_664.out, NB672_682.out, NB682_672.out, bh_⟩)
       ·refine bs2_ #[.int .u64 0, .int .u64 0] 60 ?_
        intro gb682 hg w76 BK682 hb
        have GW682 := bz_ w hg
        have GE682 := GW682
        have NB646_682 := bn_ BK646 hg
        have NB682_646 := bm_ BK646 hg
        have NB656_682 := bn_ BK656 hg
        have NB682_656 := bm_ BK656 hg
        have NB664_682 := bn_ BK664 hg
        have NB682_664 := bm_ BK664 hg
        have NB672_682 := bn_ BK672 hg
        have NB682_672 := bm_ BK672 hg
        replace BK646 := bb_ BK646 hb
        replace BK656 := bb_ BK656 hb
        replace BK664 := bb_ BK664 hb
        replace BK672 := bb_ BK672 hb
        replace HB := bs_ w hb
        clear hb hg
        refine hK.out _ _ (cc6_ BK646) (fun hHeld => ?_)
        clear hK K
        refine nm_ (some 13) ?_
        refine oa_ 11 (some 103) (bl_ 19 69631) HT_ fun K hK => ?_
        refine goesB_ Try.func31 #[.int .u64 (IntKind.u64.wrap (a0_4))] ?_
        with_reducible refine (wide_Of.calls (IntKind.u64.wrap (a0_4)) t677 t678 _ A34.out).mono ?_
        rintro e w77 ⟨rfl, hb⟩
        refine ⟨_, rfl, ?_⟩
        replace BK646 := bb_ BK646 hb
        replace BK656 := bb_ BK656 hb
        replace BK664 := bb_ BK664 hb
        replace BK672 := bb_ BK672 hb
        replace BK682 := bb_ BK682 hb
        replace HB := bs_ w hb
        clear hb
        refine hK.out _ _ (cc6_ BK646) (fun hHeld => ?_)
        clear hK K
        refine nm_ (some 103) ?_
        refine oa_ 12 (some 104) (bl_ 19 73727) HT_ fun K hK => ?_
        refine goesB_ Try.func29 #[.agg #[.int .u64 t675, .int .u64 t676], .agg #[.int .u64 t677, .int .u64 t678]] ?_
        with_reducible refine (wide_Add.calls t675 t676 t677 t678 t679 t680 t681 _ A35.out).mono ?_
        rintro e w78 ⟨rfl, hb⟩
        refine ⟨_, rfl, ?_⟩
        replace BK646 := bb_ BK646 hb
        replace BK656 := bb_ BK656 hb
        replace BK664 := bb_ BK664 hb
        replace BK672 := bb_ BK672 hb
        replace BK682 := bb_ BK682 hb
        replace HB := bs_ w hb
        clear hb
        refine hK.out _ _ (cc6_ BK646) (fun hHeld => ?_)
        clear hK K
        refine nm_ (some 104) ?_
        refine pa_ 13 (some 91) (bl_ 19 81919) HT_ ?_
        refine pa_ 14 (some 105) (bl_ 19 98303) HT_ ?_
        refine pa_ 15 (some 106) (bl_ 19 131071) HT_ ?_
        exact no_ (hCont (gb682) _ ⟨hHeld, (bq_ BK646), (bq_ BK656), (bq_ BK664), (bq_ BK672), (bq_ BK682), GW682.out, GE682.out, NB646_682.out, NB682_646.out, NB656_682.out, NB682_656.out, NB664_682.out, NB682_664.out, NB672_682.out, NB682_672.out, bh_⟩)
      ·refine bs2_ #[.int .u64 0, .int .u64 0] 60 ?_
       intro gb682 hg w75 BK682 hb
       have GW682 := bz_ w hg
       have GE682 := GW682
       have NB646_682 := bn_ BK646 hg
       have NB682_646 := bm_ BK646 hg
       have NB656_682 := bn_ BK656 hg
       have NB682_656 := bm_ BK656 hg
       have NB664_682 := bn_ BK664 hg
       have NB682_664 := bm_ BK664 hg
       have NB672_682 := bn_ BK672 hg
       have NB682_672 := bm_ BK672 hg
       replace BK646 := bb_ BK646 hb
       replace BK656 := bb_ BK656 hb
       replace BK664 := bb_ BK664 hb
       replace BK672 := bb_ BK672 hb
       replace HB := bs_ w hb
       clear hb hg
       refine hK.out _ _ (cc6_ BK646) (fun hHeld => ?_)
       clear hK K
       refine nm_ (some 13) ?_
       refine oa_ 7 (some 99) (bl_ 19 67583) HT_ fun K hK => ?_
       refine goesB_ Try.func30 #[.int .u64 (IntKind.u64.wrap (a0_3)), .int .u64 (IntKind.u64.wrap (a0_2))] ?_
       with_reducible refine (wide_Mul.calls (IntKind.u64.wrap (a0_3)) (IntKind.u64.wrap (a0_2)) t675 t676 _ A33.out).mono ?_
       rintro e w76 ⟨rfl, hb⟩
       refine ⟨_, rfl, ?_⟩
       replace BK646 := bb_ BK646 hb
       replace BK656 := bb_ BK656 hb
       replace BK664 := bb_ BK664 hb
       replace BK672 := bb_ BK672 hb
       replace BK682 := bb_ BK682 hb
       replace HB := bs_ w hb
       clear hb
       refine hK.out _ _ (cc6_ BK646) (fun hHeld => ?_)
       clear hK K
       refine nm_ (some 99) ?_
       refine oa_ 11 (some 103) (bl_ 19 69631) HT_ fun K hK => ?_
       refine goesB_ Try.func31 #[.int .u64 (IntKind.u64.wrap (a0_4))] ?_
       with_reducible refine (wide_Of.calls (IntKind.u64.wrap (a0_4)) t677 t678 _ A34.out).mono ?_
       rintro e w77 ⟨rfl, hb⟩
       refine ⟨_, rfl, ?_⟩
       replace BK646 := bb_ BK646 hb
       replace BK656 := bb_ BK656 hb
       replace BK664 := bb_ BK664 hb
       replace BK672 := bb_ BK672 hb
       replace BK682 := bb_ BK682 hb
       replace HB := bs_ w hb
       clear hb
       refine hK.out _ _ (cc6_ BK646) (fun hHeld => ?_)
       clear hK K
       refine nm_ (some 103) ?_
       refine oa_ 12 (some 104) (bl_ 19 73727) HT_ fun K hK => ?_
       refine goesB_ Try.func29 #[.agg #[.int .u64 t675, .int .u64 t676], .agg #[.int .u64 t677, .int .u64 t678]] ?_
       with_reducible refine (wide_Add.calls t675 t676 t677 t678 t679 t680 t681 _ A35.out).mono ?_
       rintro e w78 ⟨rfl, hb⟩
       refine ⟨_, rfl, ?_⟩
       replace BK646 := bb_ BK646 hb
       replace BK656 := bb_ BK656 hb
       replace BK664 := bb_ BK664 hb
       replace BK672 := bb_ BK672 hb
       replace BK682 := bb_ BK682 hb
       replace HB := bs_ w hb
       clear hb
       refine hK.out _ _ (cc6_ BK646) (fun hHeld => ?_)
       clear hK K
       refine nm_ (some 104) ?_
       refine pa_ 13 (some 91) (bl_ 19 81919) HT_ ?_
       refine pa_ 14 (some 105) (bl_ 19 98303) HT_ ?_
       refine pa_ 15 (some 106) (bl_ 19 131071) HT_ ?_
       exact no_ (hCont (gb682) _ ⟨hHeld, (bq_ BK646), (bq_ BK656), (bq_ BK664), (bq_ BK672), (bq_ BK682), GW682.out, GE682.out, NB646_682.out, NB682_646.out, NB656_682.out, NB682_656.out, NB664_682.out, NB682_664.out, NB672_682.out, NB682_672.out, bh_⟩)
     rintro gb682 w79 ⟨hS_, h0_, h1_, h2_, h3_, h4_, h5_, h6_, h7_, h8_, h9_, h10_, h11_, h12_, h13_, h14_, h15_⟩
     have BK682 := Aside0.mk h4_
     have GW682 := Aside0.mk h5_
     have GE682 := Aside0.mk h6_
     have NB646_682 := Aside0.mk h7_
     have NB682_646 := Aside0.mk h8_
     have NB656_682 := Aside0.mk h9_
     have NB682_656 := Aside0.mk h10_
     have NB664_682 := Aside0.mk h11_
     have NB682_664 := Aside0.mk h12_
     have NB672_682 := Aside0.mk h13_
     have NB682_672 := Aside0.mk h14_
     replace BK646 := Aside0.mk h0_
     replace BK656 := Aside0.mk h1_
     replace BK664 := Aside0.mk h2_
     replace BK672 := Aside0.mk h3_
     replace HB := Aside0.mk h15_
     clear h0_ h1_ h2_ h3_ h4_ h5_ h6_ h7_ h8_ h9_ h10_ h11_ h12_ h13_ h14_ h15_
     have hHeld := hS_
     refine nq_ ?_
     refine oa_ 17 none (bl_ 19 262143) HT_ fun K hK => ?_
     have hs80 : w79.cell? ⟨gb682, 0, none⟩ = some (.int .u64 0) := (blk_cell BK682.out 0).trans rfl
     have hfs80 := blk_frozen BK682.out 0
     have hns80_0 := NB646_682.out
     have hns80_1 := NB656_682.out
     have hns80_2 := NB664_682.out
     have hns80_3 := NB672_682.out
     have hms80_0 := NB682_646.out
     have hms80_1 := NB682_656.out
     have hms80_2 := NB682_664.out
     have hms80_3 := NB682_672.out
     have hs81 : w79.cell? ⟨gb682, 1, none⟩ = some (.int .u64 0) := (blk_cell BK682.out 1).trans rfl
     have hfs81 := blk_frozen BK682.out 1
     have hns81_0 := NB646_682.out
     have hns81_1 := NB656_682.out
     have hns81_2 := NB664_682.out
     have hns81_3 := NB672_682.out
     have hms81_0 := NB682_646.out
     have hms81_1 := NB682_656.out
     have hms81_2 := NB682_664.out
     have hms81_3 := NB682_672.out
     refine sk_ ?_
     refine hK.out _ _ (cf6_ hHeld) (fun hHeld => ?_)
     clear hK K
     refine pa_ 18 (some 14) (bl_ 19 524287) HT_ ?_
     refine done_ (done_of HT_.out (by kernel_rfl)) ?_
     try go_wp2
     have n0_ : Aside0 (((w79.setCell ⟨gb682, 0, none⟩ (.int .u64 t679)).setCell ⟨gb682, 1, none⟩ (.int .u64 t680)).heap[gb646]? = some (.cells #[.int .i64 a0_0, .int .i64 a0_1, .int .i64 a0_2, .int .i64 a0_3, .int .i64 a0_4, .int .u64 a0_5] 26 (0, 0))) := ⟨(bt_ BK646)⟩
     have n1_ : Aside0 (((w79.setCell ⟨gb682, 0, none⟩ (.int .u64 t679)).setCell ⟨gb682, 1, none⟩ (.int .u64 t680)).heap[gb656]? = some (.cells #[.int .i64 t649, .int .i64 t650, .int .i64 t651, .int .i64 t652, .int .i64 t653, .int .u64 t654] 26 (0, 0))) := ⟨(bt_ BK656)⟩
     have n2_ : Aside0 (((w79.setCell ⟨gb682, 0, none⟩ (.int .u64 t679)).setCell ⟨gb682, 1, none⟩ (.int .u64 t680)).heap[gb664]? = some (.cells #[.int .i64 t657, .int .i64 t658, .int .i64 t659, .int .i64 t660, .int .i64 t661, .int .u64 t662] 26 (0, 0))) := ⟨(bt_ BK664)⟩
     have n3_ : Aside0 (((w79.setCell ⟨gb682, 0, none⟩ (.int .u64 t679)).setCell ⟨gb682, 1, none⟩ (.int .u64 t680)).heap[gb672]? = some (.cells #[.int .i64 t665, .int .i64 t666, .int .i64 t667, .int .i64 t668, .int .i64 t669, .int .u64 t670] 26 (0, 0))) := ⟨(bt_ BK672)⟩
     have n4_ : Aside0 (((w79.setCell ⟨gb682, 0, none⟩ (.int .u64 t679)).setCell ⟨gb682, 1, none⟩ (.int .u64 t680)).heap[gb682]? = some (.cells #[.int .u64 t679, .int .u64 t680] 60 (0, 0))) := ⟨(bp2_ (bq_ BK682))⟩
     have n5_ : Aside0 (Below w.heap.size w ((w79.setCell ⟨gb682, 0, none⟩ (.int .u64 t679)).setCell ⟨gb682, 1, none⟩ (.int .u64 t680))) := bw_
     (try clear BK646)
     (try clear BK656)
     (try clear BK664)
     (try clear BK672)
     (try clear BK682)
     (try clear HB)
     generalize ((w79.setCell ⟨gb682, 0, none⟩ (.int .u64 t679)).setCell ⟨gb682, 1, none⟩ (.int .u64 t680)) = w82 at n0_ n1_ n2_ n3_ n4_ n5_ ⊢
     have BK646 := n0_
     have BK656 := n1_
     have BK664 := n2_
     have BK672 := n3_
     have BK682 := n4_
     have HB := n5_
     clear n0_ n1_ n2_ n3_ n4_ n5_
     replace BK646 := Aside0.mk (blk_drew BK646.out)
     replace BK656 := Aside0.mk (blk_drew BK656.out)
     replace BK664 := Aside0.mk (blk_drew BK664.out)
     replace BK672 := Aside0.mk (blk_drew BK672.out)
     replace BK682 := Aside0.mk (blk_drew BK682.out)
     replace HB := Aside0.mk (below_drew1 HB.out)
     refine start_ (n := 17) (S := fun w' => w'.cell? ⟨gb682, 0, none⟩ = some (.int .u64 t679) ∧ w'.cell? ⟨gb682, 1, none⟩ = some (.int .u64 t680) ∧ w'.cell? ⟨gb646, 0, none⟩ = some (.int .i64 a0_0) ∧ w'.cell? ⟨gb646, 1, none⟩ = some (.int .i64 a0_1) ∧ w'.cell? ⟨gb646, 2, none⟩ = some (.int .i64 a0_2) ∧ w'.cell? ⟨gb646, 3, none⟩ = some (.int .i64 a0_3) ∧ w'.cell? ⟨gb646, 4, none⟩ = some (.int .i64 a0_4) ∧ w'.cell? ⟨gb646, 5, none⟩ = some (.int .u64 a0_5)) (ds := []) (bl_ 17 0) (by kernel_rfl) rfl (by kernel_rfl) ⟨(blk_cell BK682.out 0).trans rfl, (blk_cell BK682.out 1).trans rfl, (blk_cell BK646.out 0).trans rfl, (blk_cell BK646.out 1).trans rfl, (blk_cell BK646.out 2).trans rfl, (blk_cell BK646.out 3).trans rfl, (blk_cell BK646.out 4).trans rfl, (blk_cell BK646.out 5).trans rfl⟩ (fun hHeld => ?_); refine with_tabW spigotlaw03_BucketTwo.tab9 spigotlaw03_BucketTwo.bits9 (fun HT_ HW_ => ?_)
     generalize w82.drew = w83 at BK646 BK656 BK664 BK672 BK682 HB hHeld ⊢
     refine pa_ 1 (some 109) (bl_ 17 2) HT_ ?_
     refine pa_ 2 (some 110) (bl_ 17 6) HT_ ?_
     refine pa_ 5 (some 113) (bl_ 17 38) HT_ ?_
     refine pa_ 6 (some 114) (bl_ 17 102) HT_ ?_
     refine ta_ 0 (some 108) (bl_ 17 103) HT_ HW_ hHeld ?_
     refine ta_ 3 (some 111) (bl_ 17 111) HT_ HW_ hHeld ?_
     refine pa_ 4 (some 112) (bl_ 17 127) HT_ ?_
     refine ta_ 7 (some 115) (bl_ 17 255) HT_ HW_ hHeld ?_
     refine pa_ 8 (some 116) (bl_ 17 511) HT_ ?_
     refine join_ (σ := Nat) 2 (bl_ 17 32767) (fun s_ => [(117, .agg #[.int .u64 t683, .int .u64 t684]), (118, .tuple #[.agg #[.int .u64 t685, .int .u64 t686], .int .i64 t687]), (15, .pointer (some ⟨s_, 0, none⟩)), (107, .tuple #[.agg #[.int .u64 t685, .int .u64 t686], .int .i64 t687]), (119, .agg #[.int .u64 t685, .int .u64 t686]), (120, .int .i64 t687)]) (fun s_ w' => (w'.cell? ⟨gb682, 0, none⟩ = some (.int .u64 t679) ∧ w'.cell? ⟨gb682, 1, none⟩ = some (.int .u64 t680) ∧ w'.cell? ⟨gb646, 0, none⟩ = some (.int .i64 a0_0) ∧ w'.cell? ⟨gb646, 1, none⟩ = some (.int .i64 a0_1) ∧ w'.cell? ⟨gb646, 2, none⟩ = some (.int .i64 a0_2) ∧ w'.cell? ⟨gb646, 3, none⟩ = some (.int .i64 a0_3) ∧ w'.cell? ⟨gb646, 4, none⟩ = some (.int .i64 a0_4) ∧ w'.cell? ⟨gb646, 5, none⟩ = some (.int .u64 a0_5)) ∧ (w'.heap[gb646]? = some (.cells #[.int .i64 a0_0, .int .i64 a0_1, .int .i64 a0_2, .int .i64 a0_3, .int .i64 a0_4, .int .u64 a0_5] 26 (0, 0))) ∧ (w'.heap[gb656]? = some (.cells #[.int .i64 t649, .int .i64 t650, .int .i64 t651, .int .i64 t652, .int .i64 t653, .int .u64 t654] 26 (0, 0))) ∧ (w'.heap[gb664]? = some (.cells #[.int .i64 t657, .int .i64 t658, .int .i64 t659, .int .i64 t660, .int .i64 t661, .int .u64 t662] 26 (0, 0))) ∧ (w'.heap[gb672]? = some (.cells #[.int .i64 t665, .int .i64 t666, .int .i64 t667, .int .i64 t668, .int .i64 t669, .int .u64 t670] 26 (0, 0))) ∧ (w'.heap[gb682]? = some (.cells #[.int .u64 t679, .int .u64 t680] 60 (0, 0))) ∧ (w'.heap[s_]? = some (.cells #[.int .u64 0, .int .u64 0] 60 (0, 0))) ∧ (w.heap.size ≤ s_) ∧ (w.heap.size ≤ s_) ∧ (gb646 ≠ s_) ∧ (s_ ≠ gb646) ∧ (gb656 ≠ s_) ∧ (s_ ≠ gb656) ∧ (gb664 ≠ s_) ∧ (s_ ≠ gb664) ∧ (gb672 ≠ s_) ∧ (s_ ≠ gb672) ∧ (gb682 ≠ s_) ∧ (s_ ≠ gb682) ∧ (Below w.heap.size w w')) ?_ ?_
     rotate_left
     ·intro hCont
      refine tw_ 9 14 (some 117) (some 15) (bl_ 17 1023) (bl_ 17 16895) HT_ (fun K hK => ?_) fun K hK => ?_
      ·refine goesB_ Try.func30 #[.int .u64 (IntKind.u64.wrap (a2 - a0_5)), .int .u64 (IntKind.u64.wrap (a0_1))] ?_
       with_reducible refine (wide_Mul.calls (IntKind.u64.wrap (a2 - a0_5)) (IntKind.u64.wrap (a0_1)) t683 t684 _ A36.out).mono ?_
       rintro e w84 ⟨rfl, hb⟩
       refine ⟨_, rfl, ?_⟩
       replace BK646 := bb_ BK646 hb
       replace BK656 := bb_ BK656 hb
       replace BK664 := bb_ BK664 hb
       replace BK672 := bb_ BK672 hb
       replace BK682 := bb_ BK682 hb
       replace HB := bs_ w hb
       clear hb
       refine hK.out _ _ ⟨(blk_cell BK682.out 0).trans rfl, (blk_cell BK682.out 1).trans rfl, (blk_cell BK646.out 0).trans rfl, (blk_cell BK646.out 1).trans rfl, (blk_cell BK646.out 2).trans rfl, (blk_cell BK646.out 3).trans rfl, (blk_cell BK646.out 4).trans rfl, (blk_cell BK646.out 5).trans rfl⟩ (fun hHeld => ?_)
       clear hK K
       refine nm_ (some 117) ?_
       refine tw_ 10 14 (some 118) (some 15) (bl_ 17 2047) (bl_ 17 17407) HT_ (fun K hK => ?_) fun K hK => ?_
       ·refine goesB_ Try.func29 #[.agg #[.int .u64 t679, .int .u64 t680], .agg #[.int .u64 t683, .int .u64 t684]] ?_
        with_reducible refine (wide_Add.calls t679 t680 t683 t684 t685 t686 t687 _ A37.out).mono ?_
        rintro e w85 ⟨rfl, hb⟩
        refine ⟨_, rfl, ?_⟩
        replace BK646 := bb_ BK646 hb
        replace BK656 := bb_ BK656 hb
        replace BK664 := bb_ BK664 hb
        replace BK672 := bb_ BK672 hb
        replace BK682 := bb_ BK682 hb
        replace HB := bs_ w hb
        clear hb
        refine hK.out _ _ ⟨(blk_cell BK682.out 0).trans rfl, (blk_cell BK682.out 1).trans rfl, (blk_cell BK646.out 0).trans rfl, (blk_cell BK646.out 1).trans rfl, (blk_cell BK646.out 2).trans rfl, (blk_cell BK646.out 3).trans rfl, (blk_cell BK646.out 4).trans rfl, (blk_cell BK646.out 5).trans rfl⟩ (fun hHeld => ?_)
        clear hK K
        refine nm_ (some 118) ?_
        refine pa_ 11 (some 107) (bl_ 17 4095) HT_ ?_
        refine pa_ 12 (some 119) (bl_ 17 8191) HT_ ?_
        refine pa_ 13 (some 120) (bl_ 17 16383) HT_ ?_
        refine oa_ 14 (some 15) (bl_ 17 32767) HT_ fun K hK => ?_
        refine bs2_ #[.int .u64 0, .int .u64 0] 60 ?_
        intro gb688 hg w86 BK688 hb
        have GW688 := bz_ w hg
        have GE688 := GW688
        have NB646_688 := bn_ BK646 hg
        have NB688_646 := bm_ BK646 hg
        have NB656_688 := bn_ BK656 hg
        have NB688_656 := bm_ BK656 hg
        have NB664_688 := bn_ BK664 hg
        have NB688_664 := bm_ BK664 hg
        have NB672_688 := bn_ BK672 hg
        have NB688_672 := bm_ BK672 hg
        have NB682_688 := bn_ BK682 hg
        have NB688_682 := bm_ BK682 hg
        replace BK646 := bb_ BK646 hb
        replace BK656 := bb_ BK656 hb
        replace BK664 := bb_ BK664 hb
        replace BK672 := bb_ BK672 hb
        replace BK682 := bb_ BK682 hb
        replace HB := bs_ w hb
        clear hb hg
        refine hK.out _ _ ⟨(blk_cell BK682.out 0).trans rfl, (blk_cell BK682.out 1).trans rfl, (blk_cell BK646.out 0).trans rfl, (blk_cell BK646.out 1).trans rfl, (blk_cell BK646.out 2).trans rfl, (blk_cell BK646.out 3).trans rfl, (blk_cell BK646.out 4).trans rfl, (blk_cell BK646.out 5).trans rfl⟩ (fun hHeld => ?_)
        clear hK K
        refine nm_ (some 15) ?_
        exact no_ (hCont (gb688) _ ⟨hHeld, (bq_ BK646), (bq_ BK656), (bq_ BK664), (bq_ BK672), (bq_ BK682), (bq_ BK688), GW688.out, GE688.out, NB646_688.out, NB688_646.out, NB656_688.out, NB688_656.out, NB664_688.out, NB688_664.out, NB672_688.out, NB688_672.out, NB682_688.out, NB688_682.out, bh_⟩)
       ·refine bs2_ #[.int .u64 0, .int .u64 0] 60 ?_
        intro gb688 hg w85 BK688 hb
        have GW688 := bz_ w hg
        have GE688 := GW688
        have NB646_688 := bn_ BK646 hg
        have NB688_646 := bm_ BK646 hg
        have NB656_688 := bn_ BK656 hg
        have NB688_656 := bm_ BK656 hg
        have NB664_688 := bn_ BK664 hg
        have NB688_664 := bm_ BK664 hg
        have NB672_688 := bn_ BK672 hg
        have NB688_672 := bm_ BK672 hg
        have NB682_688 := bn_ BK682 hg
        have NB688_682 := bm_ BK682 hg
        replace BK646 := bb_ BK646 hb
        replace BK656 := bb_ BK656 hb
        replace BK664 := bb_ BK664 hb
        replace BK672 := bb_ BK672 hb
        replace BK682 := bb_ BK682 hb
        replace HB := bs_ w hb
        clear hb hg
        refine hK.out _ _ ⟨(blk_cell BK682.out 0).trans rfl, (blk_cell BK682.out 1).trans rfl, (blk_cell BK646.out 0).trans rfl, (blk_cell BK646.out 1).trans rfl, (blk_cell BK646.out 2).trans rfl, (blk_cell BK646.out 3).trans rfl, (blk_cell BK646.out 4).trans rfl, (blk_cell BK646.out 5).trans rfl⟩ (fun hHeld => ?_)
        clear hK K
        refine nm_ (some 15) ?_
        refine oa_ 10 (some 118) (bl_ 17 18431) HT_ fun K hK => ?_
        refine goesB_ Try.func29 #[.agg #[.int .u64 t679, .int .u64 t680], .agg #[.int .u64 t683, .int .u64 t684]] ?_
        with_reducible refine (wide_Add.calls t679 t680 t683 t684 t685 t686 t687 _ A37.out).mono ?_
        rintro e w86 ⟨rfl, hb⟩
        refine ⟨_, rfl, ?_⟩
        replace BK646 := bb_ BK646 hb
        replace BK656 := bb_ BK656 hb
        replace BK664 := bb_ BK664 hb
        replace BK672 := bb_ BK672 hb
        replace BK682 := bb_ BK682 hb
        replace BK688 := bb_ BK688 hb
        replace HB := bs_ w hb
        clear hb
        refine hK.out _ _ ⟨(blk_cell BK682.out 0).trans rfl, (blk_cell BK682.out 1).trans rfl, (blk_cell BK646.out 0).trans rfl, (blk_cell BK646.out 1).trans rfl, (blk_cell BK646.out 2).trans rfl, (blk_cell BK646.out 3).trans rfl, (blk_cell BK646.out 4).trans rfl, (blk_cell BK646.out 5).trans rfl⟩ (fun hHeld => ?_)
        clear hK K
        refine nm_ (some 118) ?_
        refine pa_ 11 (some 107) (bl_ 17 20479) HT_ ?_
        refine pa_ 12 (some 119) (bl_ 17 24575) HT_ ?_
        refine pa_ 13 (some 120) (bl_ 17 32767) HT_ ?_
        exact no_ (hCont (gb688) _ ⟨hHeld, (bq_ BK646), (bq_ BK656), (bq_ BK664), (bq_ BK672), (bq_ BK682), (bq_ BK688), GW688.out, GE688.out, NB646_688.out, NB688_646.out, NB656_688.out, NB688_656.out, NB664_688.out, NB688_664.out, NB672_688.out, NB688_672.out, NB682_688.out, NB688_682.out, bh_⟩)
      ·refine bs2_ #[.int .u64 0, .int .u64 0] 60 ?_
       intro gb688 hg w84 BK688 hb
       have GW688 := bz_ w hg
       have GE688 := GW688
       have NB646_688 := bn_ BK646 hg
       have NB688_646 := bm_ BK646 hg
       have NB656_688 := bn_ BK656 hg
       have NB688_656 := bm_ BK656 hg
       have NB664_688 := bn_ BK664 hg
       have NB688_664 := bm_ BK664 hg
       have NB672_688 := bn_ BK672 hg
       have NB688_672 := bm_ BK672 hg
       have NB682_688 := bn_ BK682 hg
       have NB688_682 := bm_ BK682 hg
       replace BK646 := bb_ BK646 hb
       replace BK656 := bb_ BK656 hb
       replace BK664 := bb_ BK664 hb
       replace BK672 := bb_ BK672 hb
       replace BK682 := bb_ BK682 hb
       replace HB := bs_ w hb
       clear hb hg
       refine hK.out _ _ ⟨(blk_cell BK682.out 0).trans rfl, (blk_cell BK682.out 1).trans rfl, (blk_cell BK646.out 0).trans rfl, (blk_cell BK646.out 1).trans rfl, (blk_cell BK646.out 2).trans rfl, (blk_cell BK646.out 3).trans rfl, (blk_cell BK646.out 4).trans rfl, (blk_cell BK646.out 5).trans rfl⟩ (fun hHeld => ?_)
       clear hK K
       refine nm_ (some 15) ?_
       refine oa_ 9 (some 117) (bl_ 17 17407) HT_ fun K hK => ?_
       refine goesB_ Try.func30 #[.int .u64 (IntKind.u64.wrap (a2 - a0_5)), .int .u64 (IntKind.u64.wrap (a0_1))] ?_
       with_reducible refine (wide_Mul.calls (IntKind.u64.wrap (a2 - a0_5)) (IntKind.u64.wrap (a0_1)) t683 t684 _ A36.out).mono ?_
       rintro e w85 ⟨rfl, hb⟩
       refine ⟨_, rfl, ?_⟩
       replace BK646 := bb_ BK646 hb
       replace BK656 := bb_ BK656 hb
       replace BK664 := bb_ BK664 hb
       replace BK672 := bb_ BK672 hb
       replace BK682 := bb_ BK682 hb
       replace BK688 := bb_ BK688 hb
       replace HB := bs_ w hb
       clear hb
       refine hK.out _ _ ⟨(blk_cell BK682.out 0).trans rfl, (blk_cell BK682.out 1).trans rfl, (blk_cell BK646.out 0).trans rfl, (blk_cell BK646.out 1).trans rfl, (blk_cell BK646.out 2).trans rfl, (blk_cell BK646.out 3).trans rfl, (blk_cell BK646.out 4).trans rfl, (blk_cell BK646.out 5).trans rfl⟩ (fun hHeld => ?_)
       clear hK K
       refine nm_ (some 117) ?_
       refine oa_ 10 (some 118) (bl_ 17 18431) HT_ fun K hK => ?_
       refine goesB_ Try.func29 #[.agg #[.int .u64 t679, .int .u64 t680], .agg #[.int .u64 t683, .int .u64 t684]] ?_
       with_reducible refine (wide_Add.calls t679 t680 t683 t684 t685 t686 t687 _ A37.out).mono ?_
       rintro e w86 ⟨rfl, hb⟩
       refine ⟨_, rfl, ?_⟩
       replace BK646 := bb_ BK646 hb
       replace BK656 := bb_ BK656 hb
       replace BK664 := bb_ BK664 hb
       replace BK672 := bb_ BK672 hb
       replace BK682 := bb_ BK682 hb
       replace BK688 := bb_ BK688 hb
       replace HB := bs_ w hb
       clear hb
       refine hK.out _ _ ⟨(blk_cell BK682.out 0).trans rfl, (blk_cell BK682.out 1).trans rfl, (blk_cell BK646.out 0).trans rfl, (blk_cell BK646.out 1).trans rfl, (blk_cell BK646.out 2).trans rfl, (blk_cell BK646.out 3).trans rfl, (blk_cell BK646.out 4).trans rfl, (blk_cell BK646.out 5).trans rfl⟩ (fun hHeld => ?_)
       clear hK K
       refine nm_ (some 118) ?_
       refine pa_ 11 (some 107) (bl_ 17 20479) HT_ ?_
       refine pa_ 12 (some 119) (bl_ 17 24575) HT_ ?_
       refine pa_ 13 (some 120) (bl_ 17 32767) HT_ ?_
       exact no_ (hCont (gb688) _ ⟨hHeld, (bq_ BK646), (bq_ BK656), (bq_ BK664), (bq_ BK672), (bq_ BK682), (bq_ BK688), GW688.out, GE688.out, NB646_688.out, NB688_646.out, NB656_688.out, NB688_656.out, NB664_688.out, NB688_664.out, NB672_688.out, NB688_672.out, NB682_688.out, NB688_682.out, bh_⟩)
     rintro gb688 w87 ⟨hS_, h0_, h1_, h2_, h3_, h4_, h5_, h6_, h7_, h8_, h9_, h10_, h11_, h12_, h13_, h14_, h15_, h16_, h17_, h18_⟩
     have BK688 := Aside0.mk h5_
     have GW688 := Aside0.mk h6_
     have GE688 := Aside0.mk h7_
     have NB646_688 := Aside0.mk h8_
     have NB688_646 := Aside0.mk h9_
     have NB656_688 := Aside0.mk h10_
     have NB688_656 := Aside0.mk h11_
     have NB664_688 := Aside0.mk h12_
     have NB688_664 := Aside0.mk h13_
     have NB672_688 := Aside0.mk h14_
     have NB688_672 := Aside0.mk h15_
     have NB682_688 := Aside0.mk h16_
     have NB688_682 := Aside0.mk h17_
     replace BK646 := Aside0.mk h0_
     replace BK656 := Aside0.mk h1_
     replace BK664 := Aside0.mk h2_
     replace BK672 := Aside0.mk h3_
     replace BK682 := Aside0.mk h4_
     replace HB := Aside0.mk h18_
     clear h0_ h1_ h2_ h3_ h4_ h5_ h6_ h7_ h8_ h9_ h10_ h11_ h12_ h13_ h14_ h15_ h16_ h17_ h18_
     have hHeld := hS_
     refine nq_ ?_
     refine oa_ 15 none (bl_ 17 65535) HT_ fun K hK => ?_
     have hs88 : w87.cell? ⟨gb688, 0, none⟩ = some (.int .u64 0) := (blk_cell BK688.out 0).trans rfl
     have hfs88 := blk_frozen BK688.out 0
     have hns88_0 := NB646_688.out
     have hns88_1 := NB656_688.out
     have hns88_2 := NB664_688.out
     have hns88_3 := NB672_688.out
     have hns88_4 := NB682_688.out
     have hms88_0 := NB688_646.out
     have hms88_1 := NB688_656.out
     have hms88_2 := NB688_664.out
     have hms88_3 := NB688_672.out
     have hms88_4 := NB688_682.out
     have hs89 : w87.cell? ⟨gb688, 1, none⟩ = some (.int .u64 0) := (blk_cell BK688.out 1).trans rfl
     have hfs89 := blk_frozen BK688.out 1
     have hns89_0 := NB646_688.out
     have hns89_1 := NB656_688.out
     have hns89_2 := NB664_688.out
     have hns89_3 := NB672_688.out
     have hns89_4 := NB682_688.out
     have hms89_0 := NB688_646.out
     have hms89_1 := NB688_656.out
     have hms89_2 := NB688_664.out
     have hms89_3 := NB688_672.out
     have hms89_4 := NB688_682.out
     refine sk_ ?_
     refine hK.out _ _ ⟨((cell_far (p := ⟨gb688, _, none⟩) NB682_688.out _).trans (((cell_far (p := ⟨gb688, _, none⟩) NB682_688.out _).trans (hHeld.1)))), ((cell_far (p := ⟨gb688, _, none⟩) NB682_688.out _).trans (((cell_far (p := ⟨gb688, _, none⟩) NB682_688.out _).trans (hHeld.2.1)))), ((cell_far (p := ⟨gb688, _, none⟩) NB646_688.out _).trans (((cell_far (p := ⟨gb688, _, none⟩) NB646_688.out _).trans (hHeld.2.2.1)))), ((cell_far (p := ⟨gb688, _, none⟩) NB646_688.out _).trans (((cell_far (p := ⟨gb688, _, none⟩) NB646_688.out _).trans (hHeld.2.2.2.1)))), ((cell_far (p := ⟨gb688, _, none⟩) NB646_688.out _).trans (((cell_far (p := ⟨gb688, _, none⟩) NB646_688.out _).trans (hHeld.2.2.2.2.1)))), ((cell_far (p := ⟨gb688, _, none⟩) NB646_688.out _).trans (((cell_far (p := ⟨gb688, _, none⟩) NB646_688.out _).trans (hHeld.2.2.2.2.2.1)))), ((cell_far (p := ⟨gb688, _, none⟩) NB646_688.out _).trans (((cell_far (p := ⟨gb688, _, none⟩) NB646_688.out _).trans (hHeld.2.2.2.2.2.2.1)))), ((cell_far (p := ⟨gb688, _, none⟩) NB646_688.out _).trans (((cell_far (p := ⟨gb688, _, none⟩) NB646_688.out _).trans (hHeld.2.2.2.2.2.2.2))))⟩ (fun hHeld => ?_)
     clear hK K
     refine pa_ 16 (some 16) (bl_ 17 131071) HT_ ?_
     refine done_ (done_of HT_.out (by kernel_rfl)) ?_
     try go_wp2
     have n0_ : Aside0 (((w87.setCell ⟨gb688, 0, none⟩ (.int .u64 t685)).setCell ⟨gb688, 1, none⟩ (.int .u64 t686)).heap[gb646]? = some (.cells #[.int .i64 a0_0, .int .i64 a0_1, .int .i64 a0_2, .int .i64 a0_3, .int .i64 a0_4, .int .u64 a0_5] 26 (0, 0))) := ⟨(bt_ BK646)⟩
     have n1_ : Aside0 (((w87.setCell ⟨gb688, 0, none⟩ (.int .u64 t685)).setCell ⟨gb688, 1, none⟩ (.int .u64 t686)).heap[gb656]? = some (.cells #[.int .i64 t649, .int .i64 t650, .int .i64 t651, .int .i64 t652, .int .i64 t653, .int .u64 t654] 26 (0, 0))) := ⟨(bt_ BK656)⟩
     have n2_ : Aside0 (((w87.setCell ⟨gb688, 0, none⟩ (.int .u64 t685)).setCell ⟨gb688, 1, none⟩ (.int .u64 t686)).heap[gb664]? = some (.cells #[.int .i64 t657, .int .i64 t658, .int .i64 t659, .int .i64 t660, .int .i64 t661, .int .u64 t662] 26 (0, 0))) := ⟨(bt_ BK664)⟩
     have n3_ : Aside0 (((w87.setCell ⟨gb688, 0, none⟩ (.int .u64 t685)).setCell ⟨gb688, 1, none⟩ (.int .u64 t686)).heap[gb672]? = some (.cells #[.int .i64 t665, .int .i64 t666, .int .i64 t667, .int .i64 t668, .int .i64 t669, .int .u64 t670] 26 (0, 0))) := ⟨(bt_ BK672)⟩
     have n4_ : Aside0 (((w87.setCell ⟨gb688, 0, none⟩ (.int .u64 t685)).setCell ⟨gb688, 1, none⟩ (.int .u64 t686)).heap[gb682]? = some (.cells #[.int .u64 t679, .int .u64 t680] 60 (0, 0))) := ⟨(bt_ BK682)⟩
     have n5_ : Aside0 (((w87.setCell ⟨gb688, 0, none⟩ (.int .u64 t685)).setCell ⟨gb688, 1, none⟩ (.int .u64 t686)).heap[gb688]? = some (.cells #[.int .u64 t685, .int .u64 t686] 60 (0, 0))) := ⟨(bp2_ (bq_ BK688))⟩
     have n6_ : Aside0 (Below w.heap.size w ((w87.setCell ⟨gb688, 0, none⟩ (.int .u64 t685)).setCell ⟨gb688, 1, none⟩ (.int .u64 t686))) := bw_
     (try clear BK646)
     (try clear BK656)
     (try clear BK664)
     (try clear BK672)
     (try clear BK682)
     (try clear BK688)
     (try clear HB)
     generalize ((w87.setCell ⟨gb688, 0, none⟩ (.int .u64 t685)).setCell ⟨gb688, 1, none⟩ (.int .u64 t686)) = w90 at n0_ n1_ n2_ n3_ n4_ n5_ n6_ ⊢
     have BK646 := n0_
     have BK656 := n1_
     have BK664 := n2_
     have BK672 := n3_
     have BK682 := n4_
     have BK688 := n5_
     have HB := n6_
     clear n0_ n1_ n2_ n3_ n4_ n5_ n6_
     replace BK646 := Aside0.mk (blk_drew BK646.out)
     replace BK656 := Aside0.mk (blk_drew BK656.out)
     replace BK664 := Aside0.mk (blk_drew BK664.out)
     replace BK672 := Aside0.mk (blk_drew BK672.out)
     replace BK682 := Aside0.mk (blk_drew BK682.out)
     replace BK688 := Aside0.mk (blk_drew BK688.out)
     replace HB := Aside0.mk (below_drew1 HB.out)
     refine start_ (n := 19) (S := fun w' => w'.cell? ⟨gb672, 0, none⟩ = some (.int .i64 t665) ∧ w'.cell? ⟨gb672, 1, none⟩ = some (.int .i64 t666) ∧ w'.cell? ⟨gb672, 2, none⟩ = some (.int .i64 t667) ∧ w'.cell? ⟨gb672, 3, none⟩ = some (.int .i64 t668) ∧ w'.cell? ⟨gb672, 4, none⟩ = some (.int .i64 t669) ∧ w'.cell? ⟨gb672, 5, none⟩ = some (.int .u64 t670) ∧ w'.cell? ⟨gb646, 0, none⟩ = some (.int .i64 a0_0) ∧ w'.cell? ⟨gb646, 1, none⟩ = some (.int .i64 a0_1) ∧ w'.cell? ⟨gb646, 2, none⟩ = some (.int .i64 a0_2) ∧ w'.cell? ⟨gb646, 3, none⟩ = some (.int .i64 a0_3) ∧ w'.cell? ⟨gb646, 4, none⟩ = some (.int .i64 a0_4) ∧ w'.cell? ⟨gb646, 5, none⟩ = some (.int .u64 a0_5)) (ds := []) (bl_ 19 0) (by kernel_rfl) rfl (by kernel_rfl) ⟨(blk_cell BK672.out 0).trans rfl, (blk_cell BK672.out 1).trans rfl, (blk_cell BK672.out 2).trans rfl, (blk_cell BK672.out 3).trans rfl, (blk_cell BK672.out 4).trans rfl, (blk_cell BK672.out 5).trans rfl, (blk_cell BK646.out 0).trans rfl, (blk_cell BK646.out 1).trans rfl, (blk_cell BK646.out 2).trans rfl, (blk_cell BK646.out 3).trans rfl, (blk_cell BK646.out 4).trans rfl, (blk_cell BK646.out 5).trans rfl⟩ (fun hHeld => ?_); refine with_tabW spigotlaw03_BucketTwo.tab10 spigotlaw03_BucketTwo.bits10 (fun HT_ HW_ => ?_)
     generalize w90.drew = w91 at BK646 BK656 BK664 BK672 BK682 BK688 HB hHeld ⊢
     refine pa_ 0 (some 122) (bl_ 19 1) HT_ ?_
     refine pa_ 3 (some 125) (bl_ 19 9) HT_ ?_
     refine pa_ 4 (some 126) (bl_ 19 25) HT_ ?_
     refine pa_ 8 (some 130) (bl_ 19 281) HT_ ?_
     refine ta_ 1 (some 123) (bl_ 19 283) HT_ HW_ hHeld ?_
     refine pa_ 2 (some 124) (bl_ 19 287) HT_ ?_
     refine ta_ 5 (some 127) (bl_ 19 319) HT_ HW_ hHeld ?_
     refine pa_ 6 (some 128) (bl_ 19 383) HT_ ?_
     refine ta_ 9 (some 131) (bl_ 19 895) HT_ HW_ hHeld ?_
     refine pa_ 10 (some 132) (bl_ 19 1919) HT_ ?_
     refine join_ (σ := Nat) 2 (bl_ 19 131071) (fun s_ => [(129, .agg #[.int .u64 t689, .int .u64 t690]), (133, .agg #[.int .u64 t691, .int .u64 t692]), (134, .tuple #[.agg #[.int .u64 t693, .int .u64 t694], .int .i64 t695]), (17, .pointer (some ⟨s_, 0, none⟩)), (121, .tuple #[.agg #[.int .u64 t693, .int .u64 t694], .int .i64 t695]), (135, .agg #[.int .u64 t693, .int .u64 t694]), (136, .int .i64 t695)]) (fun s_ w' => (w'.cell? ⟨gb672, 0, none⟩ = some (.int .i64 t665) ∧ w'.cell? ⟨gb672, 1, none⟩ = some (.int .i64 t666) ∧ w'.cell? ⟨gb672, 2, none⟩ = some (.int .i64 t667) ∧ w'.cell? ⟨gb672, 3, none⟩ = some (.int .i64 t668) ∧ w'.cell? ⟨gb672, 4, none⟩ = some (.int .i64 t669) ∧ w'.cell? ⟨gb672, 5, none⟩ = some (.int .u64 t670) ∧ w'.cell? ⟨gb646, 0, none⟩ = some (.int .i64 a0_0) ∧ w'.cell? ⟨gb646, 1, none⟩ = some (.int .i64 a0_1) ∧ w'.cell? ⟨gb646, 2, none⟩ = some (.int .i64 a0_2) ∧ w'.cell? ⟨gb646, 3, none⟩ = some (.int .i64 a0_3) ∧ w'.cell? ⟨gb646, 4, none⟩ = some (.int .i64 a0_4) ∧ w'.cell? ⟨gb646, 5, none⟩ = some (.int .u64 a0_5)) ∧ (w'.heap[gb646]? = some (.cells #[.int .i64 a0_0, .int .i64 a0_1, .int .i64 a0_2, .int .i64 a0_3, .int .i64 a0_4, .int .u64 a0_5] 26 (0, 0))) ∧ (w'.heap[gb656]? = some (.cells #[.int .i64 t649, .int .i64 t650, .int .i64 t651, .int .i64 t652, .int .i64 t653, .int .u64 t654] 26 (0, 0))) ∧ (w'.heap[gb664]? = some (.cells #[.int .i64 t657, .int .i64 t658, .int .i64 t659, .int .i64 t660, .int .i64 t661, .int .u64 t662] 26 (0, 0))) ∧ (w'.heap[gb672]? = some (.cells #[.int .i64 t665, .int .i64 t666, .int .i64 t667, .int .i64 t668, .int .i64 t669, .int .u64 t670] 26 (0, 0))) ∧ (w'.heap[gb682]? = some (.cells #[.int .u64 t679, .int .u64 t680] 60 (0, 0))) ∧ (w'.heap[gb688]? = some (.cells #[.int .u64 t685, .int .u64 t686] 60 (0, 0))) ∧ (w'.heap[s_]? = some (.cells #[.int .u64 0, .int .u64 0] 60 (0, 0))) ∧ (w.heap.size ≤ s_) ∧ (w.heap.size ≤ s_) ∧ (gb646 ≠ s_) ∧ (s_ ≠ gb646) ∧ (gb656 ≠ s_) ∧ (s_ ≠ gb656) ∧ (gb664 ≠ s_) ∧ (s_ ≠ gb664) ∧ (gb672 ≠ s_) ∧ (s_ ≠ gb672) ∧ (gb682 ≠ s_) ∧ (s_ ≠ gb682) ∧ (gb688 ≠ s_) ∧ (s_ ≠ gb688) ∧ (Below w.heap.size w w')) ?_ ?_
     rotate_left
     ·intro hCont
      refine tw_ 7 16 (some 129) (some 17) (bl_ 19 2047) (bl_ 19 67455) HT_ (fun K hK => ?_) fun K hK => ?_
      ·refine goesB_ Try.func30 #[.int .u64 (IntKind.u64.wrap (t668)), .int .u64 (IntKind.u64.wrap (a0_2))] ?_
       with_reducible refine (wide_Mul.calls (IntKind.u64.wrap (t668)) (IntKind.u64.wrap (a0_2)) t689 t690 _ A38.out).mono ?_
       rintro e w92 ⟨rfl, hb⟩
       refine ⟨_, rfl, ?_⟩
       replace BK646 := bb_ BK646 hb
       replace BK656 := bb_ BK656 hb
       replace BK664 := bb_ BK664 hb
       replace BK672 := bb_ BK672 hb
       replace BK682 := bb_ BK682 hb
       replace BK688 := bb_ BK688 hb
       replace HB := bs_ w hb
       clear hb
       refine hK.out _ _ ⟨(blk_cell BK672.out 0).trans rfl, (blk_cell BK672.out 1).trans rfl, (blk_cell BK672.out 2).trans rfl, (blk_cell BK672.out 3).trans rfl, (blk_cell BK672.out 4).trans rfl, (blk_cell BK672.out 5).trans rfl, (blk_cell BK646.out 0).trans rfl, (blk_cell BK646.out 1).trans rfl, (blk_cell BK646.out 2).trans rfl, (blk_cell BK646.out 3).trans rfl, (blk_cell BK646.out 4).trans rfl, (blk_cell BK646.out 5).trans rfl⟩ (fun hHeld => ?_)
       clear hK K
       refine nm_ (some 129) ?_
       refine tw_ 11 16 (some 133) (some 17) (bl_ 19 4095) (bl_ 19 67583) HT_ (fun K hK => ?_) fun K hK => ?_
       ·refine goesB_ Try.func31 #[.int .u64 (IntKind.u64.wrap (t669))] ?_
        with_reducible refine (wide_Of.calls (IntKind.u64.wrap (t669)) t691 t692 _ A39.out).mono ?_
        rintro e w93 ⟨rfl, hb⟩
        refine ⟨_, rfl, ?_⟩
        replace BK646 := bb_ BK646 hb
        replace BK656 := bb_ BK656 hb
        replace BK664 := bb_ BK664 hb
        replace BK672 := bb_ BK672 hb
        replace BK682 := bb_ BK682 hb
        replace BK688 := bb_ BK688 hb
        replace HB := bs_ w hb
        clear hb
        refine hK.out _ _ ⟨(blk_cell BK672.out 0).trans rfl, (blk_cell BK672.out 1).trans rfl, (blk_cell BK672.out 2).trans rfl, (blk_cell BK672.out 3).trans rfl, (blk_cell BK672.out 4).trans rfl, (blk_cell BK672.out 5).trans rfl, (blk_cell BK646.out 0).trans rfl, (blk_cell BK646.out 1).trans rfl, (blk_cell BK646.out 2).trans rfl, (blk_cell BK646.out 3).trans rfl, (blk_cell BK646.out 4).trans rfl, (blk_cell BK646.out 5).trans rfl⟩ (fun hHeld => ?_)
        clear hK K
        refine nm_ (some 133) ?_
        refine tw_ 12 16 (some 134) (some 17) (bl_ 19 8191) (bl_ 19 69631) HT_ (fun K hK => ?_) fun K hK => ?_
        ·refine goesB_ Try.func29 #[.agg #[.int .u64 t689, .int .u64 t690], .agg #[.int .u64 t691, .int .u64 t692]] ?_
         with_reducible refine (wide_Add.calls t689 t690 t691 t692 t693 t694 t695 _ A40.out).mono ?_
         rintro e w94 ⟨rfl, hb⟩
         refine ⟨_, rfl, ?_⟩
         replace BK646 := bb_ BK646 hb
         replace BK656 := bb_ BK656 hb
         replace BK664 := bb_ BK664 hb
         replace BK672 := bb_ BK672 hb
         replace BK682 := bb_ BK682 hb
         replace BK688 := bb_ BK688 hb
         replace HB := bs_ w hb
         clear hb
         refine hK.out _ _ ⟨(blk_cell BK672.out 0).trans rfl, (blk_cell BK672.out 1).trans rfl, (blk_cell BK672.out 2).trans rfl, (blk_cell BK672.out 3).trans rfl, (blk_cell BK672.out 4).trans rfl, (blk_cell BK672.out 5).trans rfl, (blk_cell BK646.out 0).trans rfl, (blk_cell BK646.out 1).trans rfl, (blk_cell BK646.out 2).trans rfl, (blk_cell BK646.out 3).trans rfl, (blk_cell BK646.out 4).trans rfl, (blk_cell BK646.out 5).trans rfl⟩ (fun hHeld => ?_)
         clear hK K
         refine nm_ (some 134) ?_
         refine pa_ 13 (some 121) (bl_ 19 16383) HT_ ?_
         refine pa_ 14 (some 135) (bl_ 19 32767) HT_ ?_
         refine pa_ 15 (some 136) (bl_ 19 65535) HT_ ?_
         refine oa_ 16 (some 17) (bl_ 19 131071) HT_ fun K hK => ?_
         refine bs2_ #[.int .u64 0, .int .u64 0] 60 ?_
         intro gb696 hg w95 BK696 hb
         have GW696 := bz_ w hg
         have GE696 := GW696
         have NB646_696 := bn_ BK646 hg
         have NB696_646 := bm_ BK646 hg
         have NB656_696 := bn_ BK656 hg
         have NB696_656 := bm_ BK656 hg
         have NB664_696 := bn_ BK664 hg
         have NB696_664 := bm_ BK664 hg
         have NB672_696 := bn_ BK672 hg
         have NB696_672 := bm_ BK672 hg
         have NB682_696 := bn_ BK682 hg
         have NB696_682 := bm_ BK682 hg
         have NB688_696 := bn_ BK688 hg
         have NB696_688 := bm_ BK688 hg
         replace BK646 := bb_ BK646 hb
         replace BK656 := bb_ BK656 hb
         replace BK664 := bb_ BK664 hb
         replace BK672 := bb_ BK672 hb
         replace BK682 := bb_ BK682 hb
         replace BK688 := bb_ BK688 hb
         replace HB := bs_ w hb
         clear hb hg
         refine hK.out _ _ ⟨(blk_cell BK672.out 0).trans rfl, (blk_cell BK672.out 1).trans rfl, (blk_cell BK672.out 2).trans rfl, (blk_cell BK672.out 3).trans rfl, (blk_cell BK672.out 4).trans rfl, (blk_cell BK672.out 5).trans rfl, (blk_cell BK646.out 0).trans rfl, (blk_cell BK646.out 1).trans rfl, (blk_cell BK646.out 2).trans rfl, (blk_cell BK646.out 3).trans rfl, (blk_cell BK646.out 4).trans rfl, (blk_cell BK646.out 5).trans rfl⟩ (fun hHeld => ?_)
         clear hK K
         refine nm_ (some 17) ?_
         exact no_ (hCont (gb696) _ ⟨hHeld, (bq_ BK646), (bq_ BK656), (bq_ BK664), (bq_ BK672), (bq_ BK682), (bq_ BK688), (bq_ BK696), GW696.out, GE696.out, NB646_696.out, NB696_646.out, NB656_696.out, NB696_656.out, NB664_696.out, NB696_664.out, NB672_696.out, NB696_672.out, NB682_696.out, NB696_682.out, NB688_696.out, NB696_688.out, bh_⟩)
        ·refine bs2_ #[.int .u64 0, .int .u64 0] 60 ?_
         intro gb696 hg w94 BK696 hb
         have GW696 := bz_ w hg
         have GE696 := GW696
         have NB646_696 := bn_ BK646 hg
         have NB696_646 := bm_ BK646 hg
         have NB656_696 := bn_ BK656 hg
         have NB696_656 := bm_ BK656 hg
         have NB664_696 := bn_ BK664 hg
         have NB696_664 := bm_ BK664 hg
         have NB672_696 := bn_ BK672 hg
         have NB696_672 := bm_ BK672 hg
         have NB682_696 := bn_ BK682 hg
         have NB696_682 := bm_ BK682 hg
         have NB688_696 := bn_ BK688 hg
         have NB696_688 := bm_ BK688 hg
         replace BK646 := bb_ BK646 hb
         replace BK656 := bb_ BK656 hb
         replace BK664 := bb_ BK664 hb
         replace BK672 := bb_ BK672 hb
         replace BK682 := bb_ BK682 hb
         replace BK688 := bb_ BK688 hb
         replace HB := bs_ w hb
         clear hb hg
         refine hK.out _ _ ⟨(blk_cell BK672.out 0).trans rfl, (blk_cell BK672.out 1).trans rfl, (blk_cell BK672.out 2).trans rfl, (blk_cell BK672.out 3).trans rfl, (blk_cell BK672.out 4).trans rfl, (blk_cell BK672.out 5).trans rfl, (blk_cell BK646.out 0).trans rfl, (blk_cell BK646.out 1).trans rfl, (blk_cell BK646.out 2).trans rfl, (blk_cell BK646.out 3).trans rfl, (blk_cell BK646.out 4).trans rfl, (blk_cell BK646.out 5).trans rfl⟩ (fun hHeld => ?_)
         clear hK K
         refine nm_ (some 17) ?_
         refine oa_ 12 (some 134) (bl_ 19 73727) HT_ fun K hK => ?_
         refine goesB_ Try.func29 #[.agg #[.int .u64 t689, .int .u64 t690], .agg #[.int .u64 t691, .int .u64 t692]] ?_
         with_reducible refine (wide_Add.calls t689 t690 t691 t692 t693 t694 t695 _ A40.out).mono ?_
         rintro e w95 ⟨rfl, hb⟩
         refine ⟨_, rfl, ?_⟩
         replace BK646 := bb_ BK646 hb
         replace BK656 := bb_ BK656 hb
         replace BK664 := bb_ BK664 hb
         replace BK672 := bb_ BK672 hb
         replace BK682 := bb_ BK682 hb
         replace BK688 := bb_ BK688 hb
         replace BK696 := bb_ BK696 hb
         replace HB := bs_ w hb
         clear hb
         refine hK.out _ _ ⟨(blk_cell BK672.out 0).trans rfl, (blk_cell BK672.out 1).trans rfl, (blk_cell BK672.out 2).trans rfl, (blk_cell BK672.out 3).trans rfl, (blk_cell BK672.out 4).trans rfl, (blk_cell BK672.out 5).trans rfl, (blk_cell BK646.out 0).trans rfl, (blk_cell BK646.out 1).trans rfl, (blk_cell BK646.out 2).trans rfl, (blk_cell BK646.out 3).trans rfl, (blk_cell BK646.out 4).trans rfl, (blk_cell BK646.out 5).trans rfl⟩ (fun hHeld => ?_)
         clear hK K
         refine nm_ (some 134) ?_
         refine pa_ 13 (some 121) (bl_ 19 81919) HT_ ?_
         refine pa_ 14 (some 135) (bl_ 19 98303) HT_ ?_
         refine pa_ 15 (some 136) (bl_ 19 131071) HT_ ?_
         exact no_ (hCont (gb696) _ ⟨hHeld, (bq_ BK646), (bq_ BK656), (bq_ BK664), (bq_ BK672), (bq_ BK682), (bq_ BK688), (bq_ BK696), GW696.out, GE696.out, NB646_696.out, NB696_646.out, NB656_696.out, NB696_656.out, NB664_696.out, NB696_664.out, NB672_696.out, NB696_672.out, NB682_696.out, NB696_682.out, NB688_696.out, NB696_688.out, bh_⟩)
       ·refine bs2_ #[.int .u64 0, .int .u64 0] 60 ?_
        intro gb696 hg w93 BK696 hb
        have GW696 := bz_ w hg
        have GE696 := GW696
        have NB646_696 := bn_ BK646 hg
        have NB696_646 := bm_ BK646 hg
        have NB656_696 := bn_ BK656 hg
        have NB696_656 := bm_ BK656 hg
        have NB664_696 := bn_ BK664 hg
        have NB696_664 := bm_ BK664 hg
        have NB672_696 := bn_ BK672 hg
        have NB696_672 := bm_ BK672 hg
        have NB682_696 := bn_ BK682 hg
        have NB696_682 := bm_ BK682 hg
        have NB688_696 := bn_ BK688 hg
        have NB696_688 := bm_ BK688 hg
        replace BK646 := bb_ BK646 hb
        replace BK656 := bb_ BK656 hb
        replace BK664 := bb_ BK664 hb
        replace BK672 := bb_ BK672 hb
        replace BK682 := bb_ BK682 hb
        replace BK688 := bb_ BK688 hb
        replace HB := bs_ w hb
        clear hb hg
        refine hK.out _ _ ⟨(blk_cell BK672.out 0).trans rfl, (blk_cell BK672.out 1).trans rfl, (blk_cell BK672.out 2).trans rfl, (blk_cell BK672.out 3).trans rfl, (blk_cell BK672.out 4).trans rfl, (blk_cell BK672.out 5).trans rfl, (blk_cell BK646.out 0).trans rfl, (blk_cell BK646.out 1).trans rfl, (blk_cell BK646.out 2).trans rfl, (blk_cell BK646.out 3).trans rfl, (blk_cell BK646.out 4).trans rfl, (blk_cell BK646.out 5).trans rfl⟩ (fun hHeld => ?_)
        clear hK K
        refine nm_ (some 17) ?_
        refine oa_ 11 (some 133) (bl_ 19 69631) HT_ fun K hK => ?_
        refine goesB_ Try.func31 #[.int .u64 (IntKind.u64.wrap (t669))] ?_
        with_reducible refine (wide_Of.calls (IntKind.u64.wrap (t669)) t691 t692 _ A39.out).mono ?_
        rintro e w94 ⟨rfl, hb⟩
        refine ⟨_, rfl, ?_⟩
        replace BK646 := bb_ BK646 hb
        replace BK656 := bb_ BK656 hb
        replace BK664 := bb_ BK664 hb
        replace BK672 := bb_ BK672 hb
        replace BK682 := bb_ BK682 hb
        replace BK688 := bb_ BK688 hb
        replace BK696 := bb_ BK696 hb
        replace HB := bs_ w hb
        clear hb
        refine hK.out _ _ ⟨(blk_cell BK672.out 0).trans rfl, (blk_cell BK672.out 1).trans rfl, (blk_cell BK672.out 2).trans rfl, (blk_cell BK672.out 3).trans rfl, (blk_cell BK672.out 4).trans rfl, (blk_cell BK672.out 5).trans rfl, (blk_cell BK646.out 0).trans rfl, (blk_cell BK646.out 1).trans rfl, (blk_cell BK646.out 2).trans rfl, (blk_cell BK646.out 3).trans rfl, (blk_cell BK646.out 4).trans rfl, (blk_cell BK646.out 5).trans rfl⟩ (fun hHeld => ?_)
        clear hK K
        refine nm_ (some 133) ?_
        refine oa_ 12 (some 134) (bl_ 19 73727) HT_ fun K hK => ?_
        refine goesB_ Try.func29 #[.agg #[.int .u64 t689, .int .u64 t690], .agg #[.int .u64 t691, .int .u64 t692]] ?_
        with_reducible refine (wide_Add.calls t689 t690 t691 t692 t693 t694 t695 _ A40.out).mono ?_
        rintro e w95 ⟨rfl, hb⟩
        refine ⟨_, rfl, ?_⟩
        replace BK646 := bb_ BK646 hb
        replace BK656 := bb_ BK656 hb
        replace BK664 := bb_ BK664 hb
        replace BK672 := bb_ BK672 hb
        replace BK682 := bb_ BK682 hb
        replace BK688 := bb_ BK688 hb
        replace BK696 := bb_ BK696 hb
        replace HB := bs_ w hb
        clear hb
        refine hK.out _ _ ⟨(blk_cell BK672.out 0).trans rfl, (blk_cell BK672.out 1).trans rfl, (blk_cell BK672.out 2).trans rfl, (blk_cell BK672.out 3).trans rfl, (blk_cell BK672.out 4).trans rfl, (blk_cell BK672.out 5).trans rfl, (blk_cell BK646.out 0).trans rfl, (blk_cell BK646.out 1).trans rfl, (blk_cell BK646.out 2).trans rfl, (blk_cell BK646.out 3).trans rfl, (blk_cell BK646.out 4).trans rfl, (blk_cell BK646.out 5).trans rfl⟩ (fun hHeld => ?_)
        clear hK K
        refine nm_ (some 134) ?_
        refine pa_ 13 (some 121) (bl_ 19 81919) HT_ ?_
        refine pa_ 14 (some 135) (bl_ 19 98303) HT_ ?_
        refine pa_ 15 (some 136) (bl_ 19 131071) HT_ ?_
        exact no_ (hCont (gb696) _ ⟨hHeld, (bq_ BK646), (bq_ BK656), (bq_ BK664), (bq_ BK672), (bq_ BK682), (bq_ BK688), (bq_ BK696), GW696.out, GE696.out, NB646_696.out, NB696_646.out, NB656_696.out, NB696_656.out, NB664_696.out, NB696_664.out, NB672_696.out, NB696_672.out, NB682_696.out, NB696_682.out, NB688_696.out, NB696_688.out, bh_⟩)
      ·refine bs2_ #[.int .u64 0, .int .u64 0] 60 ?_
       intro gb696 hg w92 BK696 hb
       have GW696 := bz_ w hg
       have GE696 := GW696
       have NB646_696 := bn_ BK646 hg
       have NB696_646 := bm_ BK646 hg
       have NB656_696 := bn_ BK656 hg
       have NB696_656 := bm_ BK656 hg
       have NB664_696 := bn_ BK664 hg
       have NB696_664 := bm_ BK664 hg
       have NB672_696 := bn_ BK672 hg
       have NB696_672 := bm_ BK672 hg
       have NB682_696 := bn_ BK682 hg
       have NB696_682 := bm_ BK682 hg
       have NB688_696 := bn_ BK688 hg
       have NB696_688 := bm_ BK688 hg
       replace BK646 := bb_ BK646 hb
       replace BK656 := bb_ BK656 hb
       replace BK664 := bb_ BK664 hb
       replace BK672 := bb_ BK672 hb
       replace BK682 := bb_ BK682 hb
       replace BK688 := bb_ BK688 hb
       replace HB := bs_ w hb
       clear hb hg
       refine hK.out _ _ ⟨(blk_cell BK672.out 0).trans rfl, (blk_cell BK672.out 1).trans rfl, (blk_cell BK672.out 2).trans rfl, (blk_cell BK672.out 3).trans rfl, (blk_cell BK672.out 4).trans rfl, (blk_cell BK672.out 5).trans rfl, (blk_cell BK646.out 0).trans rfl, (blk_cell BK646.out 1).trans rfl, (blk_cell BK646.out 2).trans rfl, (blk_cell BK646.out 3).trans rfl, (blk_cell BK646.out 4).trans rfl, (blk_cell BK646.out 5).trans rfl⟩ (fun hHeld => ?_)
       clear hK K
       refine nm_ (some 17) ?_
       refine oa_ 7 (some 129) (bl_ 19 67583) HT_ fun K hK => ?_
       refine goesB_ Try.func30 #[.int .u64 (IntKind.u64.wrap (t668)), .int .u64 (IntKind.u64.wrap (a0_2))] ?_
       with_reducible refine (wide_Mul.calls (IntKind.u64.wrap (t668)) (IntKind.u64.wrap (a0_2)) t689 t690 _ A38.out).mono ?_
       rintro e w93 ⟨rfl, hb⟩
       refine ⟨_, rfl, ?_⟩
       replace BK646 := bb_ BK646 hb
       replace BK656 := bb_ BK656 hb
       replace BK664 := bb_ BK664 hb
       replace BK672 := bb_ BK672 hb
       replace BK682 := bb_ BK682 hb
       replace BK688 := bb_ BK688 hb
       replace BK696 := bb_ BK696 hb
       replace HB := bs_ w hb
       clear hb
       refine hK.out _ _ ⟨(blk_cell BK672.out 0).trans rfl, (blk_cell BK672.out 1).trans rfl, (blk_cell BK672.out 2).trans rfl, (blk_cell BK672.out 3).trans rfl, (blk_cell BK672.out 4).trans rfl, (blk_cell BK672.out 5).trans rfl, (blk_cell BK646.out 0).trans rfl, (blk_cell BK646.out 1).trans rfl, (blk_cell BK646.out 2).trans rfl, (blk_cell BK646.out 3).trans rfl, (blk_cell BK646.out 4).trans rfl, (blk_cell BK646.out 5).trans rfl⟩ (fun hHeld => ?_)
       clear hK K
       refine nm_ (some 129) ?_
       refine oa_ 11 (some 133) (bl_ 19 69631) HT_ fun K hK => ?_
       refine goesB_ Try.func31 #[.int .u64 (IntKind.u64.wrap (t669))] ?_
       with_reducible refine (wide_Of.calls (IntKind.u64.wrap (t669)) t691 t692 _ A39.out).mono ?_
       rintro e w94 ⟨rfl, hb⟩
       refine ⟨_, rfl, ?_⟩
       replace BK646 := bb_ BK646 hb
       replace BK656 := bb_ BK656 hb
       replace BK664 := bb_ BK664 hb
       replace BK672 := bb_ BK672 hb
       replace BK682 := bb_ BK682 hb
       replace BK688 := bb_ BK688 hb
       replace BK696 := bb_ BK696 hb
       replace HB := bs_ w hb
       clear hb
       refine hK.out _ _ ⟨(blk_cell BK672.out 0).trans rfl, (blk_cell BK672.out 1).trans rfl, (blk_cell BK672.out 2).trans rfl, (blk_cell BK672.out 3).trans rfl, (blk_cell BK672.out 4).trans rfl, (blk_cell BK672.out 5).trans rfl, (blk_cell BK646.out 0).trans rfl, (blk_cell BK646.out 1).trans rfl, (blk_cell BK646.out 2).trans rfl, (blk_cell BK646.out 3).trans rfl, (blk_cell BK646.out 4).trans rfl, (blk_cell BK646.out 5).trans rfl⟩ (fun hHeld => ?_)
       clear hK K
       refine nm_ (some 133) ?_
       refine oa_ 12 (some 134) (bl_ 19 73727) HT_ fun K hK => ?_
       refine goesB_ Try.func29 #[.agg #[.int .u64 t689, .int .u64 t690], .agg #[.int .u64 t691, .int .u64 t692]] ?_
       with_reducible refine (wide_Add.calls t689 t690 t691 t692 t693 t694 t695 _ A40.out).mono ?_
       rintro e w95 ⟨rfl, hb⟩
       refine ⟨_, rfl, ?_⟩
       replace BK646 := bb_ BK646 hb
       replace BK656 := bb_ BK656 hb
       replace BK664 := bb_ BK664 hb
       replace BK672 := bb_ BK672 hb
       replace BK682 := bb_ BK682 hb
       replace BK688 := bb_ BK688 hb
       replace BK696 := bb_ BK696 hb
       replace HB := bs_ w hb
       clear hb
       refine hK.out _ _ ⟨(blk_cell BK672.out 0).trans rfl, (blk_cell BK672.out 1).trans rfl, (blk_cell BK672.out 2).trans rfl, (blk_cell BK672.out 3).trans rfl, (blk_cell BK672.out 4).trans rfl, (blk_cell BK672.out 5).trans rfl, (blk_cell BK646.out 0).trans rfl, (blk_cell BK646.out 1).trans rfl, (blk_cell BK646.out 2).trans rfl, (blk_cell BK646.out 3).trans rfl, (blk_cell BK646.out 4).trans rfl, (blk_cell BK646.out 5).trans rfl⟩ (fun hHeld => ?_)
       clear hK K
       refine nm_ (some 134) ?_
       refine pa_ 13 (some 121) (bl_ 19 81919) HT_ ?_
       refine pa_ 14 (some 135) (bl_ 19 98303) HT_ ?_
       refine pa_ 15 (some 136) (bl_ 19 131071) HT_ ?_
       exact no_ (hCont (gb696) _ ⟨hHeld, (bq_ BK646), (bq_ BK656), (bq_ BK664), (bq_ BK672), (bq_ BK682), (bq_ BK688), (bq_ BK696), GW696.out, GE696.out, NB646_696.out, NB696_646.out, NB656_696.out, NB696_656.out, NB664_696.out, NB696_664.out, NB672_696.out, NB696_672.out, NB682_696.out, NB696_682.out, NB688_696.out, NB696_688.out, bh_⟩)
     rintro gb696 w96 ⟨hS_, h0_, h1_, h2_, h3_, h4_, h5_, h6_, h7_, h8_, h9_, h10_, h11_, h12_, h13_, h14_, h15_, h16_, h17_, h18_, h19_, h20_, h21_⟩
     have BK696 := Aside0.mk h6_
     have GW696 := Aside0.mk h7_
     have GE696 := Aside0.mk h8_
     have NB646_696 := Aside0.mk h9_
     have NB696_646 := Aside0.mk h10_
     have NB656_696 := Aside0.mk h11_
     have NB696_656 := Aside0.mk h12_
     have NB664_696 := Aside0.mk h13_
     have NB696_664 := Aside0.mk h14_
     have NB672_696 := Aside0.mk h15_
     have NB696_672 := Aside0.mk h16_
     have NB682_696 := Aside0.mk h17_
     have NB696_682 := Aside0.mk h18_
     have NB688_696 := Aside0.mk h19_
     have NB696_688 := Aside0.mk h20_
     replace BK646 := Aside0.mk h0_
     replace BK656 := Aside0.mk h1_
     replace BK664 := Aside0.mk h2_
     replace BK672 := Aside0.mk h3_
     replace BK682 := Aside0.mk h4_
     replace BK688 := Aside0.mk h5_
     replace HB := Aside0.mk h21_
     clear h0_ h1_ h2_ h3_ h4_ h5_ h6_ h7_ h8_ h9_ h10_ h11_ h12_ h13_ h14_ h15_ h16_ h17_ h18_ h19_ h20_ h21_
     have hHeld := hS_
     refine nq_ ?_
     refine oa_ 17 none (bl_ 19 262143) HT_ fun K hK => ?_
     have hs97 : w96.cell? ⟨gb696, 0, none⟩ = some (.int .u64 0) := (blk_cell BK696.out 0).trans rfl
     have hfs97 := blk_frozen BK696.out 0
     have hns97_0 := NB646_696.out
     have hns97_1 := NB656_696.out
     have hns97_2 := NB664_696.out
     have hns97_3 := NB672_696.out
     have hns97_4 := NB682_696.out
     have hns97_5 := NB688_696.out
     have hms97_0 := NB696_646.out
     have hms97_1 := NB696_656.out
     have hms97_2 := NB696_664.out
     have hms97_3 := NB696_672.out
     have hms97_4 := NB696_682.out
     have hms97_5 := NB696_688.out
     have hs98 : w96.cell? ⟨gb696, 1, none⟩ = some (.int .u64 0) := (blk_cell BK696.out 1).trans rfl
     have hfs98 := blk_frozen BK696.out 1
     have hns98_0 := NB646_696.out
     have hns98_1 := NB656_696.out
     have hns98_2 := NB664_696.out
     have hns98_3 := NB672_696.out
     have hns98_4 := NB682_696.out
     have hns98_5 := NB688_696.out
     have hms98_0 := NB696_646.out
     have hms98_1 := NB696_656.out
     have hms98_2 := NB696_664.out
     have hms98_3 := NB696_672.out
     have hms98_4 := NB696_682.out
     have hms98_5 := NB696_688.out
     refine sk_ ?_
     refine hK.out _ _ ⟨((cell_far (p := ⟨gb696, _, none⟩) NB672_696.out _).trans (((cell_far (p := ⟨gb696, _, none⟩) NB672_696.out _).trans (hHeld.1)))), ((cell_far (p := ⟨gb696, _, none⟩) NB672_696.out _).trans (((cell_far (p := ⟨gb696, _, none⟩) NB672_696.out _).trans (hHeld.2.1)))), ((cell_far (p := ⟨gb696, _, none⟩) NB672_696.out _).trans (((cell_far (p := ⟨gb696, _, none⟩) NB672_696.out _).trans (hHeld.2.2.1)))), ((cell_far (p := ⟨gb696, _, none⟩) NB672_696.out _).trans (((cell_far (p := ⟨gb696, _, none⟩) NB672_696.out _).trans (hHeld.2.2.2.1)))), ((cell_far (p := ⟨gb696, _, none⟩) NB672_696.out _).trans (((cell_far (p := ⟨gb696, _, none⟩) NB672_696.out _).trans (hHeld.2.2.2.2.1)))), ((cell_far (p := ⟨gb696, _, none⟩) NB672_696.out _).trans (((cell_far (p := ⟨gb696, _, none⟩) NB672_696.out _).trans (hHeld.2.2.2.2.2.1)))), ((cell_far (p := ⟨gb696, _, none⟩) NB646_696.out _).trans (((cell_far (p := ⟨gb696, _, none⟩) NB646_696.out _).trans (hHeld.2.2.2.2.2.2.1)))), ((cell_far (p := ⟨gb696, _, none⟩) NB646_696.out _).trans (((cell_far (p := ⟨gb696, _, none⟩) NB646_696.out _).trans (hHeld.2.2.2.2.2.2.2.1)))), ((cell_far (p := ⟨gb696, _, none⟩) NB646_696.out _).trans (((cell_far (p := ⟨gb696, _, none⟩) NB646_696.out _).trans (hHeld.2.2.2.2.2.2.2.2.1)))), ((cell_far (p := ⟨gb696, _, none⟩) NB646_696.out _).trans (((cell_far (p := ⟨gb696, _, none⟩) NB646_696.out _).trans (hHeld.2.2.2.2.2.2.2.2.2.1)))), ((cell_far (p := ⟨gb696, _, none⟩) NB646_696.out _).trans (((cell_far (p := ⟨gb696, _, none⟩) NB646_696.out _).trans (hHeld.2.2.2.2.2.2.2.2.2.2.1)))), ((cell_far (p := ⟨gb696, _, none⟩) NB646_696.out _).trans (((cell_far (p := ⟨gb696, _, none⟩) NB646_696.out _).trans (hHeld.2.2.2.2.2.2.2.2.2.2.2))))⟩ (fun hHeld => ?_)
     clear hK K
     refine pa_ 18 (some 18) (bl_ 19 524287) HT_ ?_
     refine done_ (done_of HT_.out (by kernel_rfl)) ?_
     replace hn646_682 := NB646_682.out
     replace hn682_646 := NB682_646.out
     replace hn646_688 := NB646_688.out
     replace hn688_646 := NB688_646.out
     replace hn646_696 := NB646_696.out
     replace hn696_646 := NB696_646.out
     replace hc646 := ce6_ BK646
     try go_wp2_with (first | ((with_reducible refine gate_callee (f := 30) rfl ?_); (try refine ug_ (by rfl) ?_); refine goesA_ (some 145) Try.func30 #[.int .u64 (IntKind.u64.wrap (a0_0)), .int .u64 (IntKind.u64.wrap (a0_2))] ?_; (with_reducible refine (wide_Mul.calls (IntKind.u64.wrap (a0_0)) (IntKind.u64.wrap (a0_2)) t697 t698 _ A41.out).mono ?_); rintro e w103 ⟨rfl, hb⟩; refine ⟨_, rfl, ?_⟩; replace BK646 := bf_ BK646 hb; replace BK656 := bf_ BK656 hb; replace BK664 := bf_ BK664 hb; replace BK672 := bf_ BK672 hb; replace BK682 := bf_ BK682 hb; replace BK688 := bf_ BK688 hb; replace BK696 := Aside0.mk (blk_below (g := gb696) (o := .cells #[.int .u64 t693, .int .u64 t694] 60 (0, 0)) (bp2_ (bq_ BK696)) hb); replace HB := bs_ w hb; clear hb) | ((with_reducible refine gate_dst (N := 19) rfl ?_); (try refine ug_ (by rfl) ?_); refine bx_ #[.int .u64 0, .int .u64 0] 60 ?_; intro gb699 hg w104 BK699 hb; have GW699 := bz_ w hg; have GE699 := GW699; have NB646_699 := bn_ BK646 hg; have NB699_646 := bm_ BK646 hg; have NB656_699 := bn_ BK656 hg; have NB699_656 := bm_ BK656 hg; have NB664_699 := bn_ BK664 hg; have NB699_664 := bm_ BK664 hg; have NB672_699 := bn_ BK672 hg; have NB699_672 := bm_ BK672 hg; have NB682_699 := bn_ BK682 hg; have NB699_682 := bm_ BK682 hg; have NB688_699 := bn_ BK688 hg; have NB699_688 := bm_ BK688 hg; have NB696_699 := bn_ BK696 hg; have NB699_696 := bm_ BK696 hg; replace BK646 := bb_ BK646 hb; replace BK656 := bb_ BK656 hb; replace BK664 := bb_ BK664 hb; replace BK672 := bb_ BK672 hb; replace BK682 := bb_ BK682 hb; replace BK688 := bb_ BK688 hb; replace BK696 := bb_ BK696 hb; replace HB := bs_ w hb; clear hb hg; replace hn699_646 := NB699_646.out; replace hn646_699 := NB646_699.out; replace hn699_656 := NB699_656.out; replace hn656_699 := NB656_699.out; replace hn699_664 := NB699_664.out; replace hn664_699 := NB664_699.out; replace hn699_672 := NB699_672.out; replace hn672_699 := NB672_699.out; replace hn699_682 := NB699_682.out; replace hn682_699 := NB682_699.out; replace hn699_688 := NB699_688.out; replace hn688_699 := NB688_699.out; replace hn699_696 := NB699_696.out; replace hn696_699 := NB696_699.out; replace hc699 := ce2_ BK699; replace hn688_656 := NB688_656.out; replace hn656_688 := NB656_688.out; replace hn688_664 := NB688_664.out; replace hn664_688 := NB664_688.out; replace hn688_672 := NB688_672.out; replace hn672_688 := NB672_688.out; replace hn688_682 := NB688_682.out; replace hn682_688 := NB682_688.out; replace hn688_696 := NB688_696.out; replace hn696_688 := NB696_688.out; replace hc688 := ce2_ BK688) | ((with_reducible refine gate_callee (f := 32) rfl ?_); (try refine ug_ (by rfl) ?_); refine goesA_ (some 158) Try.func32 #[.agg #[.int .u64 t685, .int .u64 t686], .agg #[.int .u64 t697, .int .u64 t698]] ?_; (with_reducible refine (wide_Cmp.calls kj3 t685 t686 t697 t698 t700 _ A45.out).mono ?_); rintro e w119 ⟨rfl, hb⟩; refine ⟨_, rfl, ?_⟩; replace BK646 := bf_ BK646 hb; replace BK656 := bf_ BK656 hb; replace BK664 := bf_ BK664 hb; replace BK672 := bf_ BK672 hb; replace BK682 := bf_ BK682 hb; replace BK688 := bf_ BK688 hb; replace BK696 := bf_ BK696 hb; replace BK699 := Aside0.mk (blk_below (g := gb699) (o := .cells #[.int .u64 t697, .int .u64 t698] 60 (0, 0)) (bp2_ (bq_ BK699)) hb); replace HB := bs_ w hb; clear hb; replace hn672_682 := NB672_682.out; replace hn682_672 := NB682_672.out; replace hn672_696 := NB672_696.out; replace hn696_672 := NB696_672.out; replace hc672 := ce6_ BK672; replace hc646 := ce6_ BK646; replace hn696_656 := NB696_656.out; replace hn656_696 := NB656_696.out; replace hn696_664 := NB696_664.out; replace hn664_696 := NB664_696.out; replace hn696_682 := NB696_682.out; replace hn682_696 := NB682_696.out; replace hc696 := ce2_ BK696; replace hc699 := ce2_ BK699) | (go_at_call 27; (with_reducible refine (spigotlaw03_alive.calls kj3  t701 _ A49.out).mono ?_); rintro e w129 ⟨rfl, hb⟩; replace BK646 := bb_ BK646 hb; replace BK656 := bb_ BK656 hb; replace BK664 := bb_ BK664 hb; replace BK672 := bb_ BK672 hb; replace BK682 := bb_ BK682 hb; replace BK688 := bb_ BK688 hb; replace BK696 := bb_ BK696 hb; replace BK699 := bb_ BK699 hb; replace HB := bs_ w hb; clear hb))
     go_ret
     exact fi_
    ·rw [if_neg c46] at H
     have c46b0 : decide (0 ≤ t700) = false := decide_eq_false c46
     clear c46
     by_cases c130 : (t693 == t685 && (t694 == t686)) = true
     rotate_left
     ·rw [if_neg c130] at H; exact absurd H (by simp)
     rw [if_pos c130] at H
     have c130b0 : (t693 == t685 && (t694 == t686)) = true := c130
     (try (have c130b1 : decide (t693 = t685 && (t694 == t686)) = true := by simpa using c130))
     (try (have c130b2 : (t693 == t685 && (t694 == t686)) = true := by simpa using c130))
     clear c130
     obtain ⟨t702, A131, H⟩ := bo_ H
     replace H : (some t702) = some r := H
     obtain rfl := Option.some.inj H
     replace hc646 := ce6_ BK646
     try go_wp2_with (first | ((with_reducible refine gate_callee (f := 12) rfl ?_); (try refine ug_ (by rfl) ?_); refine goesA_ (some 38) Try.func12 #[.agg #[.int .i64 a0_0, .int .i64 a0_1, .int .i64 a0_2, .int .i64 a0_3, .int .i64 a0_4, .int .u64 a0_5], .int .u64 a1] ?_; (with_reducible refine (bucket_Refill.calls kj3 a0_0 a0_1 a0_2 a0_3 a0_4 a0_5 a1 t649 t650 t651 t652 t653 t654 t655 _ A20.out).mono ?_); rintro e w133 ⟨rfl, hb⟩; refine ⟨_, rfl, ?_⟩; replace BK646 := bb_ BK646 hb; replace HB := bs_ w hb; clear hb) | ((with_reducible refine gate_dst (N := 7) rfl ?_); (try refine ug_ (by rfl) ?_); refine bx_ #[.int .i64 0, .int .i64 0, .int .i64 0, .int .i64 0, .int .i64 0, .int .u64 0] 26 ?_; intro gb656 hg w134 BK656 hb; have GW656 := bz_ w hg; have GE656 := GW656; have NB646_656 := bn_ BK646 hg; have NB656_646 := bm_ BK646 hg; replace BK646 := bb_ BK646 hb; replace HB := bs_ w hb; clear hb hg; replace hn656_646 := NB656_646.out; replace hn646_656 := NB646_656.out; replace hc656 := ce6_ BK656) | ((with_reducible refine gate_callee (f := 12) rfl ?_); (try refine ug_ (by rfl) ?_); refine goesA_ (some 44) Try.func12 #[.agg #[.int .i64 t649, .int .i64 t650, .int .i64 t651, .int .i64 t652, .int .i64 t653, .int .u64 t654], .int .u64 a2] ?_; (with_reducible refine (bucket_Refill.calls kj3 t649 t650 t651 t652 t653 t654 a2 t657 t658 t659 t660 t661 t662 t663 _ A21.out).mono ?_); rintro e w137 ⟨rfl, hb⟩; refine ⟨_, rfl, ?_⟩; replace BK646 := bf_ BK646 hb; replace BK656 := Aside0.mk (blk_below (g := gb656) (o := .cells #[.int .i64 t649, .int .i64 t650, .int .i64 t651, .int .i64 t652, .int .i64 t653, .int .u64 t654] 26 (0, 0)) (bp6_ (bq_ BK656)) hb); replace HB := bs_ w hb; clear hb) | ((with_reducible refine gate_dst (N := 9) rfl ?_); (try refine ug_ (by rfl) ?_); refine bx_ #[.int .i64 0, .int .i64 0, .int .i64 0, .int .i64 0, .int .i64 0, .int .u64 0] 26 ?_; intro gb664 hg w138 BK664 hb; have GW664 := bz_ w hg; have GE664 := GW664; have NB646_664 := bn_ BK646 hg; have NB664_646 := bm_ BK646 hg; have NB656_664 := bn_ BK656 hg; have NB664_656 := bm_ BK656 hg; replace BK646 := bb_ BK646 hb; replace BK656 := bb_ BK656 hb; replace HB := bs_ w hb; clear hb hg; replace hn664_646 := NB664_646.out; replace hn646_664 := NB646_664.out; replace hn664_656 := NB664_656.out; replace hn656_664 := NB656_664.out; replace hc664 := ce6_ BK664; replace hc646 := ce6_ BK646) | ((with_reducible refine gate_callee (f := 12) rfl ?_); (try refine ug_ (by rfl) ?_); refine goesA_ (some 50) Try.func12 #[.agg #[.int .i64 a0_0, .int .i64 a0_1, .int .i64 a0_2, .int .i64 a0_3, .int .i64 a0_4, .int .u64 a0_5], .int .u64 a2] ?_; (with_reducible refine (bucket_Refill.calls kj3 a0_0 a0_1 a0_2 a0_3 a0_4 a0_5 a2 t665 t666 t667 t668 t669 t670 t671 _ A22.out).mono ?_); rintro e w143 ⟨rfl, hb⟩; refine ⟨_, rfl, ?_⟩; replace BK646 := bf_ BK646 hb; replace BK656 := bf_ BK656 hb; replace BK664 := Aside0.mk (blk_below (g := gb664) (o := .cells #[.int .i64 t657, .int .i64 t658, .int .i64 t659, .int .i64 t660, .int .i64 t661, .int .u64 t662] 26 (0, 0)) (bp6_ (bq_ BK664)) hb); replace HB := bs_ w hb; clear hb) | ((with_reducible refine gate_dst (N := 11) rfl ?_); (try refine ug_ (by rfl) ?_); refine bx_ #[.int .i64 0, .int .i64 0, .int .i64 0, .int .i64 0, .int .i64 0, .int .u64 0] 26 ?_; intro gb672 hg w144 BK672 hb; have GW672 := bz_ w hg; have GE672 := GW672; have NB646_672 := bn_ BK646 hg; have NB672_646 := bm_ BK646 hg; have NB656_672 := bn_ BK656 hg; have NB672_656 := bm_ BK656 hg; have NB664_672 := bn_ BK664 hg; have NB672_664 := bm_ BK664 hg; replace BK646 := bb_ BK646 hb; replace BK656 := bb_ BK656 hb; replace BK664 := bb_ BK664 hb; replace HB := bs_ w hb; clear hb hg; replace hn672_646 := NB672_646.out; replace hn646_672 := NB646_672.out; replace hn672_656 := NB672_656.out; replace hn656_672 := NB656_672.out; replace hn672_664 := NB672_664.out; replace hn664_672 := NB664_672.out; replace hc672 := ce6_ BK672; replace hc664 := ce6_ BK664; replace hc656 := ce6_ BK656) | (go_at_call 17; (with_reducible refine (spigotref03_Check.calls t649 t650 t651 t652 t653 t654 t673 _ A27.out).mono ?_); rintro e w151 ⟨rfl, hb⟩; replace BK646 := bf_ BK646 hb; replace BK656 := bf_ BK656 hb; replace BK664 := bf_ BK664 hb; replace BK672 := Aside0.mk (blk_below (g := gb672) (o := .cells #[.int .i64 t665, .int .i64 t666, .int .i64 t667, .int .i64 t668, .int .i64 t669, .int .u64 t670] 26 (0, 0)) (bp6_ (bq_ BK672)) hb); replace HB := bs_ w hb; clear hb; replace hc672 := ce6_ BK672) | (go_at_call 17; (with_reducible refine (spigotref03_Check.calls t665 t666 t667 t668 t669 t670 t674 _ A29.out).mono ?_); rintro e w153 ⟨rfl, hb⟩; replace BK646 := bb_ BK646 hb; replace BK656 := bb_ BK656 hb; replace BK664 := bb_ BK664 hb; replace BK672 := bb_ BK672 hb; replace HB := bs_ w hb; clear hb; replace hc672 := ce6_ BK672; replace hc656 := ce6_ BK656))
     replace BK646 := Aside0.mk (blk_drew BK646.out)
     replace BK656 := Aside0.mk (blk_drew BK656.out)
     replace BK664 := Aside0.mk (blk_drew BK664.out)
     replace BK672 := Aside0.mk (blk_drew BK672.out)
     replace HB := Aside0.mk (below_drew1 HB.out)
     refine start_ (n := 19) (S := fun w' => w'.cell? ⟨gb646, 0, none⟩ = some (.int .i64 a0_0) ∧ w'.cell? ⟨gb646, 1, none⟩ = some (.int .i64 a0_1) ∧ w'.cell? ⟨gb646, 2, none⟩ = some (.int .i64 a0_2) ∧ w'.cell? ⟨gb646, 3, none⟩ = some (.int .i64 a0_3) ∧ w'.cell? ⟨gb646, 4, none⟩ = some (.int .i64 a0_4) ∧ w'.cell? ⟨gb646, 5, none⟩ = some (.int .u64 a0_5)) (ds := []) (bl_ 19 0) (by kernel_rfl) rfl (by kernel_rfl) (cc6_ BK646) (fun hHeld => ?_); refine with_tabW spigotlaw03_BucketTwo.tab8 spigotlaw03_BucketTwo.bits8 (fun HT_ HW_ => ?_)
     generalize w153.drew = w156 at BK646 BK656 BK664 BK672 HB hHeld ⊢
     refine pa_ 0 (some 92) (bl_ 19 1) HT_ ?_
     refine pa_ 3 (some 95) (bl_ 19 9) HT_ ?_
     refine pa_ 4 (some 96) (bl_ 19 25) HT_ ?_
     refine pa_ 8 (some 100) (bl_ 19 281) HT_ ?_
     refine ta_ 1 (some 93) (bl_ 19 283) HT_ HW_ hHeld ?_
     refine pa_ 2 (some 94) (bl_ 19 287) HT_ ?_
     refine ta_ 5 (some 97) (bl_ 19 319) HT_ HW_ hHeld ?_
     refine pa_ 6 (some 98) (bl_ 19 383) HT_ ?_
     refine ta_ 9 (some 101) (bl_ 19 895) HT_ HW_ hHeld ?_
     refine pa_ 10 (some 102) (bl_ 19 1919) HT_ ?_
     refine join_ (σ := Nat) 2 (bl_ 19 131071) (fun s_ => [(99, .agg #[.int .u64 t675, .int .u64 t676]), (103, .agg #[.int .u64 t677, .int .u64 t678]), (104, .tuple #[.agg #[.int .u64 t679, .int .u64 t680], .int .i64 t681]), (13, .pointer (some ⟨s_, 0, none⟩)), (91, .tuple #[.agg #[.int .u64 t679, .int .u64 t680], .int .i64 t681]), (105, .agg #[.int .u64 t679, .int .u64 t680]), (106, .int .i64 t681)]) (fun s_ w' => (w'.cell? ⟨gb646, 0, none⟩ = some (.int .i64 a0_0) ∧ w'.cell? ⟨gb646, 1, none⟩ = some (.int .i64 a0_1) ∧ w'.cell? ⟨gb646, 2, none⟩ = some (.int .i64 a0_2) ∧ w'.cell? ⟨gb646, 3, none⟩ = some (.int .i64 a0_3) ∧ w'.cell? ⟨gb646, 4, none⟩ = some (.int .i64 a0_4) ∧ w'.cell? ⟨gb646, 5, none⟩ = some (.int .u64 a0_5)) ∧ (w'.heap[gb646]? = some (.cells #[.int .i64 a0_0, .int .i64 a0_1, .int .i64 a0_2, .int .i64 a0_3, .int .i64 a0_4, .int .u64 a0_5] 26 (0, 0))) ∧ (w'.heap[gb656]? = some (.cells #[.int .i64 t649, .int .i64 t650, .int .i64 t651, .int .i64 t652, .int .i64 t653, .int .u64 t654] 26 (0, 0))) ∧ (w'.heap[gb664]? = some (.cells #[.int .i64 t657, .int .i64 t658, .int .i64 t659, .int .i64 t660, .int .i64 t661, .int .u64 t662] 26 (0, 0))) ∧ (w'.heap[gb672]? = some (.cells #[.int .i64 t665, .int .i64 t666, .int .i64 t667, .int .i64 t668, .int .i64 t669, .int .u64 t670] 26 (0, 0))) ∧ (w'.heap[s_]? = some (.cells #[.int .u64 0, .int .u64 0] 60 (0, 0))) ∧ (w.heap.size ≤ s_) ∧ (w.heap.size ≤ s_) ∧ (gb646 ≠ s_) ∧ (s_ ≠ gb646) ∧ (gb656 ≠ s_) ∧ (s_ ≠ gb656) ∧ (gb664 ≠ s_) ∧ (s_ ≠ gb664) ∧ (gb672 ≠ s_) ∧ (s_ ≠ gb672) ∧ (Below w.heap.size w w')) ?_ ?_
     rotate_left
     ·intro hCont
      refine tw_ 7 16 (some 99) (some 13) (bl_ 19 2047) (bl_ 19 67455) HT_ (fun K hK => ?_) fun K hK => ?_
      ·refine goesB_ Try.func30 #[.int .u64 (IntKind.u64.wrap (a0_3)), .int .u64 (IntKind.u64.wrap (a0_2))] ?_
       with_reducible refine (wide_Mul.calls (IntKind.u64.wrap (a0_3)) (IntKind.u64.wrap (a0_2)) t675 t676 _ A33.out).mono ?_
       rintro e w157 ⟨rfl, hb⟩
       refine ⟨_, rfl, ?_⟩
       replace BK646 := bb_ BK646 hb
       replace BK656 := bb_ BK656 hb
       replace BK664 := bb_ BK664 hb
       replace BK672 := bb_ BK672 hb
       replace HB := bs_ w hb
       clear hb
       refine hK.out _ _ (cc6_ BK646) (fun hHeld => ?_)
       clear hK K
       refine nm_ (some 99) ?_
       refine tw_ 11 16 (some 103) (some 13) (bl_ 19 4095) (bl_ 19 67583) HT_ (fun K hK => ?_) fun K hK => ?_
       ·refine goesB_ Try.func31 #[.int .u64 (IntKind.u64.wrap (a0_4))] ?_
        with_reducible refine (wide_Of.calls (IntKind.u64.wrap (a0_4)) t677 t678 _ A34.out).mono ?_
        rintro e w158 ⟨rfl, hb⟩
        refine ⟨_, rfl, ?_⟩
        replace BK646 := bb_ BK646 hb
        replace BK656 := bb_ BK656 hb
        replace BK664 := bb_ BK664 hb
        replace BK672 := bb_ BK672 hb
        replace HB := bs_ w hb
        clear hb
        refine hK.out _ _ (cc6_ BK646) (fun hHeld => ?_)
        clear hK K
        refine nm_ (some 103) ?_
        refine tw_ 12 16 (some 104) (some 13) (bl_ 19 8191) (bl_ 19 69631) HT_ (fun K hK => ?_) fun K hK => ?_
        ·refine goesB_ Try.func29 #[.agg #[.int .u64 t675, .int .u64 t676], .agg #[.int .u64 t677, .int .u64 t678]] ?_
         with_reducible refine (wide_Add.calls t675 t676 t677 t678 t679 t680 t681 _ A35.out).mono ?_
         rintro e w159 ⟨rfl, hb⟩
         refine ⟨_, rfl, ?_⟩
         replace BK646 := bb_ BK646 hb
         replace BK656 := bb_ BK656 hb
         replace BK664 := bb_ BK664 hb
         replace BK672 := bb_ BK672 hb
         replace HB := bs_ w hb
         clear hb
         refine hK.out _ _ (cc6_ BK646) (fun hHeld => ?_)
         clear hK K
         refine nm_ (some 104) ?_
         refine pa_ 13 (some 91) (bl_ 19 16383) HT_ ?_
         refine pa_ 14 (some 105) (bl_ 19 32767) HT_ ?_
         refine pa_ 15 (some 106) (bl_ 19 65535) HT_ ?_
         refine oa_ 16 (some 13) (bl_ 19 131071) HT_ fun K hK => ?_
         refine bs2_ #[.int .u64 0, .int .u64 0] 60 ?_
         intro gb682 hg w160 BK682 hb
         have GW682 := bz_ w hg
         have GE682 := GW682
         have NB646_682 := bn_ BK646 hg
         have NB682_646 := bm_ BK646 hg
         have NB656_682 := bn_ BK656 hg
         have NB682_656 := bm_ BK656 hg
         have NB664_682 := bn_ BK664 hg
         have NB682_664 := bm_ BK664 hg
         have NB672_682 := bn_ BK672 hg
         have NB682_672 := bm_ BK672 hg
         replace BK646 := bb_ BK646 hb
         replace BK656 := bb_ BK656 hb
         replace BK664 := bb_ BK664 hb
         replace BK672 := bb_ BK672 hb
         replace HB := bs_ w hb
         clear hb hg
         refine hK.out _ _ (cc6_ BK646) (fun hHeld => ?_)
         clear hK K
         refine nm_ (some 13) ?_
         exact no_ (hCont (gb682) _ ⟨hHeld, (bq_ BK646), (bq_ BK656), (bq_ BK664), (bq_ BK672), (bq_ BK682), GW682.out, GE682.out, NB646_682.out, NB682_646.out, NB656_682.out, NB682_656.out, NB664_682.out, NB682_664.out, NB672_682.out, NB682_672.out, bh_⟩)
        ·refine bs2_ #[.int .u64 0, .int .u64 0] 60 ?_
         intro gb682 hg w159 BK682 hb
         have GW682 := bz_ w hg
         have GE682 := GW682
         have NB646_682 := bn_ BK646 hg
         have NB682_646 := bm_ BK646 hg
         have NB656_682 := bn_ BK656 hg
         have NB682_656 := bm_ BK656 hg
         have NB664_682 := bn_ BK664 hg
         have NB682_664 := bm_ BK664 hg
         have NB672_682 := bn_ BK672 hg
         have NB682_672 := bm_ BK672 hg
         replace BK646 := bb_ BK646 hb
         replace BK656 := bb_ BK656 hb
         replace BK664 := bb_ BK664 hb
         replace BK672 := bb_ BK672 hb
         replace HB := bs_ w hb
         clear hb hg
         refine hK.out _ _ (cc6_ BK646) (fun hHeld => ?_)
         clear hK K
         refine nm_ (some 13) ?_
         refine oa_ 12 (some 104) (bl_ 19 73727) HT_ fun K hK => ?_
         refine goesB_ Try.func29 #[.agg #[.int .u64 t675, .int .u64 t676], .agg #[.int .u64 t677, .int .u64 t678]] ?_
         with_reducible refine (wide_Add.calls t675 t676 t677 t678 t679 t680 t681 _ A35.out).mono ?_
         rintro e w160 ⟨rfl, hb⟩
         refine ⟨_, rfl, ?_⟩
         replace BK646 := bb_ BK646 hb
         replace BK656 := bb_ BK656 hb
         replace BK664 := bb_ BK664 hb
         replace BK672 := bb_ BK672 hb
         replace BK682 := bb_ BK682 hb
         replace HB := bs_ w hb
         clear hb
         refine hK.out _ _ (cc6_ BK646) (fun hHeld => ?_)
         clear hK K
         refine nm_ (some 104) ?_
         refine pa_ 13 (some 91) (bl_ 19 81919) HT_ ?_
         refine pa_ 14 (some 105) (bl_ 19 98303) HT_ ?_
         refine pa_ 15 (some 106) (bl_ 19 131071) HT_ ?_
         exact no_ (hCont (gb682) _ ⟨hHeld, (bq_ BK646), (bq_ BK656), (bq_ BK664), (bq_ BK672), (bq_ BK682), GW682.out, GE682.out, NB646_682.out, NB682_646.out, NB656_682.out, NB682_656.out, NB664_682.out, NB682_664.out, NB672_682.out, NB682_672.out, bh_⟩)
       ·refine bs2_ #[.int .u64 0, .int .u64 0] 60 ?_
        intro gb682 hg w158 BK682 hb
        have GW682 := bz_ w hg
        have GE682 := GW682
        have NB646_682 := bn_ BK646 hg
        have NB682_646 := bm_ BK646 hg
        have NB656_682 := bn_ BK656 hg
        have NB682_656 := bm_ BK656 hg
        have NB664_682 := bn_ BK664 hg
        have NB682_664 := bm_ BK664 hg
        have NB672_682 := bn_ BK672 hg
        have NB682_672 := bm_ BK672 hg
        replace BK646 := bb_ BK646 hb
        replace BK656 := bb_ BK656 hb
        replace BK664 := bb_ BK664 hb
        replace BK672 := bb_ BK672 hb
        replace HB := bs_ w hb
        clear hb hg
        refine hK.out _ _ (cc6_ BK646) (fun hHeld => ?_)
        clear hK K
        refine nm_ (some 13) ?_
        refine oa_ 11 (some 103) (bl_ 19 69631) HT_ fun K hK => ?_
        refine goesB_ Try.func31 #[.int .u64 (IntKind.u64.wrap (a0_4))] ?_
        with_reducible refine (wide_Of.calls (IntKind.u64.wrap (a0_4)) t677 t678 _ A34.out).mono ?_
        rintro e w159 ⟨rfl, hb⟩
        refine ⟨_, rfl, ?_⟩
        replace BK646 := bb_ BK646 hb
        replace BK656 := bb_ BK656 hb
        replace BK664 := bb_ BK664 hb
        replace BK672 := bb_ BK672 hb
        replace BK682 := bb_ BK682 hb
        replace HB := bs_ w hb
        clear hb
        refine hK.out _ _ (cc6_ BK646) (fun hHeld => ?_)
        clear hK K
        refine nm_ (some 103) ?_
        refine oa_ 12 (some 104) (bl_ 19 73727) HT_ fun K hK => ?_
        refine goesB_ Try.func29 #[.agg #[.int .u64 t675, .int .u64 t676], .agg #[.int .u64 t677, .int .u64 t678]] ?_
        with_reducible refine (wide_Add.calls t675 t676 t677 t678 t679 t680 t681 _ A35.out).mono ?_
        rintro e w160 ⟨rfl, hb⟩
        refine ⟨_, rfl, ?_⟩
        replace BK646 := bb_ BK646 hb
        replace BK656 := bb_ BK656 hb
        replace BK664 := bb_ BK664 hb
        replace BK672 := bb_ BK672 hb
        replace BK682 := bb_ BK682 hb
        replace HB := bs_ w hb
        clear hb
        refine hK.out _ _ (cc6_ BK646) (fun hHeld => ?_)
        clear hK K
        refine nm_ (some 104) ?_
        refine pa_ 13 (some 91) (bl_ 19 81919) HT_ ?_
        refine pa_ 14 (some 105) (bl_ 19 98303) HT_ ?_
        refine pa_ 15 (some 106) (bl_ 19 131071) HT_ ?_
        exact no_ (hCont (gb682) _ ⟨hHeld, (bq_ BK646), (bq_ BK656), (bq_ BK664), (bq_ BK672), (bq_ BK682), GW682.out, GE682.out, NB646_682.out, NB682_646.out, NB656_682.out, NB682_656.out, NB664_682.out, NB682_664.out, NB672_682.out, NB682_672.out, bh_⟩)
      ·refine bs2_ #[.int .u64 0, .int .u64 0] 60 ?_
       intro gb682 hg w157 BK682 hb
       have GW682 := bz_ w hg
       have GE682 := GW682
       have NB646_682 := bn_ BK646 hg
       have NB682_646 := bm_ BK646 hg
       have NB656_682 := bn_ BK656 hg
       have NB682_656 := bm_ BK656 hg
       have NB664_682 := bn_ BK664 hg
       have NB682_664 := bm_ BK664 hg
       have NB672_682 := bn_ BK672 hg
       have NB682_672 := bm_ BK672 hg
       replace BK646 := bb_ BK646 hb
       replace BK656 := bb_ BK656 hb
       replace BK664 := bb_ BK664 hb
       replace BK672 := bb_ BK672 hb
       replace HB := bs_ w hb
       clear hb hg
       refine hK.out _ _ (cc6_ BK646) (fun hHeld => ?_)
       clear hK K
       refine nm_ (some 13) ?_
       refine oa_ 7 (some 99) (bl_ 19 67583) HT_ fun K hK => ?_
       refine goesB_ Try.func30 #[.int .u64 (IntKind.u64.wrap (a0_3)), .int .u64 (IntKind.u64.wrap (a0_2))] ?_
       with_reducible refine (wide_Mul.calls (IntKind.u64.wrap (a0_3)) (IntKind.u64.wrap (a0_2)) t675 t676 _ A33.out).mono ?_
       rintro e w158 ⟨rfl, hb⟩
       refine ⟨_, rfl, ?_⟩
       replace BK646 := bb_ BK646 hb
       replace BK656 := bb_ BK656 hb
       replace BK664 := bb_ BK664 hb
       replace BK672 := bb_ BK672 hb
       replace BK682 := bb_ BK682 hb
       replace HB := bs_ w hb
       clear hb
       refine hK.out _ _ (cc6_ BK646) (fun hHeld => ?_)
       clear hK K
       refine nm_ (some 99) ?_
       refine oa_ 11 (some 103) (bl_ 19 69631) HT_ fun K hK => ?_
       refine goesB_ Try.func31 #[.int .u64 (IntKind.u64.wrap (a0_4))] ?_
       with_reducible refine (wide_Of.calls (IntKind.u64.wrap (a0_4)) t677 t678 _ A34.out).mono ?_
       rintro e w159 ⟨rfl, hb⟩
       refine ⟨_, rfl, ?_⟩
       replace BK646 := bb_ BK646 hb
       replace BK656 := bb_ BK656 hb
       replace BK664 := bb_ BK664 hb
       replace BK672 := bb_ BK672 hb
       replace BK682 := bb_ BK682 hb
       replace HB := bs_ w hb
       clear hb
       refine hK.out _ _ (cc6_ BK646) (fun hHeld => ?_)
       clear hK K
       refine nm_ (some 103) ?_
       refine oa_ 12 (some 104) (bl_ 19 73727) HT_ fun K hK => ?_
       refine goesB_ Try.func29 #[.agg #[.int .u64 t675, .int .u64 t676], .agg #[.int .u64 t677, .int .u64 t678]] ?_
       with_reducible refine (wide_Add.calls t675 t676 t677 t678 t679 t680 t681 _ A35.out).mono ?_
       rintro e w160 ⟨rfl, hb⟩
       refine ⟨_, rfl, ?_⟩
       replace BK646 := bb_ BK646 hb
       replace BK656 := bb_ BK656 hb
       replace BK664 := bb_ BK664 hb
       replace BK672 := bb_ BK672 hb
       replace BK682 := bb_ BK682 hb
       replace HB := bs_ w hb
       clear hb
       refine hK.out _ _ (cc6_ BK646) (fun hHeld => ?_)
       clear hK K
       refine nm_ (some 104) ?_
       refine pa_ 13 (some 91) (bl_ 19 81919) HT_ ?_
       refine pa_ 14 (some 105) (bl_ 19 98303) HT_ ?_
       refine pa_ 15 (some 106) (bl_ 19 131071) HT_ ?_
       exact no_ (hCont (gb682) _ ⟨hHeld, (bq_ BK646), (bq_ BK656), (bq_ BK664), (bq_ BK672), (bq_ BK682), GW682.out, GE682.out, NB646_682.out, NB682_646.out, NB656_682.out, NB682_656.out, NB664_682.out, NB682_664.out, NB672_682.out, NB682_672.out, bh_⟩)
     rintro gb682 w161 ⟨hS_, h0_, h1_, h2_, h3_, h4_, h5_, h6_, h7_, h8_, h9_, h10_, h11_, h12_, h13_, h14_, h15_⟩
     have BK682 := Aside0.mk h4_
     have GW682 := Aside0.mk h5_
     have GE682 := Aside0.mk h6_
     have NB646_682 := Aside0.mk h7_
     have NB682_646 := Aside0.mk h8_
     have NB656_682 := Aside0.mk h9_
     have NB682_656 := Aside0.mk h10_
     have NB664_682 := Aside0.mk h11_
     have NB682_664 := Aside0.mk h12_
     have NB672_682 := Aside0.mk h13_
     have NB682_672 := Aside0.mk h14_
     replace BK646 := Aside0.mk h0_
     replace BK656 := Aside0.mk h1_
     replace BK664 := Aside0.mk h2_
     replace BK672 := Aside0.mk h3_
     replace HB := Aside0.mk h15_
     clear h0_ h1_ h2_ h3_ h4_ h5_ h6_ h7_ h8_ h9_ h10_ h11_ h12_ h13_ h14_ h15_
     have hHeld := hS_
     refine nq_ ?_
     refine oa_ 17 none (bl_ 19 262143) HT_ fun K hK => ?_
     have hs162 : w161.cell? ⟨gb682, 0, none⟩ = some (.int .u64 0) := (blk_cell BK682.out 0).trans rfl
     have hfs162 := blk_frozen BK682.out 0
     have hns162_0 := NB646_682.out
     have hns162_1 := NB656_682.out
     have hns162_2 := NB664_682.out
     have hns162_3 := NB672_682.out
     have hms162_0 := NB682_646.out
     have hms162_1 := NB682_656.out
     have hms162_2 := NB682_664.out
     have hms162_3 := NB682_672.out
     have hs163 : w161.cell? ⟨gb682, 1, none⟩ = some (.int .u64 0) := (blk_cell BK682.out 1).trans rfl
     have hfs163 := blk_frozen BK682.out 1
     have hns163_0 := NB646_682.out
     have hns163_1 := NB656_682.out
     have hns163_2 := NB664_682.out
     have hns163_3 := NB672_682.out
     have hms163_0 := NB682_646.out
     have hms163_1 := NB682_656.out
     have hms163_2 := NB682_664.out
     have hms163_3 := NB682_672.out
     refine sk_ ?_
     refine hK.out _ _ (cf6_ hHeld) (fun hHeld => ?_)
     clear hK K
     refine pa_ 18 (some 14) (bl_ 19 524287) HT_ ?_
     refine done_ (done_of HT_.out (by kernel_rfl)) ?_
     try go_wp2
     have n0_ : Aside0 (((w161.setCell ⟨gb682, 0, none⟩ (.int .u64 t679)).setCell ⟨gb682, 1, none⟩ (.int .u64 t680)).heap[gb646]? = some (.cells #[.int .i64 a0_0, .int .i64 a0_1, .int .i64 a0_2, .int .i64 a0_3, .int .i64 a0_4, .int .u64 a0_5] 26 (0, 0))) := ⟨(bt_ BK646)⟩
     have n1_ : Aside0 (((w161.setCell ⟨gb682, 0, none⟩ (.int .u64 t679)).setCell ⟨gb682, 1, none⟩ (.int .u64 t680)).heap[gb656]? = some (.cells #[.int .i64 t649, .int .i64 t650, .int .i64 t651, .int .i64 t652, .int .i64 t653, .int .u64 t654] 26 (0, 0))) := ⟨(bt_ BK656)⟩
     have n2_ : Aside0 (((w161.setCell ⟨gb682, 0, none⟩ (.int .u64 t679)).setCell ⟨gb682, 1, none⟩ (.int .u64 t680)).heap[gb664]? = some (.cells #[.int .i64 t657, .int .i64 t658, .int .i64 t659, .int .i64 t660, .int .i64 t661, .int .u64 t662] 26 (0, 0))) := ⟨(bt_ BK664)⟩
     have n3_ : Aside0 (((w161.setCell ⟨gb682, 0, none⟩ (.int .u64 t679)).setCell ⟨gb682, 1, none⟩ (.int .u64 t680)).heap[gb672]? = some (.cells #[.int .i64 t665, .int .i64 t666, .int .i64 t667, .int .i64 t668, .int .i64 t669, .int .u64 t670] 26 (0, 0))) := ⟨(bt_ BK672)⟩
     have n4_ : Aside0 (((w161.setCell ⟨gb682, 0, none⟩ (.int .u64 t679)).setCell ⟨gb682, 1, none⟩ (.int .u64 t680)).heap[gb682]? = some (.cells #[.int .u64 t679, .int .u64 t680] 60 (0, 0))) := ⟨(bp2_ (bq_ BK682))⟩
     have n5_ : Aside0 (Below w.heap.size w ((w161.setCell ⟨gb682, 0, none⟩ (.int .u64 t679)).setCell ⟨gb682, 1, none⟩ (.int .u64 t680))) := bw_
     (try clear BK646)
     (try clear BK656)
     (try clear BK664)
     (try clear BK672)
     (try clear BK682)
     (try clear HB)
     generalize ((w161.setCell ⟨gb682, 0, none⟩ (.int .u64 t679)).setCell ⟨gb682, 1, none⟩ (.int .u64 t680)) = w164 at n0_ n1_ n2_ n3_ n4_ n5_ ⊢
     have BK646 := n0_
     have BK656 := n1_
     have BK664 := n2_
     have BK672 := n3_
     have BK682 := n4_
     have HB := n5_
     clear n0_ n1_ n2_ n3_ n4_ n5_
     replace BK646 := Aside0.mk (blk_drew BK646.out)
     replace BK656 := Aside0.mk (blk_drew BK656.out)
     replace BK664 := Aside0.mk (blk_drew BK664.out)
     replace BK672 := Aside0.mk (blk_drew BK672.out)
     replace BK682 := Aside0.mk (blk_drew BK682.out)
     replace HB := Aside0.mk (below_drew1 HB.out)
     refine start_ (n := 17) (S := fun w' => w'.cell? ⟨gb682, 0, none⟩ = some (.int .u64 t679) ∧ w'.cell? ⟨gb682, 1, none⟩ = some (.int .u64 t680) ∧ w'.cell? ⟨gb646, 0, none⟩ = some (.int .i64 a0_0) ∧ w'.cell? ⟨gb646, 1, none⟩ = some (.int .i64 a0_1) ∧ w'.cell? ⟨gb646, 2, none⟩ = some (.int .i64 a0_2) ∧ w'.cell? ⟨gb646, 3, none⟩ = some (.int .i64 a0_3) ∧ w'.cell? ⟨gb646, 4, none⟩ = some (.int .i64 a0_4) ∧ w'.cell? ⟨gb646, 5, none⟩ = some (.int .u64 a0_5)) (ds := []) (bl_ 17 0) (by kernel_rfl) rfl (by kernel_rfl) ⟨(blk_cell BK682.out 0).trans rfl, (blk_cell BK682.out 1).trans rfl, (blk_cell BK646.out 0).trans rfl, (blk_cell BK646.out 1).trans rfl, (blk_cell BK646.out 2).trans rfl, (blk_cell BK646.out 3).trans rfl, (blk_cell BK646.out 4).trans rfl, (blk_cell BK646.out 5).trans rfl⟩ (fun hHeld => ?_); refine with_tabW spigotlaw03_BucketTwo.tab9 spigotlaw03_BucketTwo.bits9 (fun HT_ HW_ => ?_)
     generalize w164.drew = w165 at BK646 BK656 BK664 BK672 BK682 HB hHeld ⊢
     refine pa_ 1 (some 109) (bl_ 17 2) HT_ ?_
     refine pa_ 2 (some 110) (bl_ 17 6) HT_ ?_
     refine pa_ 5 (some 113) (bl_ 17 38) HT_ ?_
     refine pa_ 6 (some 114) (bl_ 17 102) HT_ ?_
     refine ta_ 0 (some 108) (bl_ 17 103) HT_ HW_ hHeld ?_
     refine ta_ 3 (some 111) (bl_ 17 111) HT_ HW_ hHeld ?_
     refine pa_ 4 (some 112) (bl_ 17 127) HT_ ?_
     refine ta_ 7 (some 115) (bl_ 17 255) HT_ HW_ hHeld ?_
     refine pa_ 8 (some 116) (bl_ 17 511) HT_ ?_
     refine join_ (σ := Nat) 2 (bl_ 17 32767) (fun s_ => [(117, .agg #[.int .u64 t683, .int .u64 t684]), (118, .tuple #[.agg #[.int .u64 t685, .int .u64 t686], .int .i64 t687]), (15, .pointer (some ⟨s_, 0, none⟩)), (107, .tuple #[.agg #[.int .u64 t685, .int .u64 t686], .int .i64 t687]), (119, .agg #[.int .u64 t685, .int .u64 t686]), (120, .int .i64 t687)]) (fun s_ w' => (w'.cell? ⟨gb682, 0, none⟩ = some (.int .u64 t679) ∧ w'.cell? ⟨gb682, 1, none⟩ = some (.int .u64 t680) ∧ w'.cell? ⟨gb646, 0, none⟩ = some (.int .i64 a0_0) ∧ w'.cell? ⟨gb646, 1, none⟩ = some (.int .i64 a0_1) ∧ w'.cell? ⟨gb646, 2, none⟩ = some (.int .i64 a0_2) ∧ w'.cell? ⟨gb646, 3, none⟩ = some (.int .i64 a0_3) ∧ w'.cell? ⟨gb646, 4, none⟩ = some (.int .i64 a0_4) ∧ w'.cell? ⟨gb646, 5, none⟩ = some (.int .u64 a0_5)) ∧ (w'.heap[gb646]? = some (.cells #[.int .i64 a0_0, .int .i64 a0_1, .int .i64 a0_2, .int .i64 a0_3, .int .i64 a0_4, .int .u64 a0_5] 26 (0, 0))) ∧ (w'.heap[gb656]? = some (.cells #[.int .i64 t649, .int .i64 t650, .int .i64 t651, .int .i64 t652, .int .i64 t653, .int .u64 t654] 26 (0, 0))) ∧ (w'.heap[gb664]? = some (.cells #[.int .i64 t657, .int .i64 t658, .int .i64 t659, .int .i64 t660, .int .i64 t661, .int .u64 t662] 26 (0, 0))) ∧ (w'.heap[gb672]? = some (.cells #[.int .i64 t665, .int .i64 t666, .int .i64 t667, .int .i64 t668, .int .i64 t669, .int .u64 t670] 26 (0, 0))) ∧ (w'.heap[gb682]? = some (.cells #[.int .u64 t679, .int .u64 t680] 60 (0, 0))) ∧ (w'.heap[s_]? = some (.cells #[.int .u64 0, .int .u64 0] 60 (0, 0))) ∧ (w.heap.size ≤ s_) ∧ (w.heap.size ≤ s_) ∧ (gb646 ≠ s_) ∧ (s_ ≠ gb646) ∧ (gb656 ≠ s_) ∧ (s_ ≠ gb656) ∧ (gb664 ≠ s_) ∧ (s_ ≠ gb664) ∧ (gb672 ≠ s_) ∧ (s_ ≠ gb672) ∧ (gb682 ≠ s_) ∧ (s_ ≠ gb682) ∧ (Below w.heap.size w w')) ?_ ?_
     rotate_left
     ·intro hCont
      refine tw_ 9 14 (some 117) (some 15) (bl_ 17 1023) (bl_ 17 16895) HT_ (fun K hK => ?_) fun K hK => ?_
      ·refine goesB_ Try.func30 #[.int .u64 (IntKind.u64.wrap (a2 - a0_5)), .int .u64 (IntKind.u64.wrap (a0_1))] ?_
       with_reducible refine (wide_Mul.calls (IntKind.u64.wrap (a2 - a0_5)) (IntKind.u64.wrap (a0_1)) t683 t684 _ A36.out).mono ?_
       rintro e w166 ⟨rfl, hb⟩
       refine ⟨_, rfl, ?_⟩
       replace BK646 := bb_ BK646 hb
       replace BK656 := bb_ BK656 hb
       replace BK664 := bb_ BK664 hb
       replace BK672 := bb_ BK672 hb
       replace BK682 := bb_ BK682 hb
       replace HB := bs_ w hb
       clear hb
       refine hK.out _ _ ⟨(blk_cell BK682.out 0).trans rfl, (blk_cell BK682.out 1).trans rfl, (blk_cell BK646.out 0).trans rfl, (blk_cell BK646.out 1).trans rfl, (blk_cell BK646.out 2).trans rfl, (blk_cell BK646.out 3).trans rfl, (blk_cell BK646.out 4).trans rfl, (blk_cell BK646.out 5).trans rfl⟩ (fun hHeld => ?_)
       clear hK K
       refine nm_ (some 117) ?_
       refine tw_ 10 14 (some 118) (some 15) (bl_ 17 2047) (bl_ 17 17407) HT_ (fun K hK => ?_) fun K hK => ?_
       ·refine goesB_ Try.func29 #[.agg #[.int .u64 t679, .int .u64 t680], .agg #[.int .u64 t683, .int .u64 t684]] ?_
        with_reducible refine (wide_Add.calls t679 t680 t683 t684 t685 t686 t687 _ A37.out).mono ?_
        rintro e w167 ⟨rfl, hb⟩
        refine ⟨_, rfl, ?_⟩
        replace BK646 := bb_ BK646 hb
        replace BK656 := bb_ BK656 hb
        replace BK664 := bb_ BK664 hb
        replace BK672 := bb_ BK672 hb
        replace BK682 := bb_ BK682 hb
        replace HB := bs_ w hb
        clear hb
        refine hK.out _ _ ⟨(blk_cell BK682.out 0).trans rfl, (blk_cell BK682.out 1).trans rfl, (blk_cell BK646.out 0).trans rfl, (blk_cell BK646.out 1).trans rfl, (blk_cell BK646.out 2).trans rfl, (blk_cell BK646.out 3).trans rfl, (blk_cell BK646.out 4).trans rfl, (blk_cell BK646.out 5).trans rfl⟩ (fun hHeld => ?_)
        clear hK K
        refine nm_ (some 118) ?_
        refine pa_ 11 (some 107) (bl_ 17 4095) HT_ ?_
        refine pa_ 12 (some 119) (bl_ 17 8191) HT_ ?_
        refine pa_ 13 (some 120) (bl_ 17 16383) HT_ ?_
        refine oa_ 14 (some 15) (bl_ 17 32767) HT_ fun K hK => ?_
        refine bs2_ #[.int .u64 0, .int .u64 0] 60 ?_
        intro gb688 hg w168 BK688 hb
        have GW688 := bz_ w hg
        have GE688 := GW688
        have NB646_688 := bn_ BK646 hg
        have NB688_646 := bm_ BK646 hg
        have NB656_688 := bn_ BK656 hg
        have NB688_656 := bm_ BK656 hg
        have NB664_688 := bn_ BK664 hg
        have NB688_664 := bm_ BK664 hg
        have NB672_688 := bn_ BK672 hg
        have NB688_672 := bm_ BK672 hg
        have NB682_688 := bn_ BK682 hg
        have NB688_682 := bm_ BK682 hg
        replace BK646 := bb_ BK646 hb
        replace BK656 := bb_ BK656 hb
        replace BK664 := bb_ BK664 hb
        replace BK672 := bb_ BK672 hb
        replace BK682 := bb_ BK682 hb
        replace HB := bs_ w hb
        clear hb hg
        refine hK.out _ _ ⟨(blk_cell BK682.out 0).trans rfl, (blk_cell BK682.out 1).trans rfl, (blk_cell BK646.out 0).trans rfl, (blk_cell BK646.out 1).trans rfl, (blk_cell BK646.out 2).trans rfl, (blk_cell BK646.out 3).trans rfl, (blk_cell BK646.out 4).trans rfl, (blk_cell BK646.out 5).trans rfl⟩ (fun hHeld => ?_)
        clear hK K
        refine nm_ (some 15) ?_
        exact no_ (hCont (gb688) _ ⟨hHeld, (bq_ BK646), (bq_ BK656), (bq_ BK664), (bq_ BK672), (bq_ BK682), (bq_ BK688), GW688.out, GE688.out, NB646_688.out, NB688_646.out, NB656_688.out, NB688_656.out, NB664_688.out, NB688_664.out, NB672_688.out, NB688_672.out, NB682_688.out, NB688_682.out, bh_⟩)
       ·refine bs2_ #[.int .u64 0, .int .u64 0] 60 ?_
        intro gb688 hg w167 BK688 hb
        have GW688 := bz_ w hg
        have GE688 := GW688
        have NB646_688 := bn_ BK646 hg
        have NB688_646 := bm_ BK646 hg
        have NB656_688 := bn_ BK656 hg
        have NB688_656 := bm_ BK656 hg
        have NB664_688 := bn_ BK664 hg
        have NB688_664 := bm_ BK664 hg
        have NB672_688 := bn_ BK672 hg
        have NB688_672 := bm_ BK672 hg
        have NB682_688 := bn_ BK682 hg
        have NB688_682 := bm_ BK682 hg
        replace BK646 := bb_ BK646 hb
        replace BK656 := bb_ BK656 hb
        replace BK664 := bb_ BK664 hb
        replace BK672 := bb_ BK672 hb
        replace BK682 := bb_ BK682 hb
        replace HB := bs_ w hb
        clear hb hg
        refine hK.out _ _ ⟨(blk_cell BK682.out 0).trans rfl, (blk_cell BK682.out 1).trans rfl, (blk_cell BK646.out 0).trans rfl, (blk_cell BK646.out 1).trans rfl, (blk_cell BK646.out 2).trans rfl, (blk_cell BK646.out 3).trans rfl, (blk_cell BK646.out 4).trans rfl, (blk_cell BK646.out 5).trans rfl⟩ (fun hHeld => ?_)
        clear hK K
        refine nm_ (some 15) ?_
        refine oa_ 10 (some 118) (bl_ 17 18431) HT_ fun K hK => ?_
        refine goesB_ Try.func29 #[.agg #[.int .u64 t679, .int .u64 t680], .agg #[.int .u64 t683, .int .u64 t684]] ?_
        with_reducible refine (wide_Add.calls t679 t680 t683 t684 t685 t686 t687 _ A37.out).mono ?_
        rintro e w168 ⟨rfl, hb⟩
        refine ⟨_, rfl, ?_⟩
        replace BK646 := bb_ BK646 hb
        replace BK656 := bb_ BK656 hb
        replace BK664 := bb_ BK664 hb
        replace BK672 := bb_ BK672 hb
        replace BK682 := bb_ BK682 hb
        replace BK688 := bb_ BK688 hb
        replace HB := bs_ w hb
        clear hb
        refine hK.out _ _ ⟨(blk_cell BK682.out 0).trans rfl, (blk_cell BK682.out 1).trans rfl, (blk_cell BK646.out 0).trans rfl, (blk_cell BK646.out 1).trans rfl, (blk_cell BK646.out 2).trans rfl, (blk_cell BK646.out 3).trans rfl, (blk_cell BK646.out 4).trans rfl, (blk_cell BK646.out 5).trans rfl⟩ (fun hHeld => ?_)
        clear hK K
        refine nm_ (some 118) ?_
        refine pa_ 11 (some 107) (bl_ 17 20479) HT_ ?_
        refine pa_ 12 (some 119) (bl_ 17 24575) HT_ ?_
        refine pa_ 13 (some 120) (bl_ 17 32767) HT_ ?_
        exact no_ (hCont (gb688) _ ⟨hHeld, (bq_ BK646), (bq_ BK656), (bq_ BK664), (bq_ BK672), (bq_ BK682), (bq_ BK688), GW688.out, GE688.out, NB646_688.out, NB688_646.out, NB656_688.out, NB688_656.out, NB664_688.out, NB688_664.out, NB672_688.out, NB688_672.out, NB682_688.out, NB688_682.out, bh_⟩)
      ·refine bs2_ #[.int .u64 0, .int .u64 0] 60 ?_
       intro gb688 hg w166 BK688 hb
       have GW688 := bz_ w hg
       have GE688 := GW688
       have NB646_688 := bn_ BK646 hg
       have NB688_646 := bm_ BK646 hg
       have NB656_688 := bn_ BK656 hg
       have NB688_656 := bm_ BK656 hg
       have NB664_688 := bn_ BK664 hg
       have NB688_664 := bm_ BK664 hg
       have NB672_688 := bn_ BK672 hg
       have NB688_672 := bm_ BK672 hg
       have NB682_688 := bn_ BK682 hg
       have NB688_682 := bm_ BK682 hg
       replace BK646 := bb_ BK646 hb
       replace BK656 := bb_ BK656 hb
       replace BK664 := bb_ BK664 hb
       replace BK672 := bb_ BK672 hb
       replace BK682 := bb_ BK682 hb
       replace HB := bs_ w hb
       clear hb hg
       refine hK.out _ _ ⟨(blk_cell BK682.out 0).trans rfl, (blk_cell BK682.out 1).trans rfl, (blk_cell BK646.out 0).trans rfl, (blk_cell BK646.out 1).trans rfl, (blk_cell BK646.out 2).trans rfl, (blk_cell BK646.out 3).trans rfl, (blk_cell BK646.out 4).trans rfl, (blk_cell BK646.out 5).trans rfl⟩ (fun hHeld => ?_)
       clear hK K
       refine nm_ (some 15) ?_
       refine oa_ 9 (some 117) (bl_ 17 17407) HT_ fun K hK => ?_
       refine goesB_ Try.func30 #[.int .u64 (IntKind.u64.wrap (a2 - a0_5)), .int .u64 (IntKind.u64.wrap (a0_1))] ?_
       with_reducible refine (wide_Mul.calls (IntKind.u64.wrap (a2 - a0_5)) (IntKind.u64.wrap (a0_1)) t683 t684 _ A36.out).mono ?_
       rintro e w167 ⟨rfl, hb⟩
       refine ⟨_, rfl, ?_⟩
       replace BK646 := bb_ BK646 hb
       replace BK656 := bb_ BK656 hb
       replace BK664 := bb_ BK664 hb
       replace BK672 := bb_ BK672 hb
       replace BK682 := bb_ BK682 hb
       replace BK688 := bb_ BK688 hb
       replace HB := bs_ w hb
       clear hb
       refine hK.out _ _ ⟨(blk_cell BK682.out 0).trans rfl, (blk_cell BK682.out 1).trans rfl, (blk_cell BK646.out 0).trans rfl, (blk_cell BK646.out 1).trans rfl, (blk_cell BK646.out 2).trans rfl, (blk_cell BK646.out 3).trans rfl, (blk_cell BK646.out 4).trans rfl, (blk_cell BK646.out 5).trans rfl⟩ (fun hHeld => ?_)
       clear hK K
       refine nm_ (some 117) ?_
       refine oa_ 10 (some 118) (bl_ 17 18431) HT_ fun K hK => ?_
       refine goesB_ Try.func29 #[.agg #[.int .u64 t679, .int .u64 t680], .agg #[.int .u64 t683, .int .u64 t684]] ?_
       with_reducible refine (wide_Add.calls t679 t680 t683 t684 t685 t686 t687 _ A37.out).mono ?_
       rintro e w168 ⟨rfl, hb⟩
       refine ⟨_, rfl, ?_⟩
       replace BK646 := bb_ BK646 hb
       replace BK656 := bb_ BK656 hb
       replace BK664 := bb_ BK664 hb
       replace BK672 := bb_ BK672 hb
       replace BK682 := bb_ BK682 hb
       replace BK688 := bb_ BK688 hb
       replace HB := bs_ w hb
       clear hb
       refine hK.out _ _ ⟨(blk_cell BK682.out 0).trans rfl, (blk_cell BK682.out 1).trans rfl, (blk_cell BK646.out 0).trans rfl, (blk_cell BK646.out 1).trans rfl, (blk_cell BK646.out 2).trans rfl, (blk_cell BK646.out 3).trans rfl, (blk_cell BK646.out 4).trans rfl, (blk_cell BK646.out 5).trans rfl⟩ (fun hHeld => ?_)
       clear hK K
       refine nm_ (some 118) ?_
       refine pa_ 11 (some 107) (bl_ 17 20479) HT_ ?_
       refine pa_ 12 (some 119) (bl_ 17 24575) HT_ ?_
       refine pa_ 13 (some 120) (bl_ 17 32767) HT_ ?_
       exact no_ (hCont (gb688) _ ⟨hHeld, (bq_ BK646), (bq_ BK656), (bq_ BK664), (bq_ BK672), (bq_ BK682), (bq_ BK688), GW688.out, GE688.out, NB646_688.out, NB688_646.out, NB656_688.out, NB688_656.out, NB664_688.out, NB688_664.out, NB672_688.out, NB688_672.out, NB682_688.out, NB688_682.out, bh_⟩)
     rintro gb688 w169 ⟨hS_, h0_, h1_, h2_, h3_, h4_, h5_, h6_, h7_, h8_, h9_, h10_, h11_, h12_, h13_, h14_, h15_, h16_, h17_, h18_⟩
     have BK688 := Aside0.mk h5_
     have GW688 := Aside0.mk h6_
     have GE688 := Aside0.mk h7_
     have NB646_688 := Aside0.mk h8_
     have NB688_646 := Aside0.mk h9_
     have NB656_688 := Aside0.mk h10_
     have NB688_656 := Aside0.mk h11_
     have NB664_688 := Aside0.mk h12_
     have NB688_664 := Aside0.mk h13_
     have NB672_688 := Aside0.mk h14_
     have NB688_672 := Aside0.mk h15_
     have NB682_688 := Aside0.mk h16_
     have NB688_682 := Aside0.mk h17_
     replace BK646 := Aside0.mk h0_
     replace BK656 := Aside0.mk h1_
     replace BK664 := Aside0.mk h2_
     replace BK672 := Aside0.mk h3_
     replace BK682 := Aside0.mk h4_
     replace HB := Aside0.mk h18_
     clear h0_ h1_ h2_ h3_ h4_ h5_ h6_ h7_ h8_ h9_ h10_ h11_ h12_ h13_ h14_ h15_ h16_ h17_ h18_
     have hHeld := hS_
     refine nq_ ?_
     refine oa_ 15 none (bl_ 17 65535) HT_ fun K hK => ?_
     have hs170 : w169.cell? ⟨gb688, 0, none⟩ = some (.int .u64 0) := (blk_cell BK688.out 0).trans rfl
     have hfs170 := blk_frozen BK688.out 0
     have hns170_0 := NB646_688.out
     have hns170_1 := NB656_688.out
     have hns170_2 := NB664_688.out
     have hns170_3 := NB672_688.out
     have hns170_4 := NB682_688.out
     have hms170_0 := NB688_646.out
     have hms170_1 := NB688_656.out
     have hms170_2 := NB688_664.out
     have hms170_3 := NB688_672.out
     have hms170_4 := NB688_682.out
     have hs171 : w169.cell? ⟨gb688, 1, none⟩ = some (.int .u64 0) := (blk_cell BK688.out 1).trans rfl
     have hfs171 := blk_frozen BK688.out 1
     have hns171_0 := NB646_688.out
     have hns171_1 := NB656_688.out
     have hns171_2 := NB664_688.out
     have hns171_3 := NB672_688.out
     have hns171_4 := NB682_688.out
     have hms171_0 := NB688_646.out
     have hms171_1 := NB688_656.out
     have hms171_2 := NB688_664.out
     have hms171_3 := NB688_672.out
     have hms171_4 := NB688_682.out
     refine sk_ ?_
     refine hK.out _ _ ⟨((cell_far (p := ⟨gb688, _, none⟩) NB682_688.out _).trans (((cell_far (p := ⟨gb688, _, none⟩) NB682_688.out _).trans (hHeld.1)))), ((cell_far (p := ⟨gb688, _, none⟩) NB682_688.out _).trans (((cell_far (p := ⟨gb688, _, none⟩) NB682_688.out _).trans (hHeld.2.1)))), ((cell_far (p := ⟨gb688, _, none⟩) NB646_688.out _).trans (((cell_far (p := ⟨gb688, _, none⟩) NB646_688.out _).trans (hHeld.2.2.1)))), ((cell_far (p := ⟨gb688, _, none⟩) NB646_688.out _).trans (((cell_far (p := ⟨gb688, _, none⟩) NB646_688.out _).trans (hHeld.2.2.2.1)))), ((cell_far (p := ⟨gb688, _, none⟩) NB646_688.out _).trans (((cell_far (p := ⟨gb688, _, none⟩) NB646_688.out _).trans (hHeld.2.2.2.2.1)))), ((cell_far (p := ⟨gb688, _, none⟩) NB646_688.out _).trans (((cell_far (p := ⟨gb688, _, none⟩) NB646_688.out _).trans (hHeld.2.2.2.2.2.1)))), ((cell_far (p := ⟨gb688, _, none⟩) NB646_688.out _).trans (((cell_far (p := ⟨gb688, _, none⟩) NB646_688.out _).trans (hHeld.2.2.2.2.2.2.1)))), ((cell_far (p := ⟨gb688, _, none⟩) NB646_688.out _).trans (((cell_far (p := ⟨gb688, _, none⟩) NB646_688.out _).trans (hHeld.2.2.2.2.2.2.2))))⟩ (fun hHeld => ?_)
     clear hK K
     refine pa_ 16 (some 16) (bl_ 17 131071) HT_ ?_
     refine done_ (done_of HT_.out (by kernel_rfl)) ?_
     try go_wp2
     have n0_ : Aside0 (((w169.setCell ⟨gb688, 0, none⟩ (.int .u64 t685)).setCell ⟨gb688, 1, none⟩ (.int .u64 t686)).heap[gb646]? = some (.cells #[.int .i64 a0_0, .int .i64 a0_1, .int .i64 a0_2, .int .i64 a0_3, .int .i64 a0_4, .int .u64 a0_5] 26 (0, 0))) := ⟨(bt_ BK646)⟩
     have n1_ : Aside0 (((w169.setCell ⟨gb688, 0, none⟩ (.int .u64 t685)).setCell ⟨gb688, 1, none⟩ (.int .u64 t686)).heap[gb656]? = some (.cells #[.int .i64 t649, .int .i64 t650, .int .i64 t651, .int .i64 t652, .int .i64 t653, .int .u64 t654] 26 (0, 0))) := ⟨(bt_ BK656)⟩
     have n2_ : Aside0 (((w169.setCell ⟨gb688, 0, none⟩ (.int .u64 t685)).setCell ⟨gb688, 1, none⟩ (.int .u64 t686)).heap[gb664]? = some (.cells #[.int .i64 t657, .int .i64 t658, .int .i64 t659, .int .i64 t660, .int .i64 t661, .int .u64 t662] 26 (0, 0))) := ⟨(bt_ BK664)⟩
     have n3_ : Aside0 (((w169.setCell ⟨gb688, 0, none⟩ (.int .u64 t685)).setCell ⟨gb688, 1, none⟩ (.int .u64 t686)).heap[gb672]? = some (.cells #[.int .i64 t665, .int .i64 t666, .int .i64 t667, .int .i64 t668, .int .i64 t669, .int .u64 t670] 26 (0, 0))) := ⟨(bt_ BK672)⟩
     have n4_ : Aside0 (((w169.setCell ⟨gb688, 0, none⟩ (.int .u64 t685)).setCell ⟨gb688, 1, none⟩ (.int .u64 t686)).heap[gb682]? = some (.cells #[.int .u64 t679, .int .u64 t680] 60 (0, 0))) := ⟨(bt_ BK682)⟩
     have n5_ : Aside0 (((w169.setCell ⟨gb688, 0, none⟩ (.int .u64 t685)).setCell ⟨gb688, 1, none⟩ (.int .u64 t686)).heap[gb688]? = some (.cells #[.int .u64 t685, .int .u64 t686] 60 (0, 0))) := ⟨(bp2_ (bq_ BK688))⟩
     have n6_ : Aside0 (Below w.heap.size w ((w169.setCell ⟨gb688, 0, none⟩ (.int .u64 t685)).setCell ⟨gb688, 1, none⟩ (.int .u64 t686))) := bw_
     (try clear BK646)
     (try clear BK656)
     (try clear BK664)
     (try clear BK672)
     (try clear BK682)
     (try clear BK688)
     (try clear HB)
     generalize ((w169.setCell ⟨gb688, 0, none⟩ (.int .u64 t685)).setCell ⟨gb688, 1, none⟩ (.int .u64 t686)) = w172 at n0_ n1_ n2_ n3_ n4_ n5_ n6_ ⊢
     have BK646 := n0_
     have BK656 := n1_
     have BK664 := n2_
     have BK672 := n3_
     have BK682 := n4_
     have BK688 := n5_
     have HB := n6_
     clear n0_ n1_ n2_ n3_ n4_ n5_ n6_
     replace BK646 := Aside0.mk (blk_drew BK646.out)
     replace BK656 := Aside0.mk (blk_drew BK656.out)
     replace BK664 := Aside0.mk (blk_drew BK664.out)
     replace BK672 := Aside0.mk (blk_drew BK672.out)
     replace BK682 := Aside0.mk (blk_drew BK682.out)
     replace BK688 := Aside0.mk (blk_drew BK688.out)
     replace HB := Aside0.mk (below_drew1 HB.out)
     refine start_ (n := 19) (S := fun w' => w'.cell? ⟨gb672, 0, none⟩ = some (.int .i64 t665) ∧ w'.cell? ⟨gb672, 1, none⟩ = some (.int .i64 t666) ∧ w'.cell? ⟨gb672, 2, none⟩ = some (.int .i64 t667) ∧ w'.cell? ⟨gb672, 3, none⟩ = some (.int .i64 t668) ∧ w'.cell? ⟨gb672, 4, none⟩ = some (.int .i64 t669) ∧ w'.cell? ⟨gb672, 5, none⟩ = some (.int .u64 t670) ∧ w'.cell? ⟨gb646, 0, none⟩ = some (.int .i64 a0_0) ∧ w'.cell? ⟨gb646, 1, none⟩ = some (.int .i64 a0_1) ∧ w'.cell? ⟨gb646, 2, none⟩ = some (.int .i64 a0_2) ∧ w'.cell? ⟨gb646, 3, none⟩ = some (.int .i64 a0_3) ∧ w'.cell? ⟨gb646, 4, none⟩ = some (.int .i64 a0_4) ∧ w'.cell? ⟨gb646, 5, none⟩ = some (.int .u64 a0_5)) (ds := []) (bl_ 19 0) (by kernel_rfl) rfl (by kernel_rfl) ⟨(blk_cell BK672.out 0).trans rfl, (blk_cell BK672.out 1).trans rfl, (blk_cell BK672.out 2).trans rfl, (blk_cell BK672.out 3).trans rfl, (blk_cell BK672.out 4).trans rfl, (blk_cell BK672.out 5).trans rfl, (blk_cell BK646.out 0).trans rfl, (blk_cell BK646.out 1).trans rfl, (blk_cell BK646.out 2).trans rfl, (blk_cell BK646.out 3).trans rfl, (blk_cell BK646.out 4).trans rfl, (blk_cell BK646.out 5).trans rfl⟩ (fun hHeld => ?_); refine with_tabW spigotlaw03_BucketTwo.tab10 spigotlaw03_BucketTwo.bits10 (fun HT_ HW_ => ?_)
     generalize w172.drew = w173 at BK646 BK656 BK664 BK672 BK682 BK688 HB hHeld ⊢
     refine pa_ 0 (some 122) (bl_ 19 1) HT_ ?_
     refine pa_ 3 (some 125) (bl_ 19 9) HT_ ?_
     refine pa_ 4 (some 126) (bl_ 19 25) HT_ ?_
     refine pa_ 8 (some 130) (bl_ 19 281) HT_ ?_
     refine ta_ 1 (some 123) (bl_ 19 283) HT_ HW_ hHeld ?_
     refine pa_ 2 (some 124) (bl_ 19 287) HT_ ?_
     refine ta_ 5 (some 127) (bl_ 19 319) HT_ HW_ hHeld ?_
     refine pa_ 6 (some 128) (bl_ 19 383) HT_ ?_
     refine ta_ 9 (some 131) (bl_ 19 895) HT_ HW_ hHeld ?_
     refine pa_ 10 (some 132) (bl_ 19 1919) HT_ ?_
     refine join_ (σ := Nat) 2 (bl_ 19 131071) (fun s_ => [(129, .agg #[.int .u64 t689, .int .u64 t690]), (133, .agg #[.int .u64 t691, .int .u64 t692]), (134, .tuple #[.agg #[.int .u64 t693, .int .u64 t694], .int .i64 t695]), (17, .pointer (some ⟨s_, 0, none⟩)), (121, .tuple #[.agg #[.int .u64 t693, .int .u64 t694], .int .i64 t695]), (135, .agg #[.int .u64 t693, .int .u64 t694]), (136, .int .i64 t695)]) (fun s_ w' => (w'.cell? ⟨gb672, 0, none⟩ = some (.int .i64 t665) ∧ w'.cell? ⟨gb672, 1, none⟩ = some (.int .i64 t666) ∧ w'.cell? ⟨gb672, 2, none⟩ = some (.int .i64 t667) ∧ w'.cell? ⟨gb672, 3, none⟩ = some (.int .i64 t668) ∧ w'.cell? ⟨gb672, 4, none⟩ = some (.int .i64 t669) ∧ w'.cell? ⟨gb672, 5, none⟩ = some (.int .u64 t670) ∧ w'.cell? ⟨gb646, 0, none⟩ = some (.int .i64 a0_0) ∧ w'.cell? ⟨gb646, 1, none⟩ = some (.int .i64 a0_1) ∧ w'.cell? ⟨gb646, 2, none⟩ = some (.int .i64 a0_2) ∧ w'.cell? ⟨gb646, 3, none⟩ = some (.int .i64 a0_3) ∧ w'.cell? ⟨gb646, 4, none⟩ = some (.int .i64 a0_4) ∧ w'.cell? ⟨gb646, 5, none⟩ = some (.int .u64 a0_5)) ∧ (w'.heap[gb646]? = some (.cells #[.int .i64 a0_0, .int .i64 a0_1, .int .i64 a0_2, .int .i64 a0_3, .int .i64 a0_4, .int .u64 a0_5] 26 (0, 0))) ∧ (w'.heap[gb656]? = some (.cells #[.int .i64 t649, .int .i64 t650, .int .i64 t651, .int .i64 t652, .int .i64 t653, .int .u64 t654] 26 (0, 0))) ∧ (w'.heap[gb664]? = some (.cells #[.int .i64 t657, .int .i64 t658, .int .i64 t659, .int .i64 t660, .int .i64 t661, .int .u64 t662] 26 (0, 0))) ∧ (w'.heap[gb672]? = some (.cells #[.int .i64 t665, .int .i64 t666, .int .i64 t667, .int .i64 t668, .int .i64 t669, .int .u64 t670] 26 (0, 0))) ∧ (w'.heap[gb682]? = some (.cells #[.int .u64 t679, .int .u64 t680] 60 (0, 0))) ∧ (w'.heap[gb688]? = some (.cells #[.int .u64 t685, .int .u64 t686] 60 (0, 0))) ∧ (w'.heap[s_]? = some (.cells #[.int .u64 0, .int .u64 0] 60 (0, 0))) ∧ (w.heap.size ≤ s_) ∧ (w.heap.size ≤ s_) ∧ (gb646 ≠ s_) ∧ (s_ ≠ gb646) ∧ (gb656 ≠ s_) ∧ (s_ ≠ gb656) ∧ (gb664 ≠ s_) ∧ (s_ ≠ gb664) ∧ (gb672 ≠ s_) ∧ (s_ ≠ gb672) ∧ (gb682 ≠ s_) ∧ (s_ ≠ gb682) ∧ (gb688 ≠ s_) ∧ (s_ ≠ gb688) ∧ (Below w.heap.size w w')) ?_ ?_
     rotate_left
     ·intro hCont
      refine tw_ 7 16 (some 129) (some 17) (bl_ 19 2047) (bl_ 19 67455) HT_ (fun K hK => ?_) fun K hK => ?_
      ·refine goesB_ Try.func30 #[.int .u64 (IntKind.u64.wrap (t668)), .int .u64 (IntKind.u64.wrap (a0_2))] ?_
       with_reducible refine (wide_Mul.calls (IntKind.u64.wrap (t668)) (IntKind.u64.wrap (a0_2)) t689 t690 _ A38.out).mono ?_
       rintro e w174 ⟨rfl, hb⟩
       refine ⟨_, rfl, ?_⟩
       replace BK646 := bb_ BK646 hb
       replace BK656 := bb_ BK656 hb
       replace BK664 := bb_ BK664 hb
       replace BK672 := bb_ BK672 hb
       replace BK682 := bb_ BK682 hb
       replace BK688 := bb_ BK688 hb
       replace HB := bs_ w hb
       clear hb
       refine hK.out _ _ ⟨(blk_cell BK672.out 0).trans rfl, (blk_cell BK672.out 1).trans rfl, (blk_cell BK672.out 2).trans rfl, (blk_cell BK672.out 3).trans rfl, (blk_cell BK672.out 4).trans rfl, (blk_cell BK672.out 5).trans rfl, (blk_cell BK646.out 0).trans rfl, (blk_cell BK646.out 1).trans rfl, (blk_cell BK646.out 2).trans rfl, (blk_cell BK646.out 3).trans rfl, (blk_cell BK646.out 4).trans rfl, (blk_cell BK646.out 5).trans rfl⟩ (fun hHeld => ?_)
       clear hK K
       refine nm_ (some 129) ?_
       refine tw_ 11 16 (some 133) (some 17) (bl_ 19 4095) (bl_ 19 67583) HT_ (fun K hK => ?_) fun K hK => ?_
       ·refine goesB_ Try.func31 #[.int .u64 (IntKind.u64.wrap (t669))] ?_
        with_reducible refine (wide_Of.calls (IntKind.u64.wrap (t669)) t691 t692 _ A39.out).mono ?_
        rintro e w175 ⟨rfl, hb⟩
        refine ⟨_, rfl, ?_⟩
        replace BK646 := bb_ BK646 hb
        replace BK656 := bb_ BK656 hb
        replace BK664 := bb_ BK664 hb
        replace BK672 := bb_ BK672 hb
        replace BK682 := bb_ BK682 hb
        replace BK688 := bb_ BK688 hb
        replace HB := bs_ w hb
        clear hb
        refine hK.out _ _ ⟨(blk_cell BK672.out 0).trans rfl, (blk_cell BK672.out 1).trans rfl, (blk_cell BK672.out 2).trans rfl, (blk_cell BK672.out 3).trans rfl, (blk_cell BK672.out 4).trans rfl, (blk_cell BK672.out 5).trans rfl, (blk_cell BK646.out 0).trans rfl, (blk_cell BK646.out 1).trans rfl, (blk_cell BK646.out 2).trans rfl, (blk_cell BK646.out 3).trans rfl, (blk_cell BK646.out 4).trans rfl, (blk_cell BK646.out 5).trans rfl⟩ (fun hHeld => ?_)
        clear hK K
        refine nm_ (some 133) ?_
        refine tw_ 12 16 (some 134) (some 17) (bl_ 19 8191) (bl_ 19 69631) HT_ (fun K hK => ?_) fun K hK => ?_
        ·refine goesB_ Try.func29 #[.agg #[.int .u64 t689, .int .u64 t690], .agg #[.int .u64 t691, .int .u64 t692]] ?_
         with_reducible refine (wide_Add.calls t689 t690 t691 t692 t693 t694 t695 _ A40.out).mono ?_
         rintro e w176 ⟨rfl, hb⟩
         refine ⟨_, rfl, ?_⟩
         replace BK646 := bb_ BK646 hb
         replace BK656 := bb_ BK656 hb
         replace BK664 := bb_ BK664 hb
         replace BK672 := bb_ BK672 hb
         replace BK682 := bb_ BK682 hb
         replace BK688 := bb_ BK688 hb
         replace HB := bs_ w hb
         clear hb
         refine hK.out _ _ ⟨(blk_cell BK672.out 0).trans rfl, (blk_cell BK672.out 1).trans rfl, (blk_cell BK672.out 2).trans rfl, (blk_cell BK672.out 3).trans rfl, (blk_cell BK672.out 4).trans rfl, (blk_cell BK672.out 5).trans rfl, (blk_cell BK646.out 0).trans rfl, (blk_cell BK646.out 1).trans rfl, (blk_cell BK646.out 2).trans rfl, (blk_cell BK646.out 3).trans rfl, (blk_cell BK646.out 4).trans rfl, (blk_cell BK646.out 5).trans rfl⟩ (fun hHeld => ?_)
         clear hK K
         refine nm_ (some 134) ?_
         refine pa_ 13 (some 121) (bl_ 19 16383) HT_ ?_
         refine pa_ 14 (some 135) (bl_ 19 32767) HT_ ?_
         refine pa_ 15 (some 136) (bl_ 19 65535) HT_ ?_
         refine oa_ 16 (some 17) (bl_ 19 131071) HT_ fun K hK => ?_
         refine bs2_ #[.int .u64 0, .int .u64 0] 60 ?_
         intro gb696 hg w177 BK696 hb
         have GW696 := bz_ w hg
         have GE696 := GW696
         have NB646_696 := bn_ BK646 hg
         have NB696_646 := bm_ BK646 hg
         have NB656_696 := bn_ BK656 hg
         have NB696_656 := bm_ BK656 hg
         have NB664_696 := bn_ BK664 hg
         have NB696_664 := bm_ BK664 hg
         have NB672_696 := bn_ BK672 hg
         have NB696_672 := bm_ BK672 hg
         have NB682_696 := bn_ BK682 hg
         have NB696_682 := bm_ BK682 hg
         have NB688_696 := bn_ BK688 hg
         have NB696_688 := bm_ BK688 hg
         replace BK646 := bb_ BK646 hb
         replace BK656 := bb_ BK656 hb
         replace BK664 := bb_ BK664 hb
         replace BK672 := bb_ BK672 hb
         replace BK682 := bb_ BK682 hb
         replace BK688 := bb_ BK688 hb
         replace HB := bs_ w hb
         clear hb hg
         refine hK.out _ _ ⟨(blk_cell BK672.out 0).trans rfl, (blk_cell BK672.out 1).trans rfl, (blk_cell BK672.out 2).trans rfl, (blk_cell BK672.out 3).trans rfl, (blk_cell BK672.out 4).trans rfl, (blk_cell BK672.out 5).trans rfl, (blk_cell BK646.out 0).trans rfl, (blk_cell BK646.out 1).trans rfl, (blk_cell BK646.out 2).trans rfl, (blk_cell BK646.out 3).trans rfl, (blk_cell BK646.out 4).trans rfl, (blk_cell BK646.out 5).trans rfl⟩ (fun hHeld => ?_)
         clear hK K
         refine nm_ (some 17) ?_
         exact no_ (hCont (gb696) _ ⟨hHeld, (bq_ BK646), (bq_ BK656), (bq_ BK664), (bq_ BK672), (bq_ BK682), (bq_ BK688), (bq_ BK696), GW696.out, GE696.out, NB646_696.out, NB696_646.out, NB656_696.out, NB696_656.out, NB664_696.out, NB696_664.out, NB672_696.out, NB696_672.out, NB682_696.out, NB696_682.out, NB688_696.out, NB696_688.out, bh_⟩)
        ·refine bs2_ #[.int .u64 0, .int .u64 0] 60 ?_
         intro gb696 hg w176 BK696 hb
         have GW696 := bz_ w hg
         have GE696 := GW696
         have NB646_696 := bn_ BK646 hg
         have NB696_646 := bm_ BK646 hg
         have NB656_696 := bn_ BK656 hg
         have NB696_656 := bm_ BK656 hg
         have NB664_696 := bn_ BK664 hg
         have NB696_664 := bm_ BK664 hg
         have NB672_696 := bn_ BK672 hg
         have NB696_672 := bm_ BK672 hg
         have NB682_696 := bn_ BK682 hg
         have NB696_682 := bm_ BK682 hg
         have NB688_696 := bn_ BK688 hg
         have NB696_688 := bm_ BK688 hg
         replace BK646 := bb_ BK646 hb
         replace BK656 := bb_ BK656 hb
         replace BK664 := bb_ BK664 hb
         replace BK672 := bb_ BK672 hb
         replace BK682 := bb_ BK682 hb
         replace BK688 := bb_ BK688 hb
         replace HB := bs_ w hb
         clear hb hg
         refine hK.out _ _ ⟨(blk_cell BK672.out 0).trans rfl, (blk_cell BK672.out 1).trans rfl, (blk_cell BK672.out 2).trans rfl, (blk_cell BK672.out 3).trans rfl, (blk_cell BK672.out 4).trans rfl, (blk_cell BK672.out 5).trans rfl, (blk_cell BK646.out 0).trans rfl, (blk_cell BK646.out 1).trans rfl, (blk_cell BK646.out 2).trans rfl, (blk_cell BK646.out 3).trans rfl, (blk_cell BK646.out 4).trans rfl, (blk_cell BK646.out 5).trans rfl⟩ (fun hHeld => ?_)
         clear hK K
         refine nm_ (some 17) ?_
         refine oa_ 12 (some 134) (bl_ 19 73727) HT_ fun K hK => ?_
         refine goesB_ Try.func29 #[.agg #[.int .u64 t689, .int .u64 t690], .agg #[.int .u64 t691, .int .u64 t692]] ?_
         with_reducible refine (wide_Add.calls t689 t690 t691 t692 t693 t694 t695 _ A40.out).mono ?_
         rintro e w177 ⟨rfl, hb⟩
         refine ⟨_, rfl, ?_⟩
         replace BK646 := bb_ BK646 hb
         replace BK656 := bb_ BK656 hb
         replace BK664 := bb_ BK664 hb
         replace BK672 := bb_ BK672 hb
         replace BK682 := bb_ BK682 hb
         replace BK688 := bb_ BK688 hb
         replace BK696 := bb_ BK696 hb
         replace HB := bs_ w hb
         clear hb
         refine hK.out _ _ ⟨(blk_cell BK672.out 0).trans rfl, (blk_cell BK672.out 1).trans rfl, (blk_cell BK672.out 2).trans rfl, (blk_cell BK672.out 3).trans rfl, (blk_cell BK672.out 4).trans rfl, (blk_cell BK672.out 5).trans rfl, (blk_cell BK646.out 0).trans rfl, (blk_cell BK646.out 1).trans rfl, (blk_cell BK646.out 2).trans rfl, (blk_cell BK646.out 3).trans rfl, (blk_cell BK646.out 4).trans rfl, (blk_cell BK646.out 5).trans rfl⟩ (fun hHeld => ?_)
         clear hK K
         refine nm_ (some 134) ?_
         refine pa_ 13 (some 121) (bl_ 19 81919) HT_ ?_
         refine pa_ 14 (some 135) (bl_ 19 98303) HT_ ?_
         refine pa_ 15 (some 136) (bl_ 19 131071) HT_ ?_
         exact no_ (hCont (gb696) _ ⟨hHeld, (bq_ BK646), (bq_ BK656), (bq_ BK664), (bq_ BK672), (bq_ BK682), (bq_ BK688), (bq_ BK696), GW696.out, GE696.out, NB646_696.out, NB696_646.out, NB656_696.out, NB696_656.out, NB664_696.out, NB696_664.out, NB672_696.out, NB696_672.out, NB682_696.out, NB696_682.out, NB688_696.out, NB696_688.out, bh_⟩)
       ·refine bs2_ #[.int .u64 0, .int .u64 0] 60 ?_
        intro gb696 hg w175 BK696 hb
        have GW696 := bz_ w hg
        have GE696 := GW696
        have NB646_696 := bn_ BK646 hg
        have NB696_646 := bm_ BK646 hg
        have NB656_696 := bn_ BK656 hg
        have NB696_656 := bm_ BK656 hg
        have NB664_696 := bn_ BK664 hg
        have NB696_664 := bm_ BK664 hg
        have NB672_696 := bn_ BK672 hg
        have NB696_672 := bm_ BK672 hg
        have NB682_696 := bn_ BK682 hg
        have NB696_682 := bm_ BK682 hg
        have NB688_696 := bn_ BK688 hg
        have NB696_688 := bm_ BK688 hg
        replace BK646 := bb_ BK646 hb
        replace BK656 := bb_ BK656 hb
        replace BK664 := bb_ BK664 hb
        replace BK672 := bb_ BK672 hb
        replace BK682 := bb_ BK682 hb
        replace BK688 := bb_ BK688 hb
        replace HB := bs_ w hb
        clear hb hg
        refine hK.out _ _ ⟨(blk_cell BK672.out 0).trans rfl, (blk_cell BK672.out 1).trans rfl, (blk_cell BK672.out 2).trans rfl, (blk_cell BK672.out 3).trans rfl, (blk_cell BK672.out 4).trans rfl, (blk_cell BK672.out 5).trans rfl, (blk_cell BK646.out 0).trans rfl, (blk_cell BK646.out 1).trans rfl, (blk_cell BK646.out 2).trans rfl, (blk_cell BK646.out 3).trans rfl, (blk_cell BK646.out 4).trans rfl, (blk_cell BK646.out 5).trans rfl⟩ (fun hHeld => ?_)
        clear hK K
        refine nm_ (some 17) ?_
        refine oa_ 11 (some 133) (bl_ 19 69631) HT_ fun K hK => ?_
        refine goesB_ Try.func31 #[.int .u64 (IntKind.u64.wrap (t669))] ?_
        with_reducible refine (wide_Of.calls (IntKind.u64.wrap (t669)) t691 t692 _ A39.out).mono ?_
        rintro e w176 ⟨rfl, hb⟩
        refine ⟨_, rfl, ?_⟩
        replace BK646 := bb_ BK646 hb
        replace BK656 := bb_ BK656 hb
        replace BK664 := bb_ BK664 hb
        replace BK672 := bb_ BK672 hb
        replace BK682 := bb_ BK682 hb
        replace BK688 := bb_ BK688 hb
        replace BK696 := bb_ BK696 hb
        replace HB := bs_ w hb
        clear hb
        refine hK.out _ _ ⟨(blk_cell BK672.out 0).trans rfl, (blk_cell BK672.out 1).trans rfl, (blk_cell BK672.out 2).trans rfl, (blk_cell BK672.out 3).trans rfl, (blk_cell BK672.out 4).trans rfl, (blk_cell BK672.out 5).trans rfl, (blk_cell BK646.out 0).trans rfl, (blk_cell BK646.out 1).trans rfl, (blk_cell BK646.out 2).trans rfl, (blk_cell BK646.out 3).trans rfl, (blk_cell BK646.out 4).trans rfl, (blk_cell BK646.out 5).trans rfl⟩ (fun hHeld => ?_)
        clear hK K
        refine nm_ (some 133) ?_
        refine oa_ 12 (some 134) (bl_ 19 73727) HT_ fun K hK => ?_
        refine goesB_ Try.func29 #[.agg #[.int .u64 t689, .int .u64 t690], .agg #[.int .u64 t691, .int .u64 t692]] ?_
        with_reducible refine (wide_Add.calls t689 t690 t691 t692 t693 t694 t695 _ A40.out).mono ?_
        rintro e w177 ⟨rfl, hb⟩
        refine ⟨_, rfl, ?_⟩
        replace BK646 := bb_ BK646 hb
        replace BK656 := bb_ BK656 hb
        replace BK664 := bb_ BK664 hb
        replace BK672 := bb_ BK672 hb
        replace BK682 := bb_ BK682 hb
        replace BK688 := bb_ BK688 hb
        replace BK696 := bb_ BK696 hb
        replace HB := bs_ w hb
        clear hb
        refine hK.out _ _ ⟨(blk_cell BK672.out 0).trans rfl, (blk_cell BK672.out 1).trans rfl, (blk_cell BK672.out 2).trans rfl, (blk_cell BK672.out 3).trans rfl, (blk_cell BK672.out 4).trans rfl, (blk_cell BK672.out 5).trans rfl, (blk_cell BK646.out 0).trans rfl, (blk_cell BK646.out 1).trans rfl, (blk_cell BK646.out 2).trans rfl, (blk_cell BK646.out 3).trans rfl, (blk_cell BK646.out 4).trans rfl, (blk_cell BK646.out 5).trans rfl⟩ (fun hHeld => ?_)
        clear hK K
        refine nm_ (some 134) ?_
        refine pa_ 13 (some 121) (bl_ 19 81919) HT_ ?_
        refine pa_ 14 (some 135) (bl_ 19 98303) HT_ ?_
        refine pa_ 15 (some 136) (bl_ 19 131071) HT_ ?_
        exact no_ (hCont (gb696) _ ⟨hHeld, (bq_ BK646), (bq_ BK656), (bq_ BK664), (bq_ BK672), (bq_ BK682), (bq_ BK688), (bq_ BK696), GW696.out, GE696.out, NB646_696.out, NB696_646.out, NB656_696.out, NB696_656.out, NB664_696.out, NB696_664.out, NB672_696.out, NB696_672.out, NB682_696.out, NB696_682.out, NB688_696.out, NB696_688.out, bh_⟩)
      ·refine bs2_ #[.int .u64 0, .int .u64 0] 60 ?_
       intro gb696 hg w174 BK696 hb
       have GW696 := bz_ w hg
       have GE696 := GW696
       have NB646_696 := bn_ BK646 hg
       have NB696_646 := bm_ BK646 hg
       have NB656_696 := bn_ BK656 hg
       have NB696_656 := bm_ BK656 hg
       have NB664_696 := bn_ BK664 hg
       have NB696_664 := bm_ BK664 hg
       have NB672_696 := bn_ BK672 hg
       have NB696_672 := bm_ BK672 hg
       have NB682_696 := bn_ BK682 hg
       have NB696_682 := bm_ BK682 hg
       have NB688_696 := bn_ BK688 hg
       have NB696_688 := bm_ BK688 hg
       replace BK646 := bb_ BK646 hb
       replace BK656 := bb_ BK656 hb
       replace BK664 := bb_ BK664 hb
       replace BK672 := bb_ BK672 hb
       replace BK682 := bb_ BK682 hb
       replace BK688 := bb_ BK688 hb
       replace HB := bs_ w hb
       clear hb hg
       refine hK.out _ _ ⟨(blk_cell BK672.out 0).trans rfl, (blk_cell BK672.out 1).trans rfl, (blk_cell BK672.out 2).trans rfl, (blk_cell BK672.out 3).trans rfl, (blk_cell BK672.out 4).trans rfl, (blk_cell BK672.out 5).trans rfl, (blk_cell BK646.out 0).trans rfl, (blk_cell BK646.out 1).trans rfl, (blk_cell BK646.out 2).trans rfl, (blk_cell BK646.out 3).trans rfl, (blk_cell BK646.out 4).trans rfl, (blk_cell BK646.out 5).trans rfl⟩ (fun hHeld => ?_)
       clear hK K
       refine nm_ (some 17) ?_
       refine oa_ 7 (some 129) (bl_ 19 67583) HT_ fun K hK => ?_
       refine goesB_ Try.func30 #[.int .u64 (IntKind.u64.wrap (t668)), .int .u64 (IntKind.u64.wrap (a0_2))] ?_
       with_reducible refine (wide_Mul.calls (IntKind.u64.wrap (t668)) (IntKind.u64.wrap (a0_2)) t689 t690 _ A38.out).mono ?_
       rintro e w175 ⟨rfl, hb⟩
       refine ⟨_, rfl, ?_⟩
       replace BK646 := bb_ BK646 hb
       replace BK656 := bb_ BK656 hb
       replace BK664 := bb_ BK664 hb
       replace BK672 := bb_ BK672 hb
       replace BK682 := bb_ BK682 hb
       replace BK688 := bb_ BK688 hb
       replace BK696 := bb_ BK696 hb
       replace HB := bs_ w hb
       clear hb
       refine hK.out _ _ ⟨(blk_cell BK672.out 0).trans rfl, (blk_cell BK672.out 1).trans rfl, (blk_cell BK672.out 2).trans rfl, (blk_cell BK672.out 3).trans rfl, (blk_cell BK672.out 4).trans rfl, (blk_cell BK672.out 5).trans rfl, (blk_cell BK646.out 0).trans rfl, (blk_cell BK646.out 1).trans rfl, (blk_cell BK646.out 2).trans rfl, (blk_cell BK646.out 3).trans rfl, (blk_cell BK646.out 4).trans rfl, (blk_cell BK646.out 5).trans rfl⟩ (fun hHeld => ?_)
       clear hK K
       refine nm_ (some 129) ?_
       refine oa_ 11 (some 133) (bl_ 19 69631) HT_ fun K hK => ?_
       refine goesB_ Try.func31 #[.int .u64 (IntKind.u64.wrap (t669))] ?_
       with_reducible refine (wide_Of.calls (IntKind.u64.wrap (t669)) t691 t692 _ A39.out).mono ?_
       rintro e w176 ⟨rfl, hb⟩
       refine ⟨_, rfl, ?_⟩
       replace BK646 := bb_ BK646 hb
       replace BK656 := bb_ BK656 hb
       replace BK664 := bb_ BK664 hb
       replace BK672 := bb_ BK672 hb
       replace BK682 := bb_ BK682 hb
       replace BK688 := bb_ BK688 hb
       replace BK696 := bb_ BK696 hb
       replace HB := bs_ w hb
       clear hb
       refine hK.out _ _ ⟨(blk_cell BK672.out 0).trans rfl, (blk_cell BK672.out 1).trans rfl, (blk_cell BK672.out 2).trans rfl, (blk_cell BK672.out 3).trans rfl, (blk_cell BK672.out 4).trans rfl, (blk_cell BK672.out 5).trans rfl, (blk_cell BK646.out 0).trans rfl, (blk_cell BK646.out 1).trans rfl, (blk_cell BK646.out 2).trans rfl, (blk_cell BK646.out 3).trans rfl, (blk_cell BK646.out 4).trans rfl, (blk_cell BK646.out 5).trans rfl⟩ (fun hHeld => ?_)
       clear hK K
       refine nm_ (some 133) ?_
       refine oa_ 12 (some 134) (bl_ 19 73727) HT_ fun K hK => ?_
       refine goesB_ Try.func29 #[.agg #[.int .u64 t689, .int .u64 t690], .agg #[.int .u64 t691, .int .u64 t692]] ?_
       with_reducible refine (wide_Add.calls t689 t690 t691 t692 t693 t694 t695 _ A40.out).mono ?_
       rintro e w177 ⟨rfl, hb⟩
       refine ⟨_, rfl, ?_⟩
       replace BK646 := bb_ BK646 hb
       replace BK656 := bb_ BK656 hb
       replace BK664 := bb_ BK664 hb
       replace BK672 := bb_ BK672 hb
       replace BK682 := bb_ BK682 hb
       replace BK688 := bb_ BK688 hb
       replace BK696 := bb_ BK696 hb
       replace HB := bs_ w hb
       clear hb
       refine hK.out _ _ ⟨(blk_cell BK672.out 0).trans rfl, (blk_cell BK672.out 1).trans rfl, (blk_cell BK672.out 2).trans rfl, (blk_cell BK672.out 3).trans rfl, (blk_cell BK672.out 4).trans rfl, (blk_cell BK672.out 5).trans rfl, (blk_cell BK646.out 0).trans rfl, (blk_cell BK646.out 1).trans rfl, (blk_cell BK646.out 2).trans rfl, (blk_cell BK646.out 3).trans rfl, (blk_cell BK646.out 4).trans rfl, (blk_cell BK646.out 5).trans rfl⟩ (fun hHeld => ?_)
       clear hK K
       refine nm_ (some 134) ?_
       refine pa_ 13 (some 121) (bl_ 19 81919) HT_ ?_
       refine pa_ 14 (some 135) (bl_ 19 98303) HT_ ?_
       refine pa_ 15 (some 136) (bl_ 19 131071) HT_ ?_
       exact no_ (hCont (gb696) _ ⟨hHeld, (bq_ BK646), (bq_ BK656), (bq_ BK664), (bq_ BK672), (bq_ BK682), (bq_ BK688), (bq_ BK696), GW696.out, GE696.out, NB646_696.out, NB696_646.out, NB656_696.out, NB696_656.out, NB664_696.out, NB696_664.out, NB672_696.out, NB696_672.out, NB682_696.out, NB696_682.out, NB688_696.out, NB696_688.out, bh_⟩)
     rintro gb696 w178 ⟨hS_, h0_, h1_, h2_, h3_, h4_, h5_, h6_, h7_, h8_, h9_, h10_, h11_, h12_, h13_, h14_, h15_, h16_, h17_, h18_, h19_, h20_, h21_⟩
     have BK696 := Aside0.mk h6_
     have GW696 := Aside0.mk h7_
     have GE696 := Aside0.mk h8_
     have NB646_696 := Aside0.mk h9_
     have NB696_646 := Aside0.mk h10_
     have NB656_696 := Aside0.mk h11_
     have NB696_656 := Aside0.mk h12_
     have NB664_696 := Aside0.mk h13_
     have NB696_664 := Aside0.mk h14_
     have NB672_696 := Aside0.mk h15_
     have NB696_672 := Aside0.mk h16_
     have NB682_696 := Aside0.mk h17_
     have NB696_682 := Aside0.mk h18_
     have NB688_696 := Aside0.mk h19_
     have NB696_688 := Aside0.mk h20_
     replace BK646 := Aside0.mk h0_
     replace BK656 := Aside0.mk h1_
     replace BK664 := Aside0.mk h2_
     replace BK672 := Aside0.mk h3_
     replace BK682 := Aside0.mk h4_
     replace BK688 := Aside0.mk h5_
     replace HB := Aside0.mk h21_
     clear h0_ h1_ h2_ h3_ h4_ h5_ h6_ h7_ h8_ h9_ h10_ h11_ h12_ h13_ h14_ h15_ h16_ h17_ h18_ h19_ h20_ h21_
     have hHeld := hS_
     refine nq_ ?_
     refine oa_ 17 none (bl_ 19 262143) HT_ fun K hK => ?_
     have hs179 : w178.cell? ⟨gb696, 0, none⟩ = some (.int .u64 0) := (blk_cell BK696.out 0).trans rfl
     have hfs179 := blk_frozen BK696.out 0
     have hns179_0 := NB646_696.out
     have hns179_1 := NB656_696.out
     have hns179_2 := NB664_696.out
     have hns179_3 := NB672_696.out
     have hns179_4 := NB682_696.out
     have hns179_5 := NB688_696.out
     have hms179_0 := NB696_646.out
     have hms179_1 := NB696_656.out
     have hms179_2 := NB696_664.out
     have hms179_3 := NB696_672.out
     have hms179_4 := NB696_682.out
     have hms179_5 := NB696_688.out
     have hs180 : w178.cell? ⟨gb696, 1, none⟩ = some (.int .u64 0) := (blk_cell BK696.out 1).trans rfl
     have hfs180 := blk_frozen BK696.out 1
     have hns180_0 := NB646_696.out
     have hns180_1 := NB656_696.out
     have hns180_2 := NB664_696.out
     have hns180_3 := NB672_696.out
     have hns180_4 := NB682_696.out
     have hns180_5 := NB688_696.out
     have hms180_0 := NB696_646.out
     have hms180_1 := NB696_656.out
     have hms180_2 := NB696_664.out
     have hms180_3 := NB696_672.out
     have hms180_4 := NB696_682.out
     have hms180_5 := NB696_688.out
     refine sk_ ?_
     refine hK.out _ _ ⟨((cell_far (p := ⟨gb696, _, none⟩) NB672_696.out _).trans (((cell_far (p := ⟨gb696, _, none⟩) NB672_696.out _).trans (hHeld.1)))), ((cell_far (p := ⟨gb696, _, none⟩) NB672_696.out _).trans (((cell_far (p := ⟨gb696, _, none⟩) NB672_696.out _).trans (hHeld.2.1)))), ((cell_far (p := ⟨gb696, _, none⟩) NB672_696.out _).trans (((cell_far (p := ⟨gb696, _, none⟩) NB672_696.out _).trans (hHeld.2.2.1)))), ((cell_far (p := ⟨gb696, _, none⟩) NB672_696.out _).trans (((cell_far (p := ⟨gb696, _, none⟩) NB672_696.out _).trans (hHeld.2.2.2.1)))), ((cell_far (p := ⟨gb696, _, none⟩) NB672_696.out _).trans (((cell_far (p := ⟨gb696, _, none⟩) NB672_696.out _).trans (hHeld.2.2.2.2.1)))), ((cell_far (p := ⟨gb696, _, none⟩) NB672_696.out _).trans (((cell_far (p := ⟨gb696, _, none⟩) NB672_696.out _).trans (hHeld.2.2.2.2.2.1)))), ((cell_far (p := ⟨gb696, _, none⟩) NB646_696.out _).trans (((cell_far (p := ⟨gb696, _, none⟩) NB646_696.out _).trans (hHeld.2.2.2.2.2.2.1)))), ((cell_far (p := ⟨gb696, _, none⟩) NB646_696.out _).trans (((cell_far (p := ⟨gb696, _, none⟩) NB646_696.out _).trans (hHeld.2.2.2.2.2.2.2.1)))), ((cell_far (p := ⟨gb696, _, none⟩) NB646_696.out _).trans (((cell_far (p := ⟨gb696, _, none⟩) NB646_696.out _).trans (hHeld.2.2.2.2.2.2.2.2.1)))), ((cell_far (p := ⟨gb696, _, none⟩) NB646_696.out _).trans (((cell_far (p := ⟨gb696, _, none⟩) NB646_696.out _).trans (hHeld.2.2.2.2.2.2.2.2.2.1)))), ((cell_far (p := ⟨gb696, _, none⟩) NB646_696.out _).trans (((cell_far (p := ⟨gb696, _, none⟩) NB646_696.out _).trans (hHeld.2.2.2.2.2.2.2.2.2.2.1)))), ((cell_far (p := ⟨gb696, _, none⟩) NB646_696.out _).trans (((cell_far (p := ⟨gb696, _, none⟩) NB646_696.out _).trans (hHeld.2.2.2.2.2.2.2.2.2.2.2))))⟩ (fun hHeld => ?_)
     clear hK K
     refine pa_ 18 (some 18) (bl_ 19 524287) HT_ ?_
     refine done_ (done_of HT_.out (by kernel_rfl)) ?_
     replace hn646_682 := NB646_682.out
     replace hn682_646 := NB682_646.out
     replace hn646_688 := NB646_688.out
     replace hn688_646 := NB688_646.out
     replace hn646_696 := NB646_696.out
     replace hn696_646 := NB696_646.out
     replace hc646 := ce6_ BK646
     try go_wp2_with (first | ((with_reducible refine gate_callee (f := 30) rfl ?_); (try refine ug_ (by rfl) ?_); refine goesA_ (some 145) Try.func30 #[.int .u64 (IntKind.u64.wrap (a0_0)), .int .u64 (IntKind.u64.wrap (a0_2))] ?_; (with_reducible refine (wide_Mul.calls (IntKind.u64.wrap (a0_0)) (IntKind.u64.wrap (a0_2)) t697 t698 _ A41.out).mono ?_); rintro e w185 ⟨rfl, hb⟩; refine ⟨_, rfl, ?_⟩; replace BK646 := bf_ BK646 hb; replace BK656 := bf_ BK656 hb; replace BK664 := bf_ BK664 hb; replace BK672 := bf_ BK672 hb; replace BK682 := bf_ BK682 hb; replace BK688 := bf_ BK688 hb; replace BK696 := Aside0.mk (blk_below (g := gb696) (o := .cells #[.int .u64 t693, .int .u64 t694] 60 (0, 0)) (bp2_ (bq_ BK696)) hb); replace HB := bs_ w hb; clear hb) | ((with_reducible refine gate_dst (N := 19) rfl ?_); (try refine ug_ (by rfl) ?_); refine bx_ #[.int .u64 0, .int .u64 0] 60 ?_; intro gb699 hg w186 BK699 hb; have GW699 := bz_ w hg; have GE699 := GW699; have NB646_699 := bn_ BK646 hg; have NB699_646 := bm_ BK646 hg; have NB656_699 := bn_ BK656 hg; have NB699_656 := bm_ BK656 hg; have NB664_699 := bn_ BK664 hg; have NB699_664 := bm_ BK664 hg; have NB672_699 := bn_ BK672 hg; have NB699_672 := bm_ BK672 hg; have NB682_699 := bn_ BK682 hg; have NB699_682 := bm_ BK682 hg; have NB688_699 := bn_ BK688 hg; have NB699_688 := bm_ BK688 hg; have NB696_699 := bn_ BK696 hg; have NB699_696 := bm_ BK696 hg; replace BK646 := bb_ BK646 hb; replace BK656 := bb_ BK656 hb; replace BK664 := bb_ BK664 hb; replace BK672 := bb_ BK672 hb; replace BK682 := bb_ BK682 hb; replace BK688 := bb_ BK688 hb; replace BK696 := bb_ BK696 hb; replace HB := bs_ w hb; clear hb hg; replace hn699_646 := NB699_646.out; replace hn646_699 := NB646_699.out; replace hn699_656 := NB699_656.out; replace hn656_699 := NB656_699.out; replace hn699_664 := NB699_664.out; replace hn664_699 := NB664_699.out; replace hn699_672 := NB699_672.out; replace hn672_699 := NB672_699.out; replace hn699_682 := NB699_682.out; replace hn682_699 := NB682_699.out; replace hn699_688 := NB699_688.out; replace hn688_699 := NB688_699.out; replace hn699_696 := NB699_696.out; replace hn696_699 := NB696_699.out; replace hc699 := ce2_ BK699; replace hn688_656 := NB688_656.out; replace hn656_688 := NB656_688.out; replace hn688_664 := NB688_664.out; replace hn664_688 := NB664_688.out; replace hn688_672 := NB688_672.out; replace hn672_688 := NB672_688.out; replace hn688_682 := NB688_682.out; replace hn682_688 := NB682_688.out; replace hn688_696 := NB688_696.out; replace hn696_688 := NB696_688.out; replace hc688 := ce2_ BK688) | ((with_reducible refine gate_callee (f := 32) rfl ?_); (try refine ug_ (by rfl) ?_); refine goesA_ (some 158) Try.func32 #[.agg #[.int .u64 t685, .int .u64 t686], .agg #[.int .u64 t697, .int .u64 t698]] ?_; (with_reducible refine (wide_Cmp.calls kj3 t685 t686 t697 t698 t700 _ A45.out).mono ?_); rintro e w201 ⟨rfl, hb⟩; refine ⟨_, rfl, ?_⟩; replace BK646 := bf_ BK646 hb; replace BK656 := bf_ BK656 hb; replace BK664 := bf_ BK664 hb; replace BK672 := bf_ BK672 hb; replace BK682 := bf_ BK682 hb; replace BK688 := bf_ BK688 hb; replace BK696 := bf_ BK696 hb; replace BK699 := Aside0.mk (blk_below (g := gb699) (o := .cells #[.int .u64 t697, .int .u64 t698] 60 (0, 0)) (bp2_ (bq_ BK699)) hb); replace HB := bs_ w hb; clear hb; replace hn696_656 := NB696_656.out; replace hn656_696 := NB656_696.out; replace hn696_664 := NB696_664.out; replace hn664_696 := NB664_696.out; replace hn696_672 := NB696_672.out; replace hn672_696 := NB672_696.out; replace hn696_682 := NB696_682.out; replace hn682_696 := NB682_696.out; replace hc696 := ce2_ BK696; replace hc688 := ce2_ BK688) | (go_at_call 27; (with_reducible refine (spigotlaw03_alive.calls kj3  t702 _ A131.out).mono ?_); rintro e w208 ⟨rfl, hb⟩; replace BK646 := bb_ BK646 hb; replace BK656 := bb_ BK656 hb; replace BK664 := bb_ BK664 hb; replace BK672 := bb_ BK672 hb; replace BK682 := bb_ BK682 hb; replace BK688 := bb_ BK688 hb; replace BK696 := bb_ BK696 hb; replace BK699 := bb_ BK699 hb; replace HB := bs_ w hb; clear hb))
     go_ret
     exact fi_

end Go.Proofs.Ytmfkedeaifdfdaa.X
