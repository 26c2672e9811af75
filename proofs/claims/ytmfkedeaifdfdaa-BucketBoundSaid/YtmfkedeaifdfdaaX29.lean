-- written by xprint.py, a program of this session over the kit's print
import Derived.Test.YtmfkedeaifdfdaaX0
import Derived.Test.YtmfkedeaifdfdaaX4
import Derived.Test.YtmfkedeaifdfdaaX5
import Derived.Test.YtmfkedeaifdfdaaX8
import Derived.Test.YtmfkedeaifdfdaaX10
import Derived.Test.YtmfkedeaifdfdaaX16
import Derived.Test.YtmfkedeaifdfdaaX22
import Derived.Test.YtmfkedeaifdfdaaX28
namespace Go.Proofs.Ytmfkedeaifdfdaa.X
open Go.RowKit Go.Proofs.YtmfkedeaifdfdaaW.PrintWords Go.Proofs.YtmfkedeaifdfdaaW.PrintLast Go.Proofs.YtmfkedeaifdfdaaW.PrintMore
attribute [local go_sem] max2_int min2_int max_two min_two max_three min_three max_four min_four   -- for this text's walks alone
set_option linter.unusedVariables false
set_option linter.unusedSimpArgs false

/-! ### spigotlaw03_BucketBound: function 9 -/
mutual
def spigotlaw03_BucketBound.j0 : Nat → Int → List Int → List Int → Bool → Int → Int → Int → Option (Bool)
  | 0, _, _, _, _, _, _, _ => none
  | k + 1, x1, x2, x3, x36, x704000, x704001, x704002 => if x36 = true then ((spigotlaw03_alive.f k).bind fun t705 => (some t705)) else ((bucket_Full.f x704000 x704001 x704002 x1).bind fun bt706 => (if bt706.2.2.2.2.2.2 = 0 then (spigotlaw03_BucketBound.l0 k x1 x2 x3 0 0 x704000 x704001 x704002 bt706.1 bt706.2.1 bt706.2.2.1 bt706.2.2.2.1 bt706.2.2.2.2.1 bt706.2.2.2.2.2.1) else (none)))
def spigotlaw03_BucketBound.l0 : Nat → Int → List Int → List Int → Int → Int → Int → Int → Int → Int → Int → Int → Int → Int → Int → Option (Bool)
  | 0, _, _, _, _, _, _, _, _, _, _, _, _, _, _ => none
  | k + 1, x1, x2, x3, x11, x12, x704000, x704001, x704002, x714000, x714001, x714002, x714003, x714004, x714005 => if x12 < (x2.length : Int) then (if 0 ≤ x12 then (if (rd x2 x12) > (IntKind.u64.wrap (18446744073709551615 - x714005)) then ((spigotlaw03_alive.f k).bind fun t715 => (some t715)) else ((bucket_Refill.f k x714000 x714001 x714002 x714003 x714004 x714005 (IntKind.u64.wrap (x714005 + (rd x2 x12)))).bind fun bt717 => (if bt717.2.2.2.2.2.2 = 0 then (if x12 < (x3.length : Int) then (spigotlaw03_BucketBound.j2 k x1 x2 x3 x11 x12 bt717.2.2.2.2.2.2 (decide ((rd x3 x12) < 0)) x704000 x704001 x704002 bt717.1 bt717.2.1 bt717.2.2.1 bt717.2.2.2.1 bt717.2.2.2.2.1 bt717.2.2.2.2.2.1) else (none)) else (spigotlaw03_BucketBound.j2 k x1 x2 x3 x11 x12 bt717.2.2.2.2.2.2 true x704000 x704001 x704002 bt717.1 bt717.2.1 bt717.2.2.1 bt717.2.2.2.1 bt717.2.2.2.2.1 bt717.2.2.2.2.2.1)))) else (none)) else ((wide_Mul.f (IntKind.u64.wrap (x714005 - x1)) (IntKind.u64.wrap (x704001))).bind fun bt738 => ((wide_Div.f k bt738.1 bt738.2 (IntKind.u64.wrap (x704002))).bind fun bt740 => ((wide_Of.f (IntKind.u64.wrap (x704000))).bind fun bt745 => ((wide_Add.f bt740.1 bt740.2.1 bt745.1 bt745.2).bind fun bt747 => (if bt740.2.2.2 = 0 then (if bt747.2.2 = 0 then ((wide_Of.f x11).bind fun bt751 => ((wide_Cmp.f k bt751.1 bt751.2 bt747.1 bt747.2.1).bind fun t753 => (if t753 ≤ 0 then ((spigotlaw03_alive.f k).bind fun t754 => (some t754)) else (none)))) else (none)) else (none))))))
def spigotlaw03_BucketBound.j2 : Nat → Int → List Int → List Int → Int → Int → Int → Bool → Int → Int → Int → Int → Int → Int → Int → Int → Int → Option (Bool)
  | 0, _, _, _, _, _, _, _, _, _, _, _, _, _, _, _, _ => none
  | k + 1, x1, x2, x3, x11, x12, x14, x81, x704000, x704001, x704002, x725000, x725001, x725002, x725003, x725004, x725005 => if x81 = true then (if x14 = 0 then ((spigotlaw03_alive.f k).bind fun t726 => (some t726)) else (none)) else (if 0 ≤ x12 then (if x12 < (x3.length : Int) then ((bucket_Charge.f x725000 x725001 x725002 x725003 x725004 x725005 (rd x3 x12)).bind fun bt728 => (if bt728.2.2.2.2.2.2 = 0 then (spigotlaw03_BucketBound.l0 k x1 x2 x3 (IntKind.u64.wrap (x11 + (IntKind.u64.wrap (rd x3 x12)))) (wrap64 (x12 + 1)) x704000 x704001 x704002 bt728.1 bt728.2.1 bt728.2.2.1 bt728.2.2.2.1 bt728.2.2.2.2.1 bt728.2.2.2.2.2.1) else (if bt728.2.2.2.2.2.2 = 20 then (if x725003 ≥ (rd x3 x12) then (none) else (spigotlaw03_BucketBound.l0 k x1 x2 x3 x11 (wrap64 (x12 + 1)) x704000 x704001 x704002 x725000 x725001 x725002 x725003 x725004 x725005)) else (none)))) else (none)) else (none))
end
def spigotlaw03_BucketBound.f (k : Nat) (a0_0 : Int) (a0_1 : Int) (a0_2 : Int) (a1 : Int) (l2 : List Int) (l3 : List Int) : Option (Bool) := (spigotref03_CheckLimit.f a0_0 a0_1 a0_2).bind fun t704 => (if t704 = 0 then (if (l2.length : Int) > 30 then (spigotlaw03_BucketBound.j0 k a1 l2 l3 true a0_0 a0_1 a0_2) else (spigotlaw03_BucketBound.j0 k a1 l2 l3 (decide ((l3.length : Int) < (l2.length : Int))) a0_0 a0_1 a0_2)) else (spigotlaw03_BucketBound.j0 k a1 l2 l3 true a0_0 a0_1 a0_2))
theorem spigotlaw03_BucketBound.mono_l : ∀ k, (∀ y0 y1 y2 y3 y4 y5 y6, LeO (spigotlaw03_BucketBound.j0 k y0 y1 y2 y3 y4 y5 y6) (spigotlaw03_BucketBound.j0 (k + 1) y0 y1 y2 y3 y4 y5 y6)) ∧ (∀ y0 y1 y2 y3 y4 y5 y6 y7 y8 y9 y10 y11 y12 y13, LeO (spigotlaw03_BucketBound.l0 k y0 y1 y2 y3 y4 y5 y6 y7 y8 y9 y10 y11 y12 y13) (spigotlaw03_BucketBound.l0 (k + 1) y0 y1 y2 y3 y4 y5 y6 y7 y8 y9 y10 y11 y12 y13)) ∧ (∀ y0 y1 y2 y3 y4 y5 y6 y7 y8 y9 y10 y11 y12 y13 y14 y15, LeO (spigotlaw03_BucketBound.j2 k y0 y1 y2 y3 y4 y5 y6 y7 y8 y9 y10 y11 y12 y13 y14 y15) (spigotlaw03_BucketBound.j2 (k + 1) y0 y1 y2 y3 y4 y5 y6 y7 y8 y9 y10 y11 y12 y13 y14 y15))
  | 0 => ⟨fun _ _ _ _ _ _ _ r h => by simp [spigotlaw03_BucketBound.j0] at h, fun _ _ _ _ _ _ _ _ _ _ _ _ _ _ r h => by simp [spigotlaw03_BucketBound.l0] at h, fun _ _ _ _ _ _ _ _ _ _ _ _ _ _ _ _ r h => by simp [spigotlaw03_BucketBound.j2] at h⟩
  | k + 1 => by
    obtain ⟨ih0, ih1, ih2⟩ := spigotlaw03_BucketBound.mono_l k
    refine ⟨?_, ?_, ?_⟩
    · intro y0 y1 y2 y3 y4 y5 y6
      unfold spigotlaw03_BucketBound.j0
      repeat' first
      | (with_reducible exact ih0 _ _ _ _ _ _ _)
      | (with_reducible exact ih1 _ _ _ _ _ _ _ _ _ _ _ _ _ _)
      | (with_reducible exact ih2 _ _ _ _ _ _ _ _ _ _ _ _ _ _ _ _)
      | (with_reducible exact bucket_Refill.mono _ _ _ _ _ _ _ _)
      | (with_reducible exact spigotlaw03_alive.mono _)
      | (with_reducible exact wide_Cmp.mono _ _ _ _ _)
      | (with_reducible exact wide_Div.mono _ _ _ _)
      | (with_reducible exact LeO.refl _)
      | (with_reducible exact LeO.none _)
      | (with_reducible refine LeO.ite ?_ ?_)
      | (with_reducible refine LeO.bind ?_ (fun _ => ?_))
      | exact ih0 _ _ _ _ _ _ _
      | exact ih1 _ _ _ _ _ _ _ _ _ _ _ _ _ _
      | exact ih2 _ _ _ _ _ _ _ _ _ _ _ _ _ _ _ _
      | exact bucket_Refill.mono _ _ _ _ _ _ _ _
      | exact spigotlaw03_alive.mono _
      | exact wide_Cmp.mono _ _ _ _ _
      | exact wide_Div.mono _ _ _ _
      | exact LeO.none _
      | refine LeO.ite ?_ ?_
      | refine LeO.bind ?_ (fun _ => ?_)
    · intro y0 y1 y2 y3 y4 y5 y6 y7 y8 y9 y10 y11 y12 y13
      unfold spigotlaw03_BucketBound.l0
      repeat' first
      | (with_reducible exact ih0 _ _ _ _ _ _ _)
      | (with_reducible exact ih1 _ _ _ _ _ _ _ _ _ _ _ _ _ _)
      | (with_reducible exact ih2 _ _ _ _ _ _ _ _ _ _ _ _ _ _ _ _)
      | (with_reducible exact bucket_Refill.mono _ _ _ _ _ _ _ _)
      | (with_reducible exact spigotlaw03_alive.mono _)
      | (with_reducible exact wide_Cmp.mono _ _ _ _ _)
      | (with_reducible exact wide_Div.mono _ _ _ _)
      | (with_reducible exact LeO.refl _)
      | (with_reducible exact LeO.none _)
      | (with_reducible refine LeO.ite ?_ ?_)
      | (with_reducible refine LeO.bind ?_ (fun _ => ?_))
      | exact ih0 _ _ _ _ _ _ _
      | exact ih1 _ _ _ _ _ _ _ _ _ _ _ _ _ _
      | exact ih2 _ _ _ _ _ _ _ _ _ _ _ _ _ _ _ _
      | exact bucket_Refill.mono _ _ _ _ _ _ _ _
      | exact spigotlaw03_alive.mono _
      | exact wide_Cmp.mono _ _ _ _ _
      | exact wide_Div.mono _ _ _ _
      | exact LeO.none _
      | refine LeO.ite ?_ ?_
      | refine LeO.bind ?_ (fun _ => ?_)
    · intro y0 y1 y2 y3 y4 y5 y6 y7 y8 y9 y10 y11 y12 y13 y14 y15
      unfold spigotlaw03_BucketBound.j2
      repeat' first
      | (with_reducible exact ih0 _ _ _ _ _ _ _)
      | (with_reducible exact ih1 _ _ _ _ _ _ _ _ _ _ _ _ _ _)
      | (with_reducible exact ih2 _ _ _ _ _ _ _ _ _ _ _ _ _ _ _ _)
      | (with_reducible exact bucket_Refill.mono _ _ _ _ _ _ _ _)
      | (with_reducible exact spigotlaw03_alive.mono _)
      | (with_reducible exact wide_Cmp.mono _ _ _ _ _)
      | (with_reducible exact wide_Div.mono _ _ _ _)
      | (with_reducible exact LeO.refl _)
      | (with_reducible exact LeO.none _)
      | (with_reducible refine LeO.ite ?_ ?_)
      | (with_reducible refine LeO.bind ?_ (fun _ => ?_))
      | exact ih0 _ _ _ _ _ _ _
      | exact ih1 _ _ _ _ _ _ _ _ _ _ _ _ _ _
      | exact ih2 _ _ _ _ _ _ _ _ _ _ _ _ _ _ _ _
      | exact bucket_Refill.mono _ _ _ _ _ _ _ _
      | exact spigotlaw03_alive.mono _
      | exact wide_Cmp.mono _ _ _ _ _
      | exact wide_Div.mono _ _ _ _
      | exact LeO.none _
      | refine LeO.ite ?_ ?_
      | refine LeO.bind ?_ (fun _ => ?_)
theorem spigotlaw03_BucketBound.mono : ∀ a0 a1 a2 a3 a4 a5 k, LeO (spigotlaw03_BucketBound.f k a0 a1 a2 a3 a4 a5) (spigotlaw03_BucketBound.f (k + 1) a0 a1 a2 a3 a4 a5) := by
  intro a0 a1 a2 a3 a4 a5 k
  obtain ⟨ih0, ih1, ih2⟩ := spigotlaw03_BucketBound.mono_l k
  unfold spigotlaw03_BucketBound.f
  repeat' first
      | (with_reducible exact ih0 _ _ _ _ _ _ _)
      | (with_reducible exact ih1 _ _ _ _ _ _ _ _ _ _ _ _ _ _)
      | (with_reducible exact ih2 _ _ _ _ _ _ _ _ _ _ _ _ _ _ _ _)
      | (with_reducible exact bucket_Refill.mono _ _ _ _ _ _ _ _)
      | (with_reducible exact spigotlaw03_alive.mono _)
      | (with_reducible exact wide_Cmp.mono _ _ _ _ _)
      | (with_reducible exact wide_Div.mono _ _ _ _)
      | (with_reducible exact LeO.refl _)
      | (with_reducible exact LeO.none _)
      | (with_reducible refine LeO.ite ?_ ?_)
      | (with_reducible refine LeO.bind ?_ (fun _ => ?_))
      | exact ih0 _ _ _ _ _ _ _
      | exact ih1 _ _ _ _ _ _ _ _ _ _ _ _ _ _
      | exact ih2 _ _ _ _ _ _ _ _ _ _ _ _ _ _ _ _
      | exact bucket_Refill.mono _ _ _ _ _ _ _ _
      | exact spigotlaw03_alive.mono _
      | exact wide_Cmp.mono _ _ _ _ _
      | exact wide_Div.mono _ _ _ _
      | exact LeO.none _
      | refine LeO.ite ?_ ?_
      | refine LeO.bind ?_ (fun _ => ?_)
def spigotlaw03_BucketBound.T10 : Bool × List (List Nat × List Nat) := (true, [([], []), ([], []), ([0, 1], [0, 1]), ([2], [2]), ([], []), ([4], [4]), ([5], [5]), ([3, 6], [3, 6])])
def spigotlaw03_BucketBound.B10 : List Nat := [0, 0, 3, 7, 0, 16, 48, 127]
theorem spigotlaw03_BucketBound.tab10 : rtab .any (opsOf Try.f9 10) = spigotlaw03_BucketBound.T10 := by kernel_rfl
theorem spigotlaw03_BucketBound.bits10 : waitsOk spigotlaw03_BucketBound.T10.2 spigotlaw03_BucketBound.B10 = true := by kernel_rfl
def spigotlaw03_BucketBound.T12 : Bool × List (List Nat × List Nat) := (true, [([], []), ([], []), ([1], [1]), ([], []), ([], []), ([3, 4], [3, 4]), ([5], [5]), ([2, 6], [2, 6]), ([0, 7], [0, 7]), ([8], [8]), ([9], [9]), ([9], [9]), ([], []), ([12, 10, 8, 0, 1, 2, 3, 4, 5, 6, 7, 8, 9, 10, 12], [10, 12]), ([11, 13, 0, 1, 2, 3, 4, 5, 6, 7, 8, 9, 10, 11, 12, 13], [11])])
def spigotlaw03_BucketBound.B12 : List Nat := [0, 0, 2, 0, 0, 24, 56, 126, 255, 511, 1023, 1023, 0, 6143, 16383]
theorem spigotlaw03_BucketBound.tab12 : rtab .any (opsOf Try.f9 12) = spigotlaw03_BucketBound.T12 := by kernel_rfl
theorem spigotlaw03_BucketBound.bits12 : waitsOk spigotlaw03_BucketBound.T12.2 spigotlaw03_BucketBound.B12 = true := by kernel_rfl
def spigotlaw03_BucketBound.T16 : Bool × List (List Nat × List Nat) := (true, [([], []), ([], []), ([], []), ([1, 2], [1, 2]), ([3], [3]), ([0, 4], [0, 4]), ([5], [5]), ([6], [6]), ([6], [6]), ([], []), ([9, 7, 5, 0, 1, 2, 3, 4, 5, 6, 7, 9], [7, 9]), ([8, 10, 0, 1, 2, 3, 4, 5, 6, 7, 8, 9, 10], [8])])
def spigotlaw03_BucketBound.B16 : List Nat := [0, 0, 0, 6, 14, 31, 63, 127, 127, 0, 767, 2047]
theorem spigotlaw03_BucketBound.tab16 : rtab .any (opsOf Try.f9 16) = spigotlaw03_BucketBound.T16 := by kernel_rfl
theorem spigotlaw03_BucketBound.bits16 : waitsOk spigotlaw03_BucketBound.T16.2 spigotlaw03_BucketBound.B16 = true := by kernel_rfl
def spigotlaw03_BucketBound.T20 : Bool × List (List Nat × List Nat) := (true, [([], []), ([0], [0]), ([1], [1]), ([2], [2]), ([3, 2], [2, 3]), ([2], [2]), ([2], [2]), ([5, 6, 2], [2, 5, 6]), ([7, 2], [2, 7]), ([4, 8, 2], [2, 4, 8]), ([2, 9], [2, 9])])
def spigotlaw03_BucketBound.B20 : List Nat := [0, 1, 3, 7, 15, 7, 7, 103, 231, 511, 1023]
theorem spigotlaw03_BucketBound.tab20 : rtab .any (opsOf Try.f9 20) = spigotlaw03_BucketBound.T20 := by kernel_rfl
theorem spigotlaw03_BucketBound.bits20 : waitsOk spigotlaw03_BucketBound.T20.2 spigotlaw03_BucketBound.B20 = true := by kernel_rfl
def spigotlaw03_BucketBound.T22 : Bool × List (List Nat × List Nat) := (true, [([], []), ([0], [0]), ([], []), ([1, 2], [1, 2]), ([], []), ([4], [4]), ([5], [5]), ([3, 6], [3, 6]), ([], []), ([8], [8]), ([9], [9]), ([7, 10, 7], [7, 10]), ([11], [11]), ([12], [12]), ([12], [12]), ([12], [12]), ([], []), ([16, 13, 11, 0, 1, 2, 3, 4, 5, 6, 7, 8, 9, 10, 11, 12, 13, 16], [13, 16]), ([14, 17, 0, 1, 2, 3, 4, 5, 6, 7, 8, 9, 10, 11, 12, 13, 14, 16, 17], [14]), ([15, 18, 0, 1, 2, 3, 4, 5, 6, 7, 8, 9, 10, 11, 12, 13, 14, 15, 16, 17, 18], [15])])
def spigotlaw03_BucketBound.B22 : List Nat := [0, 1, 0, 7, 0, 16, 48, 127, 0, 256, 768, 2047, 4095, 8191, 8191, 8191, 0, 81919, 229375, 524287]
theorem spigotlaw03_BucketBound.tab22 : rtab .any (opsOf Try.f9 22) = spigotlaw03_BucketBound.T22 := by kernel_rfl
theorem spigotlaw03_BucketBound.bits22 : waitsOk spigotlaw03_BucketBound.T22.2 spigotlaw03_BucketBound.B22 = true := by kernel_rfl
def spigotlaw03_BucketBound.T23 : Bool × List (List Nat × List Nat) := (true, [([], []), ([], []), ([1], [1]), ([2], [2]), ([3], [3]), ([0, 4, 4], [0, 4]), ([5], [5]), ([6], [6]), ([6], [6]), ([], []), ([9, 7, 5, 0, 1, 2, 3, 4, 5, 6, 7, 9], [7, 9]), ([8, 10, 0, 1, 2, 3, 4, 5, 6, 7, 8, 9, 10], [8])])
def spigotlaw03_BucketBound.B23 : List Nat := [0, 0, 2, 6, 14, 31, 63, 127, 127, 0, 767, 2047]
theorem spigotlaw03_BucketBound.tab23 : rtab .any (opsOf Try.f9 23) = spigotlaw03_BucketBound.T23 := by kernel_rfl
theorem spigotlaw03_BucketBound.bits23 : waitsOk spigotlaw03_BucketBound.T23.2 spigotlaw03_BucketBound.B23 = true := by kernel_rfl
def spigotlaw03_BucketBound.T24 : Bool × List (List Nat × List Nat) := (true, [([], []), ([0], [0]), ([1], [1]), ([2], [2]), ([3, 2], [2, 3]), ([2, 4], [2, 4]), ([5, 2], [5]), ([6], [6]), ([7, 6, 6], [6, 7]), ([6], [6]), ([8, 9, 8, 6], [6, 8, 9]), ([10, 6], [6, 10]), ([6, 11], [6, 11]), ([12, 10], [12]), ([13, 13], [13]), ([13, 14], [13, 14]), ([15, 14, 0, 1, 2, 3, 4, 5, 6, 7, 8, 9, 10, 11, 12, 13, 14, 15], [15])])
def spigotlaw03_BucketBound.B24 : List Nat := [0, 1, 3, 7, 15, 31, 63, 127, 255, 127, 1023, 2047, 4095, 8191, 16383, 32767, 65535]
theorem spigotlaw03_BucketBound.tab24 : rtab .any (opsOf Try.f9 24) = spigotlaw03_BucketBound.T24 := by kernel_rfl
theorem spigotlaw03_BucketBound.bits24 : waitsOk spigotlaw03_BucketBound.T24.2 spigotlaw03_BucketBound.B24 = true := by kernel_rfl
set_option maxHeartbeats 8000000 in
set_option maxRecDepth 100000 in
theorem spigotlaw03_BucketBound.calls (k : Nat) (a0_0 : Int) (a0_1 : Int) (a0_2 : Int) (a1 : Int) (A2 : Option Addr) (c2 : Nat) (l2 : List Int) (A3 : Option Addr) (c3 : Nat) (l3 : List Int) (r : Bool) (w : World) (hr2 : Kd.C (Kd.int .u64) w A2 l2.length l2) (hc2 : l2.length ≤ c2) (hr3 : Kd.C (Kd.int .i64) w A3 l3.length l3) (hc3 : l3.length ≤ c3) (h : spigotlaw03_BucketBound.f k a0_0 a0_1 a0_2 a1 l2 l3 = some r) :
  Calls Try.prog 9 #[.agg #[.int .i64 a0_0, .int .i64 a0_1, .int .i64 a0_2], .int .u64 a1, .slice A2 l2.length c2, .slice A3 l3.length c3] w fun e w' => e = .returned (.bool r) ∧ Below w.heap.size w w' := by
 have hu23 := Try.underlying23
 have hu26 := Try.underlying26
 have hu60 := Try.underlying60
 have HR2 := Aside0.mk hr2
 have HC2 := Aside0.mk hc2
 clear hr2 hc2
 have HR3 := Aside0.mk hr3
 have HC3 := Aside0.mk hc3
 clear hr3 hc3
 have HB := Aside0.mk (Below.refl w.heap.size w)
 have H : ((spigotref03_CheckLimit.f a0_0 a0_1 a0_2).bind fun t704 => (if t704 = 0 then (if (l2.length : Int) > 30 then (spigotlaw03_BucketBound.j0 k a1 l2 l3 true a0_0 a0_1 a0_2) else (spigotlaw03_BucketBound.j0 k a1 l2 l3 (decide ((l3.length : Int) < (l2.length : Int))) a0_0 a0_1 a0_2)) else (spigotlaw03_BucketBound.j0 k a1 l2 l3 true a0_0 a0_1 a0_2))) = some r := h
 clear h
 have HC5 := Aside0.mk H
 clear H
 go_enter Try.func9, Try.ntmps9
 go_upto_region 1 with (first | ((with_reducible refine gate_dst (N := 4) rfl ?_); refine box_event ?hg (N := 4) ?hd (cs := #[.int .i64 a0_0, .int .i64 a0_1, .int .i64 a0_2]) (t := 23) ?hr ?_; (case hd => rfl); (case hg => rfl); (case hr => first | (go_simp; done) | (go_simp; rfl)); intro gb703 hg w6 hbox hb; have BK703 := Aside0.mk (hbox); have GW703 := bz_ w hg; have GE703 := GW703; replace HB := bs_ w hb; clear hb hbox hg))
 (try simp only [Act.put, List.setIfInBounds_toArray, List.set_cons_zero, List.set_cons_succ])
 go_cut [36] (fun v36 wc => ∃ (kq : Nat) (x36_4 : Bool), v36 = .bool x36_4 ∧ Aside0 (spigotlaw03_BucketBound.j0 kq a1 l2 l3 x36_4 a0_0 a0_1 a0_2 = some r) ∧ Aside0 (kq ≤ k) ∧ Aside0 (wc.heap[gb703]? = some (.cells #[.int .i64 a0_0, .int .i64 a0_1, .int .i64 a0_2] 23 (0, 0))) ∧ Aside0 (Below w.heap.size w wc))
 case first =>
  have H := HC5.out
  clear HC5
  replace H := Option.bind_eq_some_iff.mp H
  obtain ⟨t704, A70, H⟩ := H
  try dsimp only at H
  have A7 := Aside0.mk A70
  clear A70
  by_cases c8 : t704 = 0
  ·rw [if_pos c8] at H
   have c8b0 : (t704 == 0) = true := beq_iff_eq.mpr c8
   have c8b1 : (t704 != 0) = false := bne_eq_false_iff_eq.mpr c8
   clear c8
   (first | rw [c8b0] | (simp only [i64_w, i32_w]; rw [c8b0]) | skip)
   by_cases c9 : (l2.length : Int) > 30
   ·rw [if_pos c9] at H
    have c9b0 : decide (30 < (l2.length : Int)) = true := decide_eq_true c9
    have c9b1 : decide (30 < l2.length) = true := decide_eq_true (by omega)
    clear c9
    have H' := Aside0.mk H
    clear H
    have hcz10_0 : w6.cell? ⟨gb703, 0, none⟩ = some (.int .i64 a0_0) := (blk_cell BK703.out 0).trans rfl
    have hcz10_1 : w6.cell? ⟨gb703, 1, none⟩ = some (.int .i64 a0_1) := (blk_cell BK703.out 1).trans rfl
    have hcz10_2 : w6.cell? ⟨gb703, 2, none⟩ = some (.int .i64 a0_2) := (blk_cell BK703.out 2).trans rfl
    have hfz10_0 := blk_frozen BK703.out 0
    have hfz10_1 := blk_frozen BK703.out 1
    have hfz10_2 := blk_frozen BK703.out 2
    go_wp2_with (first | ((with_reducible refine gate_callee (f := 15) rfl ?_); refine goesL_ (some 23) rfl rfl Try.func15 (by kernel_rfl) rfl #[.agg #[.int .i64 a0_0, .int .i64 a0_1, .int .i64 a0_2]] rfl (by (try simp only [List.map_toArray, List.map_cons, List.map_nil]); first | done | rfl | (simp only [List.length_drop, List.length_take]; rfl)) ?_; (with_reducible refine (spigotref03_CheckLimit.calls a0_0 a0_1 a0_2 t704 _ A7.out).mono ?_); rintro e w11 ⟨rfl, hb⟩; refine ⟨_, rfl, ?_⟩; replace BK703 := bb_ BK703 hb; replace HB := bs_ w hb; (try clear hb); (try clear hb2); (try clear hk); (try clear hi)))
    go_meet
    case rel => exact ⟨_, (true), (by first | rfl | (simp; done) | (simp [*]; done)), H', ⟨by first | omega | exact Nat.le_refl _⟩, ⟨bq_ BK703⟩, ⟨by repeat (first | (with_reducible first | exact HB.out | apply below_alloc | apply pw_below_drewN | apply below_drew1 | refine below_set ?_ GE703.out) | exact HB.out)⟩⟩
   ·rw [if_neg c9] at H
    have c9b0 : decide (30 < (l2.length : Int)) = false := decide_eq_false c9
    have c9b1 : decide (30 < l2.length) = false := decide_eq_false (by omega)
    clear c9
    have H' := Aside0.mk H
    clear H
    have hcz12_0 : w6.cell? ⟨gb703, 0, none⟩ = some (.int .i64 a0_0) := (blk_cell BK703.out 0).trans rfl
    have hcz12_1 : w6.cell? ⟨gb703, 1, none⟩ = some (.int .i64 a0_1) := (blk_cell BK703.out 1).trans rfl
    have hcz12_2 : w6.cell? ⟨gb703, 2, none⟩ = some (.int .i64 a0_2) := (blk_cell BK703.out 2).trans rfl
    have hfz12_0 := blk_frozen BK703.out 0
    have hfz12_1 := blk_frozen BK703.out 1
    have hfz12_2 := blk_frozen BK703.out 2
    go_wp2_with (first | ((with_reducible refine gate_callee (f := 15) rfl ?_); refine goesL_ (some 23) rfl rfl Try.func15 (by kernel_rfl) rfl #[.agg #[.int .i64 a0_0, .int .i64 a0_1, .int .i64 a0_2]] rfl (by (try simp only [List.map_toArray, List.map_cons, List.map_nil]); first | done | rfl | (simp only [List.length_drop, List.length_take]; rfl)) ?_; (with_reducible refine (spigotref03_CheckLimit.calls a0_0 a0_1 a0_2 t704 _ A7.out).mono ?_); rintro e w13 ⟨rfl, hb⟩; refine ⟨_, rfl, ?_⟩; replace BK703 := bb_ BK703 hb; replace HB := bs_ w hb; (try clear hb); (try clear hb2); (try clear hk); (try clear hi)))
    go_meet
    case rel => exact ⟨_, (decide ((l3.length : Int) < (l2.length : Int))), (by first | rfl | (simp; done) | (simp [*]; done)), H', ⟨by first | omega | exact Nat.le_refl _⟩, ⟨bq_ BK703⟩, ⟨by repeat (first | (with_reducible first | exact HB.out | apply below_alloc | apply pw_below_drewN | apply below_drew1 | refine below_set ?_ GE703.out) | exact HB.out)⟩⟩
  ·rw [if_neg c8] at H
   have c8b0 : (t704 == 0) = false := beq_eq_false_iff_ne.mpr c8
   have c8b1 : (t704 != 0) = true := bne_iff_ne.mpr c8
   (first | rw [c8b0] | (simp only [i64_w, i32_w]; rw [c8b0]) | skip)
   have H' := Aside0.mk H
   clear H
   have hcz14_0 : w6.cell? ⟨gb703, 0, none⟩ = some (.int .i64 a0_0) := (blk_cell BK703.out 0).trans rfl
   have hcz14_1 : w6.cell? ⟨gb703, 1, none⟩ = some (.int .i64 a0_1) := (blk_cell BK703.out 1).trans rfl
   have hcz14_2 : w6.cell? ⟨gb703, 2, none⟩ = some (.int .i64 a0_2) := (blk_cell BK703.out 2).trans rfl
   have hfz14_0 := blk_frozen BK703.out 0
   have hfz14_1 := blk_frozen BK703.out 1
   have hfz14_2 := blk_frozen BK703.out 2
   go_wp2_with (first | ((with_reducible refine gate_callee (f := 15) rfl ?_); refine goesL_ (some 23) rfl rfl Try.func15 (by kernel_rfl) rfl #[.agg #[.int .i64 a0_0, .int .i64 a0_1, .int .i64 a0_2]] rfl (by (try simp only [List.map_toArray, List.map_cons, List.map_nil]); first | done | rfl | (simp only [List.length_drop, List.length_take]; rfl)) ?_; (with_reducible refine (spigotref03_CheckLimit.calls a0_0 a0_1 a0_2 t704 _ A7.out).mono ?_); rintro e w15 ⟨rfl, hb⟩; refine ⟨_, rfl, ?_⟩; replace BK703 := bb_ BK703 hb; replace HB := bs_ w hb; (try clear hb); (try clear hb2); (try clear hk); (try clear hi)))
   go_meet
   case rel => exact ⟨_, (true), (by first | rfl | (simp; done) | (simp [*]; done)), H', ⟨by first | omega | exact Nat.le_refl _⟩, ⟨bq_ BK703⟩, ⟨by repeat (first | (with_reducible first | exact HB.out | apply below_alloc | apply pw_below_drewN | apply below_drew1 | refine below_set ?_ GE703.out) | exact HB.out)⟩⟩
 case rest =>
  clear HC5
  try clear c1
  try clear c2
  try clear p2
  try clear c3
  try clear c8
  try clear c8b0
  try clear c8b1
  try clear c9
  try clear c9b0
  try clear c9b1
  try clear c15
  try clear hcz10_0
  try clear hcz10_1
  try clear hcz10_2
  try clear hcz12_0
  try clear hcz12_1
  try clear hcz12_2
  try clear hcz14_0
  try clear hcz14_1
  try clear hcz14_2
  try clear hfz10_0
  try clear hfz10_1
  try clear hfz10_2
  try clear hfz12_0
  try clear hfz12_1
  try clear hfz12_2
  try clear hfz14_0
  try clear hfz14_1
  try clear hfz14_2
  obtain ⟨kq, x36_4, rfl, HA, HJ4, BK703, HB⟩ := hcut
  cases kq with
  | zero => exact absurd HA.out (by simp [spigotlaw03_BucketBound.j0])
  | succ kj4 =>
   have H := HA.out
   clear HA
   simp only [spigotlaw03_BucketBound.j0] at H
   by_cases c16 : x36_4 = true
   ·subst c16
    have H1 : ((spigotlaw03_alive.f kj4).bind fun t705 => (some t705)) = some r := by rw [if_pos rfl] at H; exact H
    clear H
    have H := H1
    clear H1
    replace H := Option.bind_eq_some_iff.mp H
    obtain ⟨t705, A170, H⟩ := H
    replace H : (some t705) = some r := H
    have A17 := Aside0.mk A170
    clear A170
    obtain rfl := Option.some.inj H
    go_wp2_with (first | ((with_reducible refine gate_callee (f := 27) rfl ?_); refine goesL_ (some 37) rfl rfl Try.func27 (by kernel_rfl) rfl #[] rfl (by (try simp only [List.map_toArray, List.map_cons, List.map_nil]); first | done | rfl | (simp only [List.length_drop, List.length_take]; rfl)) ?_; (with_reducible refine (spigotlaw03_alive.calls kj4  t705 _ A17.out).mono ?_); rintro e w18 ⟨rfl, hb⟩; refine ⟨_, rfl, ?_⟩; replace BK703 := bb_ BK703 hb; replace HB := bs_ w hb; (try clear hb); (try clear hb2); (try clear hk); (try clear hi)))
    go_ret
    exact ⟨by first | rfl | (simp [errW_none, errW_some] <;> rfl) | (simp [*, errW_none, errW_some] <;> rfl), by repeat (first | (with_reducible first | exact HB.out | apply below_alloc | apply pw_below_drewN | apply below_drew1 | refine below_set ?_ GE703.out) | exact HB.out)⟩
   ·replace c16 := Bool.eq_false_iff.mpr c16
    subst c16
    have H1 : ((bucket_Full.f a0_0 a0_1 a0_2 a1).bind fun bt706 => (if bt706.2.2.2.2.2.2 = 0 then (spigotlaw03_BucketBound.l0 kj4 a1 l2 l3 0 0 a0_0 a0_1 a0_2 bt706.1 bt706.2.1 bt706.2.2.1 bt706.2.2.2.1 bt706.2.2.2.2.1 bt706.2.2.2.2.2.1) else (none))) = some r := by rw [if_neg (show ¬ (false = true) by decide)] at H; exact H
    clear H
    have H := H1
    clear H1
    replace H := Option.bind_eq_some_iff.mp H
    obtain ⟨⟨t706, t707, t708, t709, t710, t711, t712⟩, A190, H⟩ := H
    replace H : (if t712 = 0 then (spigotlaw03_BucketBound.l0 kj4 a1 l2 l3 0 0 a0_0 a0_1 a0_2 t706 t707 t708 t709 t710 t711) else (none)) = some r := H
    have A19 := Aside0.mk A190
    clear A190
    by_cases c20 : t712 = 0
    rotate_left
    ·rw [if_neg c20] at H; exact absurd H (by simp)
    rw [if_pos c20] at H
    have c20b0 : (t712 == 0) = true := beq_iff_eq.mpr c20
    have c20b1 : (t712 != 0) = false := bne_eq_false_iff_eq.mpr c20
    clear c20
    have H' := Aside0.mk H
    clear H
    have hcz21_0 : wc.cell? ⟨gb703, 0, none⟩ = some (.int .i64 a0_0) := (blk_cell BK703.out 0).trans rfl
    have hcz21_1 : wc.cell? ⟨gb703, 1, none⟩ = some (.int .i64 a0_1) := (blk_cell BK703.out 1).trans rfl
    have hcz21_2 : wc.cell? ⟨gb703, 2, none⟩ = some (.int .i64 a0_2) := (blk_cell BK703.out 2).trans rfl
    have hfz21_0 := blk_frozen BK703.out 0
    have hfz21_1 := blk_frozen BK703.out 1
    have hfz21_2 := blk_frozen BK703.out 2
    go_wp2_with (first | ((with_reducible refine gate_callee (f := 10) rfl ?_); refine goesL_ (some 41) rfl rfl Try.func10 (by kernel_rfl) rfl #[.agg #[.int .i64 a0_0, .int .i64 a0_1, .int .i64 a0_2], .int .u64 a1] rfl (by (try simp only [List.map_toArray, List.map_cons, List.map_nil]); first | done | rfl | (simp only [List.length_drop, List.length_take]; rfl)) ?_; (with_reducible refine (bucket_Full.calls a0_0 a0_1 a0_2 a1 t706 t707 t708 t709 t710 t711 t712 _ A19.out).mono ?_); rintro e w22 ⟨rfl, hb⟩; refine ⟨_, rfl, ?_⟩; replace BK703 := bb_ BK703 hb; replace HB := bs_ w hb; (try clear hb); (try clear hb2); (try clear hk); (try clear hi)) | ((with_reducible refine gate_dst (N := 9) rfl ?_); refine box_event ?hg (N := 9) ?hd (cs := #[.int .i64 0, .int .i64 0, .int .i64 0, .int .i64 0, .int .i64 0, .int .u64 0]) (t := 26) ?hr ?_; (case hd => rfl); (case hg => rfl); (case hr => first | (go_simp; done) | (go_simp; rfl)); intro gb713 hg w23 hbox hb; have BK713 := Aside0.mk (hbox); have GW713 := bz_ w hg; have GE713 := GW713; have NB703_713 := bn_ BK703 hg; have NB713_703 := bm_ BK703 hg; replace BK703 := bb_ BK703 hb; replace HB := bs_ w hb; clear hb hbox hg; have hnb24 := NB713_703.out; have hnc24 := NB703_713.out; have hcz25_0 : w23.cell? ⟨gb713, 0, none⟩ = some (.int .i64 0) := (blk_cell BK713.out 0).trans rfl; have hcz25_1 : w23.cell? ⟨gb713, 1, none⟩ = some (.int .i64 0) := (blk_cell BK713.out 1).trans rfl; have hcz25_2 : w23.cell? ⟨gb713, 2, none⟩ = some (.int .i64 0) := (blk_cell BK713.out 2).trans rfl; have hcz25_3 : w23.cell? ⟨gb713, 3, none⟩ = some (.int .i64 0) := (blk_cell BK713.out 3).trans rfl; have hcz25_4 : w23.cell? ⟨gb713, 4, none⟩ = some (.int .i64 0) := (blk_cell BK713.out 4).trans rfl; have hcz25_5 : w23.cell? ⟨gb713, 5, none⟩ = some (.int .u64 0) := (blk_cell BK713.out 5).trans rfl; have hfz25_0 := blk_frozen BK713.out 0; have hfz25_1 := blk_frozen BK713.out 1; have hfz25_2 := blk_frozen BK713.out 2; have hfz25_3 := blk_frozen BK713.out 3; have hfz25_4 := blk_frozen BK713.out 4; have hfz25_5 := blk_frozen BK713.out 5))
    go_loopg [11, 12] kj4 (fun kq v11 v12 w' => ∃ (x11_2 : Int) (x12_2 : Int) (x714000_2 : Int) (x714001_2 : Int) (x714002_2 : Int) (x714003_2 : Int) (x714004_2 : Int) (x714005_2 : Int), v11 = .int .u64 x11_2 ∧ v12 = .int .i64 x12_2 ∧ Aside0 (spigotlaw03_BucketBound.l0 kq a1 l2 l3 x11_2 x12_2 a0_0 a0_1 a0_2 x714000_2 x714001_2 x714002_2 x714003_2 x714004_2 x714005_2 = some r) ∧ Aside0 (kq ≤ kj4) ∧ Aside0 (w'.heap[gb703]? = some (.cells #[.int .i64 a0_0, .int .i64 a0_1, .int .i64 a0_2] 23 (0, 0))) ∧ Aside0 (w'.heap[gb713]? = some (.cells #[.int .i64 x714000_2, .int .i64 x714001_2, .int .i64 x714002_2, .int .i64 x714003_2, .int .i64 x714004_2, .int .u64 x714005_2] 26 (0, 0))) ∧ Aside0 (Below w.heap.size w w'))
    case atStart => exact ⟨(0), (0), (t706), (t707), (t708), (t709), (t710), (t711), (by first | rfl | (simp; done) | (simp [*]; done)), (by first | rfl | (simp; done) | (simp [*]; done)), H', ⟨Nat.le_refl _⟩, ⟨(blk_far (blk_far (blk_far (blk_far (blk_far (blk_far (bq_ BK703) NB703_713.out _) NB703_713.out _) NB703_713.out _) NB703_713.out _) NB703_713.out _) NB703_713.out _)⟩, ⟨(blk_put (cs := #[.int .i64 t706, .int .i64 t707, .int .i64 t708, .int .i64 t709, .int .i64 t710, .int .u64 0]) (blk_put (cs := #[.int .i64 t706, .int .i64 t707, .int .i64 t708, .int .i64 t709, .int .i64 0, .int .u64 0]) (blk_put (cs := #[.int .i64 t706, .int .i64 t707, .int .i64 t708, .int .i64 0, .int .i64 0, .int .u64 0]) (blk_put (cs := #[.int .i64 t706, .int .i64 t707, .int .i64 0, .int .i64 0, .int .i64 0, .int .u64 0]) (blk_put (cs := #[.int .i64 t706, .int .i64 0, .int .i64 0, .int .i64 0, .int .i64 0, .int .u64 0]) (blk_put (cs := #[.int .i64 0, .int .i64 0, .int .i64 0, .int .i64 0, .int .i64 0, .int .u64 0]) (bq_ BK713) 0 _ rfl) 1 _ rfl) 2 _ rfl) 3 _ rfl) 4 _ rfl) 5 _ rfl)⟩, ⟨by repeat (first | (with_reducible first | exact HB.out | apply below_alloc | apply pw_below_drewN | apply below_drew1 | refine below_set ?_ GE703.out | refine below_set ?_ GE713.out) | exact HB.out)⟩⟩
    case round =>
     clear H'
     try clear c1
     try clear c2
     try clear p2
     try clear c3
     try clear c8
     try clear c8b0
     try clear c8b1
     try clear c9
     try clear c9b0
     try clear c9b1
     try clear c10
     try clear c15
     try clear c16
     try clear c20
     try clear c20b0
     try clear c20b1
     try clear c24
     try clear hcz10_0
     try clear hcz10_1
     try clear hcz10_2
     try clear hcz12_0
     try clear hcz12_1
     try clear hcz12_2
     try clear hcz14_0
     try clear hcz14_1
     try clear hcz14_2
     try clear hcz21_0
     try clear hcz21_1
     try clear hcz21_2
     try clear hcz25_0
     try clear hcz25_1
     try clear hcz25_2
     try clear hcz25_3
     try clear hcz25_4
     try clear hcz25_5
     try clear hfz10_0
     try clear hfz10_1
     try clear hfz10_2
     try clear hfz12_0
     try clear hfz12_1
     try clear hfz12_2
     try clear hfz14_0
     try clear hfz14_1
     try clear hfz14_2
     try clear hfz21_0
     try clear hfz21_1
     try clear hfz21_2
     try clear hfz25_0
     try clear hfz25_1
     try clear hfz25_2
     try clear hfz25_3
     try clear hfz25_4
     try clear hfz25_5
     try clear p2
     obtain ⟨x11_2, x12_2, x714000_2, x714001_2, x714002_2, x714003_2, x714004_2, x714005_2, rfl, rfl, HA, HK2, BK703, BK713, HB⟩ := hrel
     cases gk with
     | zero => exact absurd HA.out (by simp [spigotlaw03_BucketBound.l0])
     | succ k2 =>
      have H := HA.out
      clear HA
      simp only [spigotlaw03_BucketBound.l0] at H
      by_cases c26 : x12_2 < (l2.length : Int)
      ·rw [if_pos c26] at H
       have c26b0 : decide (x12_2 < (l2.length : Int)) = true := decide_eq_true c26
       clear c26
       by_cases c27 : 0 ≤ x12_2
       rotate_left
       ·rw [if_neg c27] at H; exact absurd H (by simp)
       rw [if_pos c27] at H
       have c27b0 : decide (0 ≤ x12_2) = true := decide_eq_true c27
       clear c27
       by_cases c28 : (rd l2 x12_2) > (IntKind.u64.wrap (18446744073709551615 - x714005_2))
       ·rw [if_pos c28] at H
        have c28b0 : decide ((IntKind.u64.wrap (18446744073709551615 - x714005_2)) < (rd l2 x12_2)) = true := decide_eq_true c28
        clear c28
        replace H := Option.bind_eq_some_iff.mp H
        obtain ⟨t715, A290, H⟩ := H
        replace H : (some t715) = some r := H
        have A29 := Aside0.mk A290
        clear A290
        obtain rfl := Option.some.inj H
        try go_wp2
        replace BK703 := Aside0.mk (blk_drew BK703.out)
        replace BK713 := Aside0.mk (blk_drew BK713.out)
        replace HB := Aside0.mk (below_drew1 HB.out)
        have p714 : 0 ≤ (x12_2 : Int) := of_decide_eq_true (by first | (with_reducible assumption) | assumption)
        have q714 : x12_2 < (l2.length : Int) := of_decide_eq_true (by first | (with_reducible assumption) | assumption)
        obtain ⟨ad714, e714, hx714_0⟩ := Kd.at_int HR2.out x12_2 p714 q714
        have hw714_0 := hx714_0
        cases e714
        replace hx714_0 := (HB.out.cell (World.block_lt_of_cell? w _ hx714_0)).trans hx714_0
        replace p714 := eq_true p714
        replace q714 := eq_true q714
        refine start_ (n := 8) (S := fun w' => w'.cell? ⟨gb713, 0, none⟩ = some (.int .i64 x714000_2) ∧ w'.cell? ⟨gb713, 1, none⟩ = some (.int .i64 x714001_2) ∧ w'.cell? ⟨gb713, 2, none⟩ = some (.int .i64 x714002_2) ∧ w'.cell? ⟨gb713, 3, none⟩ = some (.int .i64 x714003_2) ∧ w'.cell? ⟨gb713, 4, none⟩ = some (.int .i64 x714004_2) ∧ w'.cell? ⟨gb713, 5, none⟩ = some (.int .u64 x714005_2) ∧ w'.cell? (ad714.add (x12_2).toNat) = some (.int .u64 (rd l2 x12_2))) (ds := []) #[false, false, false, false, false, false, false, false] (by kernel_rfl) rfl rfl ⟨(blk_cell BK713.out 0).trans rfl, (blk_cell BK713.out 1).trans rfl, (blk_cell BK713.out 2).trans rfl, (blk_cell BK713.out 3).trans rfl, (blk_cell BK713.out 4).trans rfl, (blk_cell BK713.out 5).trans rfl, ((HB.out.cell (World.block_lt_of_cell? w _ hw714_0)).trans hw714_0)⟩ (fun hHeld => ?_); refine with_tabW spigotlaw03_BucketBound.tab10 spigotlaw03_BucketBound.bits10 (fun HT_ HW_ => ?_)
        generalize wr.drew = w30 at BK703 BK713 HB hx714_0 hHeld ⊢
        refine pure_ (i := 0) (N := some 52) (v := ?_) (a' := ?_) #[true, false, false, false, false, false, false, false] rfl rfl (any_of HT_.out (by kernel_rfl)) (fun _ _ _ h => h) (Or.inl ⟨by rfl, ?_⟩) ?_ ?_
        rotate_left
        ·intro w'
         go_simp
         with_reducible rfl
        rotate_left
        ·simp only [Act.put, List.setIfInBounds_toArray, List.set_cons_zero, List.set_cons_succ, i64_w, i32_w]
         rfl
        refine pure_ (i := 1) (N := some 53) (v := ?_) (a' := ?_) #[true, true, false, false, false, false, false, false] rfl rfl (any_of HT_.out (by kernel_rfl)) (fun _ _ _ h => h) (Or.inl ⟨by rfl, ?_⟩) ?_ ?_
        rotate_left
        ·intro w'
         go_simp
         with_reducible rfl
        rotate_left
        ·simp only [Act.put, List.setIfInBounds_toArray, List.set_cons_zero, List.set_cons_succ, i64_w, i32_w]
         rfl
        refine pure_ (i := 2) (N := some 54) (v := ?_) (a' := ?_) #[true, true, true, false, false, false, false, false] rfl rfl (any_of HT_.out (by kernel_rfl)) (fun _ _ _ h => h) (Or.inl ⟨by rfl, ?_⟩) ?_ ?_
        rotate_left
        ·intro w'
         go_simp
         with_reducible rfl
        rotate_left
        ·simp only [Act.put, List.setIfInBounds_toArray, List.set_cons_zero, List.set_cons_succ, i64_w, i32_w]
         rfl
        refine pure_ (i := 4) (N := some 56) (v := ?_) (a' := ?_) #[true, true, true, false, true, false, false, false] rfl rfl (any_of HT_.out (by kernel_rfl)) (fun _ _ _ h => h) (Or.inl ⟨by rfl, ?_⟩) ?_ ?_
        rotate_left
        ·intro w'
         go_simp
         with_reducible rfl
        rotate_left
        ·simp only [Act.put, List.setIfInBounds_toArray, List.set_cons_zero, List.set_cons_succ, i64_w, i32_w]
         rfl
        refine take_ (i := 3) (N := some 55) (v := ?_) (a' := ?_) #[true, true, true, true, true, false, false, false] rfl rfl (take_ofW HT_.out HW_.out (by kernel_rfl)) (fun _ _ _ h => h) (Or.inl ⟨by rfl, ?_⟩) hHeld ?_ ?_
        rotate_left
        ·rintro w' ⟨s0, s1, s2, s3, s4, s5, s6⟩
         go_simp
         with_reducible rfl
        rotate_left
        ·simp only [Act.put, List.setIfInBounds_toArray, List.set_cons_zero, List.set_cons_succ, i64_w, i32_w]
         rfl
        refine take_ (i := 5) (N := some 57) (v := ?_) (a' := ?_) #[true, true, true, true, true, true, false, false] rfl rfl (take_ofW HT_.out HW_.out (by kernel_rfl)) (fun _ _ _ h => h) (Or.inl ⟨by rfl, ?_⟩) hHeld ?_ ?_
        rotate_left
        ·rintro w' ⟨s0, s1, s2, s3, s4, s5, s6⟩
         go_simp
         with_reducible rfl
        rotate_left
        ·simp only [Act.put, List.setIfInBounds_toArray, List.set_cons_zero, List.set_cons_succ, i64_w, i32_w]
         rfl
        refine pure_ (i := 6) (N := some 58) (v := ?_) (a' := ?_) #[true, true, true, true, true, true, true, false] rfl rfl (any_of HT_.out (by kernel_rfl)) (fun _ _ _ h => h) (Or.inl ⟨by rfl, ?_⟩) ?_ ?_
        rotate_left
        ·intro w'
         go_simp
         with_reducible rfl
        rotate_left
        ·simp only [Act.put, List.setIfInBounds_toArray, List.set_cons_zero, List.set_cons_succ, i64_w, i32_w]
         rfl
        refine pure_ (i := 7) (N := some 59) (v := ?_) (a' := ?_) #[true, true, true, true, true, true, true, true] rfl rfl (any_of HT_.out (by kernel_rfl)) (fun _ _ _ h => h) (Or.inl ⟨by rfl, ?_⟩) ?_ ?_
        rotate_left
        ·intro w'
         go_simp
         with_reducible rfl
        rotate_left
        ·simp only [Act.put, List.setIfInBounds_toArray, List.set_cons_zero, List.set_cons_succ, i64_w, i32_w]
         rfl
        refine done_ (done_of HT_.out (by kernel_rfl)) ?_
        try go_wp2_with (first | ((with_reducible refine gate_callee (f := 27) rfl ?_); refine goesL_ (some 60) rfl rfl Try.func27 (by kernel_rfl) rfl #[] rfl (by (try simp only [List.map_toArray, List.map_cons, List.map_nil]); first | done | rfl | (simp only [List.length_drop, List.length_take]; rfl)) ?_; (with_reducible refine (spigotlaw03_alive.calls k2  t715 _ A29.out).mono ?_); rintro e w31 ⟨rfl, hb⟩; refine ⟨_, rfl, ?_⟩; replace BK703 := bb_ BK703 hb; replace BK713 := bb_ BK713 hb; replace HB := bs_ w hb; (try clear hb); (try clear hb2); (try clear hk); (try clear hi)))
        go_ret
        exact ⟨by first | rfl | (simp [errW_none, errW_some] <;> rfl) | (simp [*, errW_none, errW_some] <;> rfl), by repeat (first | (with_reducible first | exact HB.out | apply below_alloc | apply pw_below_drewN | apply below_drew1 | refine below_set ?_ GE703.out | refine below_set ?_ GE713.out) | exact HB.out)⟩
       ·rw [if_neg c28] at H
        have c28b0 : decide ((IntKind.u64.wrap (18446744073709551615 - x714005_2)) < (rd l2 x12_2)) = false := decide_eq_false c28
        clear c28
        replace H := Option.bind_eq_some_iff.mp H
        obtain ⟨⟨t717, t718, t719, t720, t721, t722, t723⟩, A320, H⟩ := H
        try dsimp only at H
        have A32 := Aside0.mk A320
        clear A320
        have HC33 := Aside0.mk H
        clear H
        try go_wp2
        replace BK703 := Aside0.mk (blk_drew BK703.out)
        replace BK713 := Aside0.mk (blk_drew BK713.out)
        replace HB := Aside0.mk (below_drew1 HB.out)
        have p714 : 0 ≤ (x12_2 : Int) := of_decide_eq_true (by first | (with_reducible assumption) | assumption)
        have q714 : x12_2 < (l2.length : Int) := of_decide_eq_true (by first | (with_reducible assumption) | assumption)
        obtain ⟨ad714, e714, hx714_0⟩ := Kd.at_int HR2.out x12_2 p714 q714
        have hw714_0 := hx714_0
        cases e714
        replace hx714_0 := (HB.out.cell (World.block_lt_of_cell? w _ hx714_0)).trans hx714_0
        replace p714 := eq_true p714
        replace q714 := eq_true q714
        refine start_ (n := 8) (S := fun w' => w'.cell? ⟨gb713, 0, none⟩ = some (.int .i64 x714000_2) ∧ w'.cell? ⟨gb713, 1, none⟩ = some (.int .i64 x714001_2) ∧ w'.cell? ⟨gb713, 2, none⟩ = some (.int .i64 x714002_2) ∧ w'.cell? ⟨gb713, 3, none⟩ = some (.int .i64 x714003_2) ∧ w'.cell? ⟨gb713, 4, none⟩ = some (.int .i64 x714004_2) ∧ w'.cell? ⟨gb713, 5, none⟩ = some (.int .u64 x714005_2) ∧ w'.cell? (ad714.add (x12_2).toNat) = some (.int .u64 (rd l2 x12_2))) (ds := []) #[false, false, false, false, false, false, false, false] (by kernel_rfl) rfl rfl ⟨(blk_cell BK713.out 0).trans rfl, (blk_cell BK713.out 1).trans rfl, (blk_cell BK713.out 2).trans rfl, (blk_cell BK713.out 3).trans rfl, (blk_cell BK713.out 4).trans rfl, (blk_cell BK713.out 5).trans rfl, ((HB.out.cell (World.block_lt_of_cell? w _ hw714_0)).trans hw714_0)⟩ (fun hHeld => ?_); refine with_tabW spigotlaw03_BucketBound.tab10 spigotlaw03_BucketBound.bits10 (fun HT_ HW_ => ?_)
        generalize wr.drew = w34 at BK703 BK713 HB hx714_0 hHeld ⊢
        refine pure_ (i := 0) (N := some 52) (v := ?_) (a' := ?_) #[true, false, false, false, false, false, false, false] rfl rfl (any_of HT_.out (by kernel_rfl)) (fun _ _ _ h => h) (Or.inl ⟨by rfl, ?_⟩) ?_ ?_
        rotate_left
        ·intro w'
         go_simp
         with_reducible rfl
        rotate_left
        ·simp only [Act.put, List.setIfInBounds_toArray, List.set_cons_zero, List.set_cons_succ, i64_w, i32_w]
         rfl
        refine pure_ (i := 1) (N := some 53) (v := ?_) (a' := ?_) #[true, true, false, false, false, false, false, false] rfl rfl (any_of HT_.out (by kernel_rfl)) (fun _ _ _ h => h) (Or.inl ⟨by rfl, ?_⟩) ?_ ?_
        rotate_left
        ·intro w'
         go_simp
         with_reducible rfl
        rotate_left
        ·simp only [Act.put, List.setIfInBounds_toArray, List.set_cons_zero, List.set_cons_succ, i64_w, i32_w]
         rfl
        refine pure_ (i := 2) (N := some 54) (v := ?_) (a' := ?_) #[true, true, true, false, false, false, false, false] rfl rfl (any_of HT_.out (by kernel_rfl)) (fun _ _ _ h => h) (Or.inl ⟨by rfl, ?_⟩) ?_ ?_
        rotate_left
        ·intro w'
         go_simp
         with_reducible rfl
        rotate_left
        ·simp only [Act.put, List.setIfInBounds_toArray, List.set_cons_zero, List.set_cons_succ, i64_w, i32_w]
         rfl
        refine pure_ (i := 4) (N := some 56) (v := ?_) (a' := ?_) #[true, true, true, false, true, false, false, false] rfl rfl (any_of HT_.out (by kernel_rfl)) (fun _ _ _ h => h) (Or.inl ⟨by rfl, ?_⟩) ?_ ?_
        rotate_left
        ·intro w'
         go_simp
         with_reducible rfl
        rotate_left
        ·simp only [Act.put, List.setIfInBounds_toArray, List.set_cons_zero, List.set_cons_succ, i64_w, i32_w]
         rfl
        refine take_ (i := 3) (N := some 55) (v := ?_) (a' := ?_) #[true, true, true, true, true, false, false, false] rfl rfl (take_ofW HT_.out HW_.out (by kernel_rfl)) (fun _ _ _ h => h) (Or.inl ⟨by rfl, ?_⟩) hHeld ?_ ?_
        rotate_left
        ·rintro w' ⟨s0, s1, s2, s3, s4, s5, s6⟩
         go_simp
         with_reducible rfl
        rotate_left
        ·simp only [Act.put, List.setIfInBounds_toArray, List.set_cons_zero, List.set_cons_succ, i64_w, i32_w]
         rfl
        refine take_ (i := 5) (N := some 57) (v := ?_) (a' := ?_) #[true, true, true, true, true, true, false, false] rfl rfl (take_ofW HT_.out HW_.out (by kernel_rfl)) (fun _ _ _ h => h) (Or.inl ⟨by rfl, ?_⟩) hHeld ?_ ?_
        rotate_left
        ·rintro w' ⟨s0, s1, s2, s3, s4, s5, s6⟩
         go_simp
         with_reducible rfl
        rotate_left
        ·simp only [Act.put, List.setIfInBounds_toArray, List.set_cons_zero, List.set_cons_succ, i64_w, i32_w]
         rfl
        refine pure_ (i := 6) (N := some 58) (v := ?_) (a' := ?_) #[true, true, true, true, true, true, true, false] rfl rfl (any_of HT_.out (by kernel_rfl)) (fun _ _ _ h => h) (Or.inl ⟨by rfl, ?_⟩) ?_ ?_
        rotate_left
        ·intro w'
         go_simp
         with_reducible rfl
        rotate_left
        ·simp only [Act.put, List.setIfInBounds_toArray, List.set_cons_zero, List.set_cons_succ, i64_w, i32_w]
         rfl
        refine pure_ (i := 7) (N := some 59) (v := ?_) (a' := ?_) #[true, true, true, true, true, true, true, true] rfl rfl (any_of HT_.out (by kernel_rfl)) (fun _ _ _ h => h) (Or.inl ⟨by rfl, ?_⟩) ?_ ?_
        rotate_left
        ·intro w'
         go_simp
         with_reducible rfl
        rotate_left
        ·simp only [Act.put, List.setIfInBounds_toArray, List.set_cons_zero, List.set_cons_succ, i64_w, i32_w]
         rfl
        refine done_ (done_of HT_.out (by kernel_rfl)) ?_
        try go_wp2
        replace BK703 := Aside0.mk (blk_drew BK703.out)
        replace BK713 := Aside0.mk (blk_drew BK713.out)
        replace HB := Aside0.mk (below_drew1 HB.out)
        have p716 : 0 ≤ (x12_2 : Int) := of_decide_eq_true (by first | (with_reducible assumption) | assumption)
        have q716 : x12_2 < (l2.length : Int) := of_decide_eq_true (by first | (with_reducible assumption) | assumption)
        obtain ⟨ad716, e716, hx716_0⟩ := Kd.at_int HR2.out x12_2 p716 q716
        have hw716_0 := hx716_0
        obtain rfl : ad714 = ad716 := (by injection e716)
        replace hx716_0 := (HB.out.cell (World.block_lt_of_cell? w _ hx716_0)).trans hx716_0
        replace p716 := eq_true p716
        replace q716 := eq_true q716
        refine start_ (n := 15) (S := fun w' => w'.cell? ⟨gb713, 0, none⟩ = some (.int .i64 x714000_2) ∧ w'.cell? ⟨gb713, 1, none⟩ = some (.int .i64 x714001_2) ∧ w'.cell? ⟨gb713, 2, none⟩ = some (.int .i64 x714002_2) ∧ w'.cell? ⟨gb713, 3, none⟩ = some (.int .i64 x714003_2) ∧ w'.cell? ⟨gb713, 4, none⟩ = some (.int .i64 x714004_2) ∧ w'.cell? ⟨gb713, 5, none⟩ = some (.int .u64 x714005_2) ∧ w'.cell? (ad714.add (x12_2).toNat) = some (.int .u64 (rd l2 x12_2))) (ds := []) #[false, false, false, false, false, false, false, false, false, false, false, false, false, false, false] (by kernel_rfl) rfl rfl ⟨(blk_cell BK713.out 0).trans rfl, (blk_cell BK713.out 1).trans rfl, (blk_cell BK713.out 2).trans rfl, (blk_cell BK713.out 3).trans rfl, (blk_cell BK713.out 4).trans rfl, (blk_cell BK713.out 5).trans rfl, ((HB.out.cell (World.block_lt_of_cell? w _ hw716_0)).trans hw716_0)⟩ (fun hHeld => ?_); refine with_tabW spigotlaw03_BucketBound.tab12 spigotlaw03_BucketBound.bits12 (fun HT_ HW_ => ?_)
        generalize w34.drew = w35 at BK703 BK713 HB hx716_0 hHeld ⊢
        refine pure_ (i := 1) (N := some 63) (v := ?_) (a' := ?_) #[false, true, false, false, false, false, false, false, false, false, false, false, false, false, false] rfl rfl (any_of HT_.out (by kernel_rfl)) (fun _ _ _ h => h) (Or.inl ⟨by rfl, ?_⟩) ?_ ?_
        rotate_left
        ·intro w'
         go_simp
         with_reducible rfl
        rotate_left
        ·simp only [Act.put, List.setIfInBounds_toArray, List.set_cons_zero, List.set_cons_succ, i64_w, i32_w]
         rfl
        refine pure_ (i := 3) (N := some 65) (v := ?_) (a' := ?_) #[false, true, false, true, false, false, false, false, false, false, false, false, false, false, false] rfl rfl (any_of HT_.out (by kernel_rfl)) (fun _ _ _ h => h) (Or.inl ⟨by rfl, ?_⟩) ?_ ?_
        rotate_left
        ·intro w'
         go_simp
         with_reducible rfl
        rotate_left
        ·simp only [Act.put, List.setIfInBounds_toArray, List.set_cons_zero, List.set_cons_succ, i64_w, i32_w]
         rfl
        refine pure_ (i := 4) (N := some 66) (v := ?_) (a' := ?_) #[false, true, false, true, true, false, false, false, false, false, false, false, false, false, false] rfl rfl (any_of HT_.out (by kernel_rfl)) (fun _ _ _ h => h) (Or.inl ⟨by rfl, ?_⟩) ?_ ?_
        rotate_left
        ·intro w'
         go_simp
         with_reducible rfl
        rotate_left
        ·simp only [Act.put, List.setIfInBounds_toArray, List.set_cons_zero, List.set_cons_succ, i64_w, i32_w]
         rfl
        refine pure_ (i := 5) (N := some 67) (v := ?_) (a' := ?_) #[false, true, false, true, true, true, false, false, false, false, false, false, false, false, false] rfl rfl (any_of HT_.out (by kernel_rfl)) (fun _ _ _ h => h) (Or.inl ⟨by rfl, ?_⟩) ?_ ?_
        rotate_left
        ·intro w'
         go_simp
         with_reducible rfl
        rotate_left
        ·simp only [Act.put, List.setIfInBounds_toArray, List.set_cons_zero, List.set_cons_succ, i64_w, i32_w]
         rfl
        refine take_ (i := 0) (N := some 62) (v := ?_) (a' := ?_) #[true, true, false, true, true, true, false, false, false, false, false, false, false, false, false] rfl rfl (take_ofW HT_.out HW_.out (by kernel_rfl)) (fun _ _ _ h => h) (Or.inl ⟨by rfl, ?_⟩) hHeld ?_ ?_
        rotate_left
        ·rintro w' ⟨s0, s1, s2, s3, s4, s5, s6⟩
         go_simp
         with_reducible rfl
        rotate_left
        ·simp only [Act.put, List.setIfInBounds_toArray, List.set_cons_zero, List.set_cons_succ, i64_w, i32_w]
         rfl
        refine take_ (i := 2) (N := some 64) (v := ?_) (a' := ?_) #[true, true, true, true, true, true, false, false, false, false, false, false, false, false, false] rfl rfl (take_ofW HT_.out HW_.out (by kernel_rfl)) (fun _ _ _ h => h) (Or.inl ⟨by rfl, ?_⟩) hHeld ?_ ?_
        rotate_left
        ·rintro w' ⟨s0, s1, s2, s3, s4, s5, s6⟩
         go_simp
         with_reducible rfl
        rotate_left
        ·simp only [Act.put, List.setIfInBounds_toArray, List.set_cons_zero, List.set_cons_succ, i64_w, i32_w]
         rfl
        refine take_ (i := 6) (N := some 68) (v := ?_) (a' := ?_) #[true, true, true, true, true, true, true, false, false, false, false, false, false, false, false] rfl rfl (take_ofW HT_.out HW_.out (by kernel_rfl)) (fun _ _ _ h => h) (Or.inl ⟨by rfl, ?_⟩) hHeld ?_ ?_
        rotate_left
        ·rintro w' ⟨s0, s1, s2, s3, s4, s5, s6⟩
         go_simp
         with_reducible rfl
        rotate_left
        ·simp only [Act.put, List.setIfInBounds_toArray, List.set_cons_zero, List.set_cons_succ, i64_w, i32_w]
         rfl
        refine pure_ (i := 7) (N := some 69) (v := ?_) (a' := ?_) #[true, true, true, true, true, true, true, true, false, false, false, false, false, false, false] rfl rfl (any_of HT_.out (by kernel_rfl)) (fun _ _ _ h => h) (Or.inl ⟨by rfl, ?_⟩) ?_ ?_
        rotate_left
        ·intro w'
         go_simp
         with_reducible rfl
        rotate_left
        ·simp only [Act.put, List.setIfInBounds_toArray, List.set_cons_zero, List.set_cons_succ, i64_w, i32_w]
         rfl
        refine join_ (σ := Nat) 2 #[true, true, true, true, true, true, true, true, true, true, true, true, true, false, false] (fun s_ => [(70, .tuple #[.agg #[.int .i64 t717, .int .i64 t718, .int .i64 t719, .int .i64 t720, .int .i64 t721, .int .u64 t722], .int .i64 t723]), (13, .pointer (some ⟨s_, 0, none⟩)), (61, .tuple #[.agg #[.int .i64 t717, .int .i64 t718, .int .i64 t719, .int .i64 t720, .int .i64 t721, .int .u64 t722], .int .i64 t723]), (71, .agg #[.int .i64 t717, .int .i64 t718, .int .i64 t719, .int .i64 t720, .int .i64 t721, .int .u64 t722]), (72, .int .i64 t723)]) (fun s_ w' => (w'.cell? ⟨gb713, 0, none⟩ = some (.int .i64 x714000_2) ∧ w'.cell? ⟨gb713, 1, none⟩ = some (.int .i64 x714001_2) ∧ w'.cell? ⟨gb713, 2, none⟩ = some (.int .i64 x714002_2) ∧ w'.cell? ⟨gb713, 3, none⟩ = some (.int .i64 x714003_2) ∧ w'.cell? ⟨gb713, 4, none⟩ = some (.int .i64 x714004_2) ∧ w'.cell? ⟨gb713, 5, none⟩ = some (.int .u64 x714005_2) ∧ w'.cell? (ad714.add (x12_2).toNat) = some (.int .u64 (rd l2 x12_2))) ∧ (w'.heap[gb703]? = some (.cells #[.int .i64 a0_0, .int .i64 a0_1, .int .i64 a0_2] 23 (0, 0))) ∧ (w'.heap[gb713]? = some (.cells #[.int .i64 x714000_2, .int .i64 x714001_2, .int .i64 x714002_2, .int .i64 x714003_2, .int .i64 x714004_2, .int .u64 x714005_2] 26 (0, 0))) ∧ (w'.heap[s_]? = some (.cells #[.int .i64 0, .int .i64 0, .int .i64 0, .int .i64 0, .int .i64 0, .int .u64 0] 26 (0, 0))) ∧ (w.heap.size ≤ s_) ∧ (w.heap.size ≤ s_) ∧ (gb703 ≠ s_) ∧ (s_ ≠ gb703) ∧ (gb713 ≠ s_) ∧ (s_ ≠ gb713) ∧ (Below w.heap.size w w')) ?_ ?_
        rotate_left
        ·intro hCont
         refine two_ (i := 8) (j := 12) (Ni := some 70) (Nj := some 13) #[true, true, true, true, true, true, true, true, true, false, false, false, false, false, false] #[true, true, true, true, true, true, true, true, false, false, false, false, true, false, false] rfl rfl rfl rfl (two_of HT_.out (by kernel_rfl)) (by decide) (by decide) (fun K hK => ?_) (fun K hK => ?_)
         ·skip
          refine goes_ Try.func12 (by kernel_rfl) rfl #[.agg #[.int .i64 x714000_2, .int .i64 x714001_2, .int .i64 x714002_2, .int .i64 x714003_2, .int .i64 x714004_2, .int .u64 x714005_2], .int .u64 (IntKind.u64.wrap (x714005_2 + (rd l2 x12_2)))] (by rfl) rfl rfl (by (try simp only [List.map_toArray, List.map_cons, List.map_nil]); first | done | rfl | (simp only [List.length_drop, List.length_take]; rfl)) ?_
          with_reducible refine (bucket_Refill.calls k2 x714000_2 x714001_2 x714002_2 x714003_2 x714004_2 x714005_2 (IntKind.u64.wrap (x714005_2 + (rd l2 x12_2))) t717 t718 t719 t720 t721 t722 t723 _ A32.out).mono ?_
          rintro e w36 ⟨rfl, hb⟩
          refine ⟨_, rfl, ?_⟩
          replace BK703 := bb_ BK703 hb
          replace BK713 := bb_ BK713 hb
          replace HB := bs_ w hb
          (try clear hb)
          (try clear hb2)
          (try clear hk)
          (try clear hi)
          refine hK.out _ _ ⟨(blk_cell BK713.out 0).trans rfl, (blk_cell BK713.out 1).trans rfl, (blk_cell BK713.out 2).trans rfl, (blk_cell BK713.out 3).trans rfl, (blk_cell BK713.out 4).trans rfl, (blk_cell BK713.out 5).trans rfl, ((HB.out.cell (World.block_lt_of_cell? w _ hw716_0)).trans hw716_0)⟩ (fun hHeld => ?_)
          clear hK K
          refine norm_ (a' := ?_) ?_ ?_
          rotate_left
          ·show Act.put _ (some 70) _ = _
           simp only [Act.put, List.setIfInBounds_toArray, List.set_cons_zero, List.set_cons_succ, i64_w, i32_w]
           rfl
          refine pure_ (i := 9) (N := some 61) (v := ?_) (a' := ?_) #[true, true, true, true, true, true, true, true, true, true, false, false, false, false, false] rfl rfl (any_of HT_.out (by kernel_rfl)) (fun _ _ _ h => h) (Or.inl ⟨by rfl, ?_⟩) ?_ ?_
          rotate_left
          ·intro w'
           go_simp
           with_reducible rfl
          rotate_left
          ·simp only [Act.put, List.setIfInBounds_toArray, List.set_cons_zero, List.set_cons_succ, i64_w, i32_w]
           rfl
          refine pure_ (i := 10) (N := some 71) (v := ?_) (a' := ?_) #[true, true, true, true, true, true, true, true, true, true, true, false, false, false, false] rfl rfl (any_of HT_.out (by kernel_rfl)) (fun _ _ _ h => h) (Or.inl ⟨by rfl, ?_⟩) ?_ ?_
          rotate_left
          ·intro w'
           go_simp
           with_reducible rfl
          rotate_left
          ·simp only [Act.put, List.setIfInBounds_toArray, List.set_cons_zero, List.set_cons_succ, i64_w, i32_w]
           rfl
          refine pure_ (i := 11) (N := some 72) (v := ?_) (a' := ?_) #[true, true, true, true, true, true, true, true, true, true, true, true, false, false, false] rfl rfl (any_of HT_.out (by kernel_rfl)) (fun _ _ _ h => h) (Or.inl ⟨by rfl, ?_⟩) ?_ ?_
          rotate_left
          ·intro w'
           go_simp
           with_reducible rfl
          rotate_left
          ·simp only [Act.put, List.setIfInBounds_toArray, List.set_cons_zero, List.set_cons_succ, i64_w, i32_w]
           rfl
          refine one_ (i := 12) (N := some 13) #[true, true, true, true, true, true, true, true, true, true, true, true, true, false, false] rfl rfl (one_of HT_.out (by kernel_rfl)) (by decide) (fun K hK => ?_)
          refine box_step ?hg (N := 13) ?hd (cs := #[.int .i64 0, .int .i64 0, .int .i64 0, .int .i64 0, .int .i64 0, .int .u64 0]) (t := 26) ?hr ?_; (case hd => rfl); (case hg => rfl); (case hr => first | (go_simp; done) | (go_simp; rfl))
          intro gb724 hg w37 hbox hb
          have BK724 := Aside0.mk (hbox)
          have GW724 := bz_ w hg
          have GE724 := GW724
          have NB703_724 := bn_ BK703 hg
          have NB724_703 := bm_ BK703 hg
          have NB713_724 := bn_ BK713 hg
          have NB724_713 := bm_ BK713 hg
          replace BK703 := bb_ BK703 hb
          replace BK713 := bb_ BK713 hb
          replace HB := bs_ w hb
          clear hb hbox hg
          refine hK.out _ _ ⟨(blk_cell BK713.out 0).trans rfl, (blk_cell BK713.out 1).trans rfl, (blk_cell BK713.out 2).trans rfl, (blk_cell BK713.out 3).trans rfl, (blk_cell BK713.out 4).trans rfl, (blk_cell BK713.out 5).trans rfl, ((HB.out.cell (World.block_lt_of_cell? w _ hw716_0)).trans hw716_0)⟩ (fun hHeld => ?_)
          clear hK K
          refine norm_ (a' := ?_) ?_ ?_
          rotate_left
          ·show Act.put _ (some 13) _ = _
           simp only [Act.put, List.setIfInBounds_toArray, List.set_cons_zero, List.set_cons_succ, i64_w, i32_w]
           rfl
          exact norm_ (by simp only [putAll, Act.put, List.setIfInBounds_toArray, List.set_cons_zero, List.set_cons_succ]) (hCont (gb724) _ ⟨hHeld, (bq_ BK703), (bq_ BK713), (bq_ BK724), GW724.out, GE724.out, NB703_724.out, NB724_703.out, NB713_724.out, NB724_713.out, (by repeat (first | (with_reducible first | exact HB.out | apply below_alloc | apply pw_below_drewN | apply below_drew1 | refine below_set ?_ (Aside0.out (by assumption))) | exact HB.out))⟩)
         ·skip
          refine box_step ?hg (N := 13) ?hd (cs := #[.int .i64 0, .int .i64 0, .int .i64 0, .int .i64 0, .int .i64 0, .int .u64 0]) (t := 26) ?hr ?_; (case hd => rfl); (case hg => rfl); (case hr => first | (go_simp; done) | (go_simp; rfl))
          intro gb724 hg w36 hbox hb
          have BK724 := Aside0.mk (hbox)
          have GW724 := bz_ w hg
          have GE724 := GW724
          have NB703_724 := bn_ BK703 hg
          have NB724_703 := bm_ BK703 hg
          have NB713_724 := bn_ BK713 hg
          have NB724_713 := bm_ BK713 hg
          replace BK703 := bb_ BK703 hb
          replace BK713 := bb_ BK713 hb
          replace HB := bs_ w hb
          clear hb hbox hg
          refine hK.out _ _ ⟨(blk_cell BK713.out 0).trans rfl, (blk_cell BK713.out 1).trans rfl, (blk_cell BK713.out 2).trans rfl, (blk_cell BK713.out 3).trans rfl, (blk_cell BK713.out 4).trans rfl, (blk_cell BK713.out 5).trans rfl, ((HB.out.cell (World.block_lt_of_cell? w _ hw716_0)).trans hw716_0)⟩ (fun hHeld => ?_)
          clear hK K
          refine norm_ (a' := ?_) ?_ ?_
          rotate_left
          ·show Act.put _ (some 13) _ = _
           simp only [Act.put, List.setIfInBounds_toArray, List.set_cons_zero, List.set_cons_succ, i64_w, i32_w]
           rfl
          refine one_ (i := 8) (N := some 70) #[true, true, true, true, true, true, true, true, true, false, false, false, true, false, false] rfl rfl (one_of HT_.out (by kernel_rfl)) (by decide) (fun K hK => ?_)
          refine goes_ Try.func12 (by kernel_rfl) rfl #[.agg #[.int .i64 x714000_2, .int .i64 x714001_2, .int .i64 x714002_2, .int .i64 x714003_2, .int .i64 x714004_2, .int .u64 x714005_2], .int .u64 (IntKind.u64.wrap (x714005_2 + (rd l2 x12_2)))] (by rfl) rfl rfl (by (try simp only [List.map_toArray, List.map_cons, List.map_nil]); first | done | rfl | (simp only [List.length_drop, List.length_take]; rfl)) ?_
          with_reducible refine (bucket_Refill.calls k2 x714000_2 x714001_2 x714002_2 x714003_2 x714004_2 x714005_2 (IntKind.u64.wrap (x714005_2 + (rd l2 x12_2))) t717 t718 t719 t720 t721 t722 t723 _ A32.out).mono ?_
          rintro e w37 ⟨rfl, hb⟩
          refine ⟨_, rfl, ?_⟩
          replace BK703 := bb_ BK703 hb
          replace BK713 := bb_ BK713 hb
          replace BK724 := bb_ BK724 hb
          replace HB := bs_ w hb
          (try clear hb)
          (try clear hb2)
          (try clear hk)
          (try clear hi)
          refine hK.out _ _ ⟨(blk_cell BK713.out 0).trans rfl, (blk_cell BK713.out 1).trans rfl, (blk_cell BK713.out 2).trans rfl, (blk_cell BK713.out 3).trans rfl, (blk_cell BK713.out 4).trans rfl, (blk_cell BK713.out 5).trans rfl, ((HB.out.cell (World.block_lt_of_cell? w _ hw716_0)).trans hw716_0)⟩ (fun hHeld => ?_)
          clear hK K
          refine norm_ (a' := ?_) ?_ ?_
          rotate_left
          ·show Act.put _ (some 70) _ = _
           simp only [Act.put, List.setIfInBounds_toArray, List.set_cons_zero, List.set_cons_succ, i64_w, i32_w]
           rfl
          refine pure_ (i := 9) (N := some 61) (v := ?_) (a' := ?_) #[true, true, true, true, true, true, true, true, true, true, false, false, true, false, false] rfl rfl (any_of HT_.out (by kernel_rfl)) (fun _ _ _ h => h) (Or.inl ⟨by rfl, ?_⟩) ?_ ?_
          rotate_left
          ·intro w'
           go_simp
           with_reducible rfl
          rotate_left
          ·simp only [Act.put, List.setIfInBounds_toArray, List.set_cons_zero, List.set_cons_succ, i64_w, i32_w]
           rfl
          refine pure_ (i := 10) (N := some 71) (v := ?_) (a' := ?_) #[true, true, true, true, true, true, true, true, true, true, true, false, true, false, false] rfl rfl (any_of HT_.out (by kernel_rfl)) (fun _ _ _ h => h) (Or.inl ⟨by rfl, ?_⟩) ?_ ?_
          rotate_left
          ·intro w'
           go_simp
           with_reducible rfl
          rotate_left
          ·simp only [Act.put, List.setIfInBounds_toArray, List.set_cons_zero, List.set_cons_succ, i64_w, i32_w]
           rfl
          refine pure_ (i := 11) (N := some 72) (v := ?_) (a' := ?_) #[true, true, true, true, true, true, true, true, true, true, true, true, true, false, false] rfl rfl (any_of HT_.out (by kernel_rfl)) (fun _ _ _ h => h) (Or.inl ⟨by rfl, ?_⟩) ?_ ?_
          rotate_left
          ·intro w'
           go_simp
           with_reducible rfl
          rotate_left
          ·simp only [Act.put, List.setIfInBounds_toArray, List.set_cons_zero, List.set_cons_succ, i64_w, i32_w]
           rfl
          exact norm_ (by simp only [putAll, Act.put, List.setIfInBounds_toArray, List.set_cons_zero, List.set_cons_succ]) (hCont (gb724) _ ⟨hHeld, (bq_ BK703), (bq_ BK713), (bq_ BK724), GW724.out, GE724.out, NB703_724.out, NB724_703.out, NB713_724.out, NB724_713.out, (by repeat (first | (with_reducible first | exact HB.out | apply below_alloc | apply pw_below_drewN | apply below_drew1 | refine below_set ?_ (Aside0.out (by assumption))) | exact HB.out))⟩)
        rintro gb724 w38 ⟨hS_, h0_, h1_, h2_, h3_, h4_, h5_, h6_, h7_, h8_, h9_⟩
        have BK724 : Aside0 (w38.heap[gb724]? = some (.cells #[.int .i64 0, .int .i64 0, .int .i64 0, .int .i64 0, .int .i64 0, .int .u64 0] 26 (0, 0))) := ⟨h2_⟩
        have GW724 : Aside0 (w.heap.size ≤ gb724) := ⟨h3_⟩
        have GE724 : Aside0 (w.heap.size ≤ gb724) := ⟨h4_⟩
        have NB703_724 : Aside0 (gb703 ≠ gb724) := ⟨h5_⟩
        have NB724_703 : Aside0 (gb724 ≠ gb703) := ⟨h6_⟩
        have NB713_724 : Aside0 (gb713 ≠ gb724) := ⟨h7_⟩
        have NB724_713 : Aside0 (gb724 ≠ gb713) := ⟨h8_⟩
        replace BK703 : Aside0 (w38.heap[gb703]? = some (.cells #[.int .i64 a0_0, .int .i64 a0_1, .int .i64 a0_2] 23 (0, 0))) := ⟨h0_⟩
        replace BK713 : Aside0 (w38.heap[gb713]? = some (.cells #[.int .i64 x714000_2, .int .i64 x714001_2, .int .i64 x714002_2, .int .i64 x714003_2, .int .i64 x714004_2, .int .u64 x714005_2] 26 (0, 0))) := ⟨h1_⟩
        replace HB : Aside0 (Below w.heap.size w w38) := ⟨h9_⟩
        clear h0_ h1_ h2_ h3_ h4_ h5_ h6_ h7_ h8_ h9_
        have hHeld : w38.cell? ⟨gb713, 0, none⟩ = some (.int .i64 x714000_2) ∧ w38.cell? ⟨gb713, 1, none⟩ = some (.int .i64 x714001_2) ∧ w38.cell? ⟨gb713, 2, none⟩ = some (.int .i64 x714002_2) ∧ w38.cell? ⟨gb713, 3, none⟩ = some (.int .i64 x714003_2) ∧ w38.cell? ⟨gb713, 4, none⟩ = some (.int .i64 x714004_2) ∧ w38.cell? ⟨gb713, 5, none⟩ = some (.int .u64 x714005_2) ∧ w38.cell? (ad714.add (x12_2).toNat) = some (.int .u64 (rd l2 x12_2)) := hS_
        refine norm_ (a' := ?_) ?_ ?_
        rotate_left
        ·simp only [putAll, Act.put, List.setIfInBounds_toArray, List.set_cons_zero, List.set_cons_succ]
         rfl
        refine one_ (i := 13) (N := none) #[true, true, true, true, true, true, true, true, true, true, true, true, true, true, false] rfl rfl (one_of HT_.out (by kernel_rfl)) (by decide) (fun K hK => ?_)
        have hs39 : w38.cell? ⟨gb724, 0, none⟩ = some (.int .i64 0) := (blk_cell BK724.out 0).trans rfl
        have hfs39 := blk_frozen BK724.out 0
        have hns39_0 := NB703_724.out
        have hns39_1 := NB713_724.out
        have hms39_0 := NB724_703.out
        have hms39_1 := NB724_713.out
        have hs40 : w38.cell? ⟨gb724, 1, none⟩ = some (.int .i64 0) := (blk_cell BK724.out 1).trans rfl
        have hfs40 := blk_frozen BK724.out 1
        have hns40_0 := NB703_724.out
        have hns40_1 := NB713_724.out
        have hms40_0 := NB724_703.out
        have hms40_1 := NB724_713.out
        have hs41 : w38.cell? ⟨gb724, 2, none⟩ = some (.int .i64 0) := (blk_cell BK724.out 2).trans rfl
        have hfs41 := blk_frozen BK724.out 2
        have hns41_0 := NB703_724.out
        have hns41_1 := NB713_724.out
        have hms41_0 := NB724_703.out
        have hms41_1 := NB724_713.out
        have hs42 : w38.cell? ⟨gb724, 3, none⟩ = some (.int .i64 0) := (blk_cell BK724.out 3).trans rfl
        have hfs42 := blk_frozen BK724.out 3
        have hns42_0 := NB703_724.out
        have hns42_1 := NB713_724.out
        have hms42_0 := NB724_703.out
        have hms42_1 := NB724_713.out
        have hs43 : w38.cell? ⟨gb724, 4, none⟩ = some (.int .i64 0) := (blk_cell BK724.out 4).trans rfl
        have hfs43 := blk_frozen BK724.out 4
        have hns43_0 := NB703_724.out
        have hns43_1 := NB713_724.out
        have hms43_0 := NB724_703.out
        have hms43_1 := NB724_713.out
        have hs44 : w38.cell? ⟨gb724, 5, none⟩ = some (.int .u64 0) := (blk_cell BK724.out 5).trans rfl
        have hfs44 := blk_frozen BK724.out 5
        have hns44_0 := NB703_724.out
        have hns44_1 := NB713_724.out
        have hms44_0 := NB724_703.out
        have hms44_1 := NB724_713.out
        refine skip_ (w1 := ?_) (by rfl) rfl ?_ ?_
        rotate_left
        ·go_simp
         rfl
        refine hK.out _ _ ⟨((cell_far (p := ⟨gb724, _, none⟩) NB713_724.out _).trans (((cell_far (p := ⟨gb724, _, none⟩) NB713_724.out _).trans (((cell_far (p := ⟨gb724, _, none⟩) NB713_724.out _).trans (((cell_far (p := ⟨gb724, _, none⟩) NB713_724.out _).trans (((cell_far (p := ⟨gb724, _, none⟩) NB713_724.out _).trans (((cell_far (p := ⟨gb724, _, none⟩) NB713_724.out _).trans (hHeld.1)))))))))))), ((cell_far (p := ⟨gb724, _, none⟩) NB713_724.out _).trans (((cell_far (p := ⟨gb724, _, none⟩) NB713_724.out _).trans (((cell_far (p := ⟨gb724, _, none⟩) NB713_724.out _).trans (((cell_far (p := ⟨gb724, _, none⟩) NB713_724.out _).trans (((cell_far (p := ⟨gb724, _, none⟩) NB713_724.out _).trans (((cell_far (p := ⟨gb724, _, none⟩) NB713_724.out _).trans (hHeld.2.1)))))))))))), ((cell_far (p := ⟨gb724, _, none⟩) NB713_724.out _).trans (((cell_far (p := ⟨gb724, _, none⟩) NB713_724.out _).trans (((cell_far (p := ⟨gb724, _, none⟩) NB713_724.out _).trans (((cell_far (p := ⟨gb724, _, none⟩) NB713_724.out _).trans (((cell_far (p := ⟨gb724, _, none⟩) NB713_724.out _).trans (((cell_far (p := ⟨gb724, _, none⟩) NB713_724.out _).trans (hHeld.2.2.1)))))))))))), ((cell_far (p := ⟨gb724, _, none⟩) NB713_724.out _).trans (((cell_far (p := ⟨gb724, _, none⟩) NB713_724.out _).trans (((cell_far (p := ⟨gb724, _, none⟩) NB713_724.out _).trans (((cell_far (p := ⟨gb724, _, none⟩) NB713_724.out _).trans (((cell_far (p := ⟨gb724, _, none⟩) NB713_724.out _).trans (((cell_far (p := ⟨gb724, _, none⟩) NB713_724.out _).trans (hHeld.2.2.2.1)))))))))))), ((cell_far (p := ⟨gb724, _, none⟩) NB713_724.out _).trans (((cell_far (p := ⟨gb724, _, none⟩) NB713_724.out _).trans (((cell_far (p := ⟨gb724, _, none⟩) NB713_724.out _).trans (((cell_far (p := ⟨gb724, _, none⟩) NB713_724.out _).trans (((cell_far (p := ⟨gb724, _, none⟩) NB713_724.out _).trans (((cell_far (p := ⟨gb724, _, none⟩) NB713_724.out _).trans (hHeld.2.2.2.2.1)))))))))))), ((cell_far (p := ⟨gb724, _, none⟩) NB713_724.out _).trans (((cell_far (p := ⟨gb724, _, none⟩) NB713_724.out _).trans (((cell_far (p := ⟨gb724, _, none⟩) NB713_724.out _).trans (((cell_far (p := ⟨gb724, _, none⟩) NB713_724.out _).trans (((cell_far (p := ⟨gb724, _, none⟩) NB713_724.out _).trans (((cell_far (p := ⟨gb724, _, none⟩) NB713_724.out _).trans (hHeld.2.2.2.2.2.1)))))))))))), ((cell_far (p := ⟨gb724, _, none⟩) (by first | exact Nat.ne_of_lt (Nat.lt_of_lt_of_le (by have := World.block_lt_of_cell? _ _ hw716_0; first | rwa [add_block] at this | exact this) GW724.out) | (rw [add_block]; exact Nat.ne_of_lt (Nat.lt_of_lt_of_le (by have := World.block_lt_of_cell? _ _ hw716_0; first | rwa [add_block] at this | exact this) GW724.out)) | (show (Addr.add _ _).block ≠ _; rw [add_block]; exact Nat.ne_of_lt (Nat.lt_of_lt_of_le (by have := World.block_lt_of_cell? _ _ hw716_0; first | rwa [add_block] at this | exact this) GW724.out)) | (dsimp only; exact Nat.ne_of_lt (Nat.lt_of_lt_of_le (by have := World.block_lt_of_cell? _ _ hw716_0; first | rwa [add_block] at this | exact this) GW724.out))) _).trans (((cell_far (p := ⟨gb724, _, none⟩) (by first | exact Nat.ne_of_lt (Nat.lt_of_lt_of_le (by have := World.block_lt_of_cell? _ _ hw716_0; first | rwa [add_block] at this | exact this) GW724.out) | (rw [add_block]; exact Nat.ne_of_lt (Nat.lt_of_lt_of_le (by have := World.block_lt_of_cell? _ _ hw716_0; first | rwa [add_block] at this | exact this) GW724.out)) | (show (Addr.add _ _).block ≠ _; rw [add_block]; exact Nat.ne_of_lt (Nat.lt_of_lt_of_le (by have := World.block_lt_of_cell? _ _ hw716_0; first | rwa [add_block] at this | exact this) GW724.out)) | (dsimp only; exact Nat.ne_of_lt (Nat.lt_of_lt_of_le (by have := World.block_lt_of_cell? _ _ hw716_0; first | rwa [add_block] at this | exact this) GW724.out))) _).trans (((cell_far (p := ⟨gb724, _, none⟩) (by first | exact Nat.ne_of_lt (Nat.lt_of_lt_of_le (by have := World.block_lt_of_cell? _ _ hw716_0; first | rwa [add_block] at this | exact this) GW724.out) | (rw [add_block]; exact Nat.ne_of_lt (Nat.lt_of_lt_of_le (by have := World.block_lt_of_cell? _ _ hw716_0; first | rwa [add_block] at this | exact this) GW724.out)) | (show (Addr.add _ _).block ≠ _; rw [add_block]; exact Nat.ne_of_lt (Nat.lt_of_lt_of_le (by have := World.block_lt_of_cell? _ _ hw716_0; first | rwa [add_block] at this | exact this) GW724.out)) | (dsimp only; exact Nat.ne_of_lt (Nat.lt_of_lt_of_le (by have := World.block_lt_of_cell? _ _ hw716_0; first | rwa [add_block] at this | exact this) GW724.out))) _).trans (((cell_far (p := ⟨gb724, _, none⟩) (by first | exact Nat.ne_of_lt (Nat.lt_of_lt_of_le (by have := World.block_lt_of_cell? _ _ hw716_0; first | rwa [add_block] at this | exact this) GW724.out) | (rw [add_block]; exact Nat.ne_of_lt (Nat.lt_of_lt_of_le (by have := World.block_lt_of_cell? _ _ hw716_0; first | rwa [add_block] at this | exact this) GW724.out)) | (show (Addr.add _ _).block ≠ _; rw [add_block]; exact Nat.ne_of_lt (Nat.lt_of_lt_of_le (by have := World.block_lt_of_cell? _ _ hw716_0; first | rwa [add_block] at this | exact this) GW724.out)) | (dsimp only; exact Nat.ne_of_lt (Nat.lt_of_lt_of_le (by have := World.block_lt_of_cell? _ _ hw716_0; first | rwa [add_block] at this | exact this) GW724.out))) _).trans (((cell_far (p := ⟨gb724, _, none⟩) (by first | exact Nat.ne_of_lt (Nat.lt_of_lt_of_le (by have := World.block_lt_of_cell? _ _ hw716_0; first | rwa [add_block] at this | exact this) GW724.out) | (rw [add_block]; exact Nat.ne_of_lt (Nat.lt_of_lt_of_le (by have := World.block_lt_of_cell? _ _ hw716_0; first | rwa [add_block] at this | exact this) GW724.out)) | (show (Addr.add _ _).block ≠ _; rw [add_block]; exact Nat.ne_of_lt (Nat.lt_of_lt_of_le (by have := World.block_lt_of_cell? _ _ hw716_0; first | rwa [add_block] at this | exact this) GW724.out)) | (dsimp only; exact Nat.ne_of_lt (Nat.lt_of_lt_of_le (by have := World.block_lt_of_cell? _ _ hw716_0; first | rwa [add_block] at this | exact this) GW724.out))) _).trans (((cell_far (p := ⟨gb724, _, none⟩) (by first | exact Nat.ne_of_lt (Nat.lt_of_lt_of_le (by have := World.block_lt_of_cell? _ _ hw716_0; first | rwa [add_block] at this | exact this) GW724.out) | (rw [add_block]; exact Nat.ne_of_lt (Nat.lt_of_lt_of_le (by have := World.block_lt_of_cell? _ _ hw716_0; first | rwa [add_block] at this | exact this) GW724.out)) | (show (Addr.add _ _).block ≠ _; rw [add_block]; exact Nat.ne_of_lt (Nat.lt_of_lt_of_le (by have := World.block_lt_of_cell? _ _ hw716_0; first | rwa [add_block] at this | exact this) GW724.out)) | (dsimp only; exact Nat.ne_of_lt (Nat.lt_of_lt_of_le (by have := World.block_lt_of_cell? _ _ hw716_0; first | rwa [add_block] at this | exact this) GW724.out))) _).trans (hHeld.2.2.2.2.2.2))))))))))))⟩ (fun hHeld => ?_)
        clear hK K
        refine pure_ (i := 14) (N := some 14) (v := ?_) (a' := ?_) #[true, true, true, true, true, true, true, true, true, true, true, true, true, true, true] rfl rfl (any_of HT_.out (by kernel_rfl)) (fun _ _ _ h => h) (Or.inl ⟨by rfl, ?_⟩) ?_ ?_
        rotate_left
        ·intro w'
         go_simp
         with_reducible rfl
        rotate_left
        ·simp only [Act.put, List.setIfInBounds_toArray, List.set_cons_zero, List.set_cons_succ, i64_w, i32_w]
         rfl
        refine done_ (done_of HT_.out (by kernel_rfl)) ?_
        go_upto_region 13 with (fail)
        go_cut [81] (fun v81 wc => ∃ (kq : Nat) (x81_32 : Bool), v81 = .bool x81_32 ∧ Aside0 (spigotlaw03_BucketBound.j2 kq a1 l2 l3 x11_2 x12_2 t723 x81_32 a0_0 a0_1 a0_2 t717 t718 t719 t720 t721 t722 = some r) ∧ Aside0 (kq ≤ k2) ∧ Aside0 (wc.heap[gb703]? = some (.cells #[.int .i64 a0_0, .int .i64 a0_1, .int .i64 a0_2] 23 (0, 0))) ∧ Aside0 (wc.heap[gb713]? = some (.cells #[.int .i64 x714000_2, .int .i64 x714001_2, .int .i64 x714002_2, .int .i64 x714003_2, .int .i64 x714004_2, .int .u64 x714005_2] 26 (0, 0))) ∧ Aside0 (wc.heap[gb724]? = some (.cells #[.int .i64 t717, .int .i64 t718, .int .i64 t719, .int .i64 t720, .int .i64 t721, .int .u64 t722] 26 (0, 0))) ∧ Aside0 (Below w.heap.size w wc))
        case first =>
         have H := HC33.out
         clear HC33
         by_cases c45 : t723 = 0
         ·rw [if_pos c45] at H
          have c45b0 : (t723 == 0) = true := beq_iff_eq.mpr c45
          have c45b1 : (t723 != 0) = false := bne_eq_false_iff_eq.mpr c45
          clear c45
          (first | rw [c45b0] | (simp only [i64_w, i32_w]; rw [c45b0]) | skip)
          by_cases c46 : x12_2 < (l3.length : Int)
          rotate_left
          ·rw [if_neg c46] at H; exact absurd H (by simp)
          rw [if_pos c46] at H
          have c46b0 : decide (x12_2 < (l3.length : Int)) = true := decide_eq_true c46
          clear c46
          have H' := Aside0.mk H
          clear H
          have p725 : 0 ≤ (x12_2 : Int) := of_decide_eq_true (by first | (with_reducible assumption) | assumption)
          have q725 : x12_2 < (l3.length : Int) := of_decide_eq_true (by first | (with_reducible assumption) | assumption)
          obtain ⟨ad725, e725, hx725_0⟩ := Kd.at_int HR3.out x12_2 p725 q725
          cases e725
          have hn725_0 : ad725.block ≠ gb724 := Nat.ne_of_lt (Nat.lt_of_lt_of_le (by have := World.block_lt_of_cell? _ _ hx725_0; first | rwa [add_block] at this | exact this) GW724.out)
          have hn725_1 : ad725.block ≠ gb724 := Nat.ne_of_lt (Nat.lt_of_lt_of_le (by have := World.block_lt_of_cell? _ _ hx725_0; first | rwa [add_block] at this | exact this) GW724.out)
          have hn725_2 : ad725.block ≠ gb724 := Nat.ne_of_lt (Nat.lt_of_lt_of_le (by have := World.block_lt_of_cell? _ _ hx725_0; first | rwa [add_block] at this | exact this) GW724.out)
          have hn725_3 : ad725.block ≠ gb724 := Nat.ne_of_lt (Nat.lt_of_lt_of_le (by have := World.block_lt_of_cell? _ _ hx725_0; first | rwa [add_block] at this | exact this) GW724.out)
          have hn725_4 : ad725.block ≠ gb724 := Nat.ne_of_lt (Nat.lt_of_lt_of_le (by have := World.block_lt_of_cell? _ _ hx725_0; first | rwa [add_block] at this | exact this) GW724.out)
          have hn725_5 : ad725.block ≠ gb724 := Nat.ne_of_lt (Nat.lt_of_lt_of_le (by have := World.block_lt_of_cell? _ _ hx725_0; first | rwa [add_block] at this | exact this) GW724.out)
          replace hx725_0 := (HB.out.cell (World.block_lt_of_cell? w _ hx725_0)).trans hx725_0
          replace hx725_0 := (cell_far (p := ⟨gb724, 0, none⟩) (by first | (rw [add_block]; exact hn725_0) | (show (Addr.add _ _).block ≠ _; rw [add_block]; exact hn725_0) | exact hn725_0) (.int .i64 t717)).trans hx725_0
          replace hx725_0 := (cell_far (p := ⟨gb724, 1, none⟩) (by first | (rw [add_block]; exact hn725_1) | (show (Addr.add _ _).block ≠ _; rw [add_block]; exact hn725_1) | exact hn725_1) (.int .i64 t718)).trans hx725_0
          replace hx725_0 := (cell_far (p := ⟨gb724, 2, none⟩) (by first | (rw [add_block]; exact hn725_2) | (show (Addr.add _ _).block ≠ _; rw [add_block]; exact hn725_2) | exact hn725_2) (.int .i64 t719)).trans hx725_0
          replace hx725_0 := (cell_far (p := ⟨gb724, 3, none⟩) (by first | (rw [add_block]; exact hn725_3) | (show (Addr.add _ _).block ≠ _; rw [add_block]; exact hn725_3) | exact hn725_3) (.int .i64 t720)).trans hx725_0
          replace hx725_0 := (cell_far (p := ⟨gb724, 4, none⟩) (by first | (rw [add_block]; exact hn725_4) | (show (Addr.add _ _).block ≠ _; rw [add_block]; exact hn725_4) | exact hn725_4) (.int .i64 t721)).trans hx725_0
          replace hx725_0 := (cell_far (p := ⟨gb724, 5, none⟩) (by first | (rw [add_block]; exact hn725_5) | (show (Addr.add _ _).block ≠ _; rw [add_block]; exact hn725_5) | exact hn725_5) (.int .u64 t722)).trans hx725_0
          clear hn725_0
          clear hn725_1
          clear hn725_2
          clear hn725_3
          clear hn725_4
          clear hn725_5
          replace p725 := eq_true p725
          replace q725 := eq_true q725
          go_wp2
          go_meet
          case rel => exact ⟨_, (decide ((rd l3 x12_2) < 0)), (by first | rfl | (simp; done) | (simp [*]; done)), H', ⟨by have := HJ4.out; have := HK2.out; first | omega | exact Nat.le_refl _⟩, ⟨(blk_far (blk_far (blk_far (blk_far (blk_far (blk_far (bq_ BK703) NB703_724.out _) NB703_724.out _) NB703_724.out _) NB703_724.out _) NB703_724.out _) NB703_724.out _)⟩, ⟨(blk_far (blk_far (blk_far (blk_far (blk_far (blk_far (bq_ BK713) NB713_724.out _) NB713_724.out _) NB713_724.out _) NB713_724.out _) NB713_724.out _) NB713_724.out _)⟩, ⟨(blk_put (cs := #[.int .i64 t717, .int .i64 t718, .int .i64 t719, .int .i64 t720, .int .i64 t721, .int .u64 0]) (blk_put (cs := #[.int .i64 t717, .int .i64 t718, .int .i64 t719, .int .i64 t720, .int .i64 0, .int .u64 0]) (blk_put (cs := #[.int .i64 t717, .int .i64 t718, .int .i64 t719, .int .i64 0, .int .i64 0, .int .u64 0]) (blk_put (cs := #[.int .i64 t717, .int .i64 t718, .int .i64 0, .int .i64 0, .int .i64 0, .int .u64 0]) (blk_put (cs := #[.int .i64 t717, .int .i64 0, .int .i64 0, .int .i64 0, .int .i64 0, .int .u64 0]) (blk_put (cs := #[.int .i64 0, .int .i64 0, .int .i64 0, .int .i64 0, .int .i64 0, .int .u64 0]) (bq_ BK724) 0 _ rfl) 1 _ rfl) 2 _ rfl) 3 _ rfl) 4 _ rfl) 5 _ rfl)⟩, ⟨by repeat (first | (with_reducible first | exact HB.out | apply below_alloc | apply pw_below_drewN | apply below_drew1 | refine below_set ?_ GE703.out | refine below_set ?_ GE713.out | refine below_set ?_ GE724.out) | exact HB.out)⟩⟩
         ·rw [if_neg c45] at H
          have c45b0 : (t723 == 0) = false := beq_eq_false_iff_ne.mpr c45
          have c45b1 : (t723 != 0) = true := bne_iff_ne.mpr c45
          (first | rw [c45b0] | (simp only [i64_w, i32_w]; rw [c45b0]) | skip)
          have H' := Aside0.mk H
          clear H
          go_wp2
          go_meet
          case rel => exact ⟨_, (true), (by first | rfl | (simp; done) | (simp [*]; done)), H', ⟨by have := HJ4.out; have := HK2.out; first | omega | exact Nat.le_refl _⟩, ⟨(blk_far (blk_far (blk_far (blk_far (blk_far (blk_far (bq_ BK703) NB703_724.out _) NB703_724.out _) NB703_724.out _) NB703_724.out _) NB703_724.out _) NB703_724.out _)⟩, ⟨(blk_far (blk_far (blk_far (blk_far (blk_far (blk_far (bq_ BK713) NB713_724.out _) NB713_724.out _) NB713_724.out _) NB713_724.out _) NB713_724.out _) NB713_724.out _)⟩, ⟨(blk_put (cs := #[.int .i64 t717, .int .i64 t718, .int .i64 t719, .int .i64 t720, .int .i64 t721, .int .u64 0]) (blk_put (cs := #[.int .i64 t717, .int .i64 t718, .int .i64 t719, .int .i64 t720, .int .i64 0, .int .u64 0]) (blk_put (cs := #[.int .i64 t717, .int .i64 t718, .int .i64 t719, .int .i64 0, .int .i64 0, .int .u64 0]) (blk_put (cs := #[.int .i64 t717, .int .i64 t718, .int .i64 0, .int .i64 0, .int .i64 0, .int .u64 0]) (blk_put (cs := #[.int .i64 t717, .int .i64 0, .int .i64 0, .int .i64 0, .int .i64 0, .int .u64 0]) (blk_put (cs := #[.int .i64 0, .int .i64 0, .int .i64 0, .int .i64 0, .int .i64 0, .int .u64 0]) (bq_ BK724) 0 _ rfl) 1 _ rfl) 2 _ rfl) 3 _ rfl) 4 _ rfl) 5 _ rfl)⟩, ⟨by repeat (first | (with_reducible first | exact HB.out | apply below_alloc | apply pw_below_drewN | apply below_drew1 | refine below_set ?_ GE703.out | refine below_set ?_ GE713.out | refine below_set ?_ GE724.out) | exact HB.out)⟩⟩
        case rest =>
         clear HC33
         try clear c1
         try clear c2
         try clear p2
         try clear c4
         try clear p7
         try clear q7
         try clear hx7
         try clear c12
         try clear c27
         try clear c28
         try clear c28b0
         try clear c45
         try clear c45b0
         try clear c45b1
         try clear c46
         try clear c46b0
         try clear hx714_0
         try clear hx716_0
         try clear hx725_0
         try clear p714
         try clear p716
         try clear p725
         try clear q714
         try clear q716
         try clear q725
         obtain ⟨kq, x81_32, rfl, HA, HJ32, BK703, BK713, BK724, HB⟩ := hcut
         cases kq with
         | zero => exact absurd HA.out (by simp [spigotlaw03_BucketBound.j2])
         | succ kj32 =>
          have H := HA.out
          clear HA
          simp only [spigotlaw03_BucketBound.j2] at H
          by_cases c47 : x81_32 = true
          ·subst c47
           have H1 : (if t723 = 0 then ((spigotlaw03_alive.f kj32).bind fun t726 => (some t726)) else (none)) = some r := by rw [if_pos rfl] at H; exact H
           clear H
           have H := H1
           clear H1
           by_cases c48 : t723 = 0
           rotate_left
           ·rw [if_neg c48] at H; exact absurd H (by simp)
           rw [if_pos c48] at H
           have c48b0 : (t723 == 0) = true := beq_iff_eq.mpr c48
           have c48b1 : (t723 != 0) = false := bne_eq_false_iff_eq.mpr c48
           clear c48
           replace H := Option.bind_eq_some_iff.mp H
           obtain ⟨t726, A490, H⟩ := H
           replace H : (some t726) = some r := H
           have A49 := Aside0.mk A490
           clear A490
           obtain rfl := Option.some.inj H
           go_wp2_with (first | (go_at_call 27; (with_reducible refine (spigotlaw03_alive.calls kj32  t726 _ A49.out).mono ?_); rintro e w50 ⟨rfl, hb⟩; replace BK703 := bb_ BK703 hb; replace BK713 := bb_ BK713 hb; replace BK724 := bb_ BK724 hb; replace HB := bs_ w hb; (try clear hb); (try clear hb2); (try clear hk); (try clear hi)))
           go_ret
           exact ⟨by first | rfl | (simp [errW_none, errW_some] <;> rfl) | (simp [*, errW_none, errW_some] <;> rfl), by repeat (first | (with_reducible first | exact HB.out | apply below_alloc | apply pw_below_drewN | apply below_drew1 | refine below_set ?_ GE703.out | refine below_set ?_ GE713.out | refine below_set ?_ GE724.out) | exact HB.out)⟩
          ·replace c47 := Bool.eq_false_iff.mpr c47
           subst c47
           have H1 : (if 0 ≤ x12_2 then (if x12_2 < (l3.length : Int) then ((bucket_Charge.f t717 t718 t719 t720 t721 t722 (rd l3 x12_2)).bind fun bt728 => (if bt728.2.2.2.2.2.2 = 0 then (spigotlaw03_BucketBound.l0 kj32 a1 l2 l3 (IntKind.u64.wrap (x11_2 + (IntKind.u64.wrap (rd l3 x12_2)))) (wrap64 (x12_2 + 1)) a0_0 a0_1 a0_2 bt728.1 bt728.2.1 bt728.2.2.1 bt728.2.2.2.1 bt728.2.2.2.2.1 bt728.2.2.2.2.2.1) else (if bt728.2.2.2.2.2.2 = 20 then (if t720 ≥ (rd l3 x12_2) then (none) else (spigotlaw03_BucketBound.l0 kj32 a1 l2 l3 x11_2 (wrap64 (x12_2 + 1)) a0_0 a0_1 a0_2 t717 t718 t719 t720 t721 t722)) else (none)))) else (none)) else (none)) = some r := by rw [if_neg (show ¬ (false = true) by decide)] at H; exact H
           clear H
           have H := H1
           clear H1
           by_cases c51 : 0 ≤ x12_2
           rotate_left
           ·rw [if_neg c51] at H; exact absurd H (by simp)
           rw [if_pos c51] at H
           have c51b0 : decide (0 ≤ x12_2) = true := decide_eq_true c51
           clear c51
           by_cases c52 : x12_2 < (l3.length : Int)
           rotate_left
           ·rw [if_neg c52] at H; exact absurd H (by simp)
           rw [if_pos c52] at H
           have c52b0 : decide (x12_2 < (l3.length : Int)) = true := decide_eq_true c52
           clear c52
           replace H := Option.bind_eq_some_iff.mp H
           obtain ⟨⟨t728, t729, t730, t731, t732, t733, t734⟩, A530, H⟩ := H
           try dsimp only at H
           have A53 := Aside0.mk A530
           clear A530
           by_cases c54 : t734 = 0
           ·rw [if_pos c54] at H
            have c54b0 : (t734 == 0) = true := beq_iff_eq.mpr c54
            have c54b1 : (t734 != 0) = false := bne_eq_false_iff_eq.mpr c54
            clear c54
            have H' := Aside0.mk H
            clear H
            have hnb55 := NB724_703.out
            have hnc55 := NB703_724.out
            have hnb56 := NB724_713.out
            have hnc56 := NB713_724.out
            have hcz57_0 : wc.cell? ⟨gb724, 0, none⟩ = some (.int .i64 t717) := (blk_cell BK724.out 0).trans rfl
            have hcz57_1 : wc.cell? ⟨gb724, 1, none⟩ = some (.int .i64 t718) := (blk_cell BK724.out 1).trans rfl
            have hcz57_2 : wc.cell? ⟨gb724, 2, none⟩ = some (.int .i64 t719) := (blk_cell BK724.out 2).trans rfl
            have hcz57_3 : wc.cell? ⟨gb724, 3, none⟩ = some (.int .i64 t720) := (blk_cell BK724.out 3).trans rfl
            have hcz57_4 : wc.cell? ⟨gb724, 4, none⟩ = some (.int .i64 t721) := (blk_cell BK724.out 4).trans rfl
            have hcz57_5 : wc.cell? ⟨gb724, 5, none⟩ = some (.int .u64 t722) := (blk_cell BK724.out 5).trans rfl
            have hfz57_0 := blk_frozen BK724.out 0
            have hfz57_1 := blk_frozen BK724.out 1
            have hfz57_2 := blk_frozen BK724.out 2
            have hfz57_3 := blk_frozen BK724.out 3
            have hfz57_4 := blk_frozen BK724.out 4
            have hfz57_5 := blk_frozen BK724.out 5
            have hnb58 := NB713_703.out
            have hnc58 := NB703_713.out
            have hcz59_0 : wc.cell? ⟨gb713, 0, none⟩ = some (.int .i64 x714000_2) := (blk_cell BK713.out 0).trans rfl
            have hcz59_1 : wc.cell? ⟨gb713, 1, none⟩ = some (.int .i64 x714001_2) := (blk_cell BK713.out 1).trans rfl
            have hcz59_2 : wc.cell? ⟨gb713, 2, none⟩ = some (.int .i64 x714002_2) := (blk_cell BK713.out 2).trans rfl
            have hcz59_3 : wc.cell? ⟨gb713, 3, none⟩ = some (.int .i64 x714003_2) := (blk_cell BK713.out 3).trans rfl
            have hcz59_4 : wc.cell? ⟨gb713, 4, none⟩ = some (.int .i64 x714004_2) := (blk_cell BK713.out 4).trans rfl
            have hcz59_5 : wc.cell? ⟨gb713, 5, none⟩ = some (.int .u64 x714005_2) := (blk_cell BK713.out 5).trans rfl
            have hfz59_0 := blk_frozen BK713.out 0
            have hfz59_1 := blk_frozen BK713.out 1
            have hfz59_2 := blk_frozen BK713.out 2
            have hfz59_3 := blk_frozen BK713.out 3
            have hfz59_4 := blk_frozen BK713.out 4
            have hfz59_5 := blk_frozen BK713.out 5
            try go_wp2
            have n0_ : Aside0 (((((((wc.setCell ⟨gb713, 0, none⟩ (.int .i64 t717)).setCell ⟨gb713, 1, none⟩ (.int .i64 t718)).setCell ⟨gb713, 2, none⟩ (.int .i64 t719)).setCell ⟨gb713, 3, none⟩ (.int .i64 t720)).setCell ⟨gb713, 4, none⟩ (.int .i64 t721)).setCell ⟨gb713, 5, none⟩ (.int .u64 t722)).heap[gb703]? = some (.cells #[.int .i64 a0_0, .int .i64 a0_1, .int .i64 a0_2] 23 (0, 0))) := ⟨(blk_far (blk_far (blk_far (blk_far (blk_far (blk_far (bq_ BK703) NB703_713.out _) NB703_713.out _) NB703_713.out _) NB703_713.out _) NB703_713.out _) NB703_713.out _)⟩
            have n1_ : Aside0 (((((((wc.setCell ⟨gb713, 0, none⟩ (.int .i64 t717)).setCell ⟨gb713, 1, none⟩ (.int .i64 t718)).setCell ⟨gb713, 2, none⟩ (.int .i64 t719)).setCell ⟨gb713, 3, none⟩ (.int .i64 t720)).setCell ⟨gb713, 4, none⟩ (.int .i64 t721)).setCell ⟨gb713, 5, none⟩ (.int .u64 t722)).heap[gb713]? = some (.cells #[.int .i64 t717, .int .i64 t718, .int .i64 t719, .int .i64 t720, .int .i64 t721, .int .u64 t722] 26 (0, 0))) := ⟨(blk_put (cs := #[.int .i64 t717, .int .i64 t718, .int .i64 t719, .int .i64 t720, .int .i64 t721, .int .u64 x714005_2]) (blk_put (cs := #[.int .i64 t717, .int .i64 t718, .int .i64 t719, .int .i64 t720, .int .i64 x714004_2, .int .u64 x714005_2]) (blk_put (cs := #[.int .i64 t717, .int .i64 t718, .int .i64 t719, .int .i64 x714003_2, .int .i64 x714004_2, .int .u64 x714005_2]) (blk_put (cs := #[.int .i64 t717, .int .i64 t718, .int .i64 x714002_2, .int .i64 x714003_2, .int .i64 x714004_2, .int .u64 x714005_2]) (blk_put (cs := #[.int .i64 t717, .int .i64 x714001_2, .int .i64 x714002_2, .int .i64 x714003_2, .int .i64 x714004_2, .int .u64 x714005_2]) (blk_put (cs := #[.int .i64 x714000_2, .int .i64 x714001_2, .int .i64 x714002_2, .int .i64 x714003_2, .int .i64 x714004_2, .int .u64 x714005_2]) (bq_ BK713) 0 _ rfl) 1 _ rfl) 2 _ rfl) 3 _ rfl) 4 _ rfl) 5 _ rfl)⟩
            have n2_ : Aside0 (((((((wc.setCell ⟨gb713, 0, none⟩ (.int .i64 t717)).setCell ⟨gb713, 1, none⟩ (.int .i64 t718)).setCell ⟨gb713, 2, none⟩ (.int .i64 t719)).setCell ⟨gb713, 3, none⟩ (.int .i64 t720)).setCell ⟨gb713, 4, none⟩ (.int .i64 t721)).setCell ⟨gb713, 5, none⟩ (.int .u64 t722)).heap[gb724]? = some (.cells #[.int .i64 t717, .int .i64 t718, .int .i64 t719, .int .i64 t720, .int .i64 t721, .int .u64 t722] 26 (0, 0))) := ⟨(blk_far (blk_far (blk_far (blk_far (blk_far (blk_far (bq_ BK724) NB724_713.out _) NB724_713.out _) NB724_713.out _) NB724_713.out _) NB724_713.out _) NB724_713.out _)⟩
            have n3_ : Aside0 (Below w.heap.size w ((((((wc.setCell ⟨gb713, 0, none⟩ (.int .i64 t717)).setCell ⟨gb713, 1, none⟩ (.int .i64 t718)).setCell ⟨gb713, 2, none⟩ (.int .i64 t719)).setCell ⟨gb713, 3, none⟩ (.int .i64 t720)).setCell ⟨gb713, 4, none⟩ (.int .i64 t721)).setCell ⟨gb713, 5, none⟩ (.int .u64 t722))) := ⟨by repeat (first | (with_reducible first | exact HB.out | apply below_alloc | apply pw_below_drewN | apply below_drew1 | refine below_set ?_ GE703.out | refine below_set ?_ GE713.out | refine below_set ?_ GE724.out) | exact HB.out)⟩
            (try clear BK703)
            (try clear BK713)
            (try clear BK724)
            (try clear HB)
            generalize ((((((wc.setCell ⟨gb713, 0, none⟩ (.int .i64 t717)).setCell ⟨gb713, 1, none⟩ (.int .i64 t718)).setCell ⟨gb713, 2, none⟩ (.int .i64 t719)).setCell ⟨gb713, 3, none⟩ (.int .i64 t720)).setCell ⟨gb713, 4, none⟩ (.int .i64 t721)).setCell ⟨gb713, 5, none⟩ (.int .u64 t722)) = w60 at n0_ n1_ n2_ n3_ ⊢
            have BK703 := n0_
            have BK713 := n1_
            have BK724 := n2_
            have HB := n3_
            clear n0_ n1_ n2_ n3_
            replace BK703 := Aside0.mk (blk_drew BK703.out)
            replace BK713 := Aside0.mk (blk_drew BK713.out)
            replace BK724 := Aside0.mk (blk_drew BK724.out)
            replace HB := Aside0.mk (below_drew1 HB.out)
            have p727 : 0 ≤ (x12_2 : Int) := of_decide_eq_true (by first | (with_reducible assumption) | assumption)
            have q727 : x12_2 < (l3.length : Int) := of_decide_eq_true (by first | (with_reducible assumption) | assumption)
            obtain ⟨ad727, e727, hx727_0⟩ := Kd.at_int HR3.out x12_2 p727 q727
            have hw727_0 := hx727_0
            cases e727
            replace hx727_0 := (HB.out.cell (World.block_lt_of_cell? w _ hx727_0)).trans hx727_0
            replace p727 := eq_true p727
            replace q727 := eq_true q727
            refine start_ (n := 12) (S := fun w' => w'.cell? ⟨gb713, 0, none⟩ = some (.int .i64 t717) ∧ w'.cell? ⟨gb713, 1, none⟩ = some (.int .i64 t718) ∧ w'.cell? ⟨gb713, 2, none⟩ = some (.int .i64 t719) ∧ w'.cell? ⟨gb713, 3, none⟩ = some (.int .i64 t720) ∧ w'.cell? ⟨gb713, 4, none⟩ = some (.int .i64 t721) ∧ w'.cell? ⟨gb713, 5, none⟩ = some (.int .u64 t722) ∧ w'.cell? (ad727.add (x12_2).toNat) = some (.int .i64 (rd l3 x12_2))) (ds := []) #[false, false, false, false, false, false, false, false, false, false, false, false] (by kernel_rfl) rfl rfl ⟨(blk_cell BK713.out 0).trans rfl, (blk_cell BK713.out 1).trans rfl, (blk_cell BK713.out 2).trans rfl, (blk_cell BK713.out 3).trans rfl, (blk_cell BK713.out 4).trans rfl, (blk_cell BK713.out 5).trans rfl, ((HB.out.cell (World.block_lt_of_cell? w _ hw727_0)).trans hw727_0)⟩ (fun hHeld => ?_); refine with_tabW spigotlaw03_BucketBound.tab16 spigotlaw03_BucketBound.bits16 (fun HT_ HW_ => ?_)
            generalize w60.drew = w61 at BK703 BK713 BK724 HB hx727_0 hHeld ⊢
            refine pure_ (i := 1) (N := some 90) (v := ?_) (a' := ?_) #[false, true, false, false, false, false, false, false, false, false, false, false] rfl rfl (any_of HT_.out (by kernel_rfl)) (fun _ _ _ h => h) (Or.inl ⟨by rfl, ?_⟩) ?_ ?_
            rotate_left
            ·intro w'
             go_simp
             with_reducible rfl
            rotate_left
            ·simp only [Act.put, List.setIfInBounds_toArray, List.set_cons_zero, List.set_cons_succ, i64_w, i32_w]
             rfl
            refine pure_ (i := 2) (N := some 91) (v := ?_) (a' := ?_) #[false, true, true, false, false, false, false, false, false, false, false, false] rfl rfl (any_of HT_.out (by kernel_rfl)) (fun _ _ _ h => h) (Or.inl ⟨by rfl, ?_⟩) ?_ ?_
            rotate_left
            ·intro w'
             go_simp
             with_reducible rfl
            rotate_left
            ·simp only [Act.put, List.setIfInBounds_toArray, List.set_cons_zero, List.set_cons_succ, i64_w, i32_w]
             rfl
            refine pure_ (i := 3) (N := some 92) (v := ?_) (a' := ?_) #[false, true, true, true, false, false, false, false, false, false, false, false] rfl rfl (any_of HT_.out (by kernel_rfl)) (fun _ _ _ h => h) (Or.inl ⟨by rfl, ?_⟩) ?_ ?_
            rotate_left
            ·intro w'
             go_simp
             with_reducible rfl
            rotate_left
            ·simp only [Act.put, List.setIfInBounds_toArray, List.set_cons_zero, List.set_cons_succ, i64_w, i32_w]
             rfl
            refine take_ (i := 0) (N := some 89) (v := ?_) (a' := ?_) #[true, true, true, true, false, false, false, false, false, false, false, false] rfl rfl (take_ofW HT_.out HW_.out (by kernel_rfl)) (fun _ _ _ h => h) (Or.inl ⟨by rfl, ?_⟩) hHeld ?_ ?_
            rotate_left
            ·rintro w' ⟨s0, s1, s2, s3, s4, s5, s6⟩
             go_simp
             with_reducible rfl
            rotate_left
            ·simp only [Act.put, List.setIfInBounds_toArray, List.set_cons_zero, List.set_cons_succ, i64_w, i32_w]
             rfl
            refine take_ (i := 4) (N := some 93) (v := ?_) (a' := ?_) #[true, true, true, true, true, false, false, false, false, false, false, false] rfl rfl (take_ofW HT_.out HW_.out (by kernel_rfl)) (fun _ _ _ h => h) (Or.inl ⟨by rfl, ?_⟩) hHeld ?_ ?_
            rotate_left
            ·rintro w' ⟨s0, s1, s2, s3, s4, s5, s6⟩
             go_simp
             with_reducible rfl
            rotate_left
            ·simp only [Act.put, List.setIfInBounds_toArray, List.set_cons_zero, List.set_cons_succ, i64_w, i32_w]
             rfl
            refine join_ (σ := Nat) 2 #[true, true, true, true, true, true, true, true, true, true, false, false] (fun s_ => [(94, .tuple #[.agg #[.int .i64 t728, .int .i64 t729, .int .i64 t730, .int .i64 t731, .int .i64 t732, .int .u64 t733], .int .i64 t734]), (15, .pointer (some ⟨s_, 0, none⟩)), (88, .tuple #[.agg #[.int .i64 t728, .int .i64 t729, .int .i64 t730, .int .i64 t731, .int .i64 t732, .int .u64 t733], .int .i64 t734]), (95, .agg #[.int .i64 t728, .int .i64 t729, .int .i64 t730, .int .i64 t731, .int .i64 t732, .int .u64 t733]), (96, .int .i64 t734)]) (fun s_ w' => (w'.cell? ⟨gb713, 0, none⟩ = some (.int .i64 t717) ∧ w'.cell? ⟨gb713, 1, none⟩ = some (.int .i64 t718) ∧ w'.cell? ⟨gb713, 2, none⟩ = some (.int .i64 t719) ∧ w'.cell? ⟨gb713, 3, none⟩ = some (.int .i64 t720) ∧ w'.cell? ⟨gb713, 4, none⟩ = some (.int .i64 t721) ∧ w'.cell? ⟨gb713, 5, none⟩ = some (.int .u64 t722) ∧ w'.cell? (ad727.add (x12_2).toNat) = some (.int .i64 (rd l3 x12_2))) ∧ (w'.heap[gb703]? = some (.cells #[.int .i64 a0_0, .int .i64 a0_1, .int .i64 a0_2] 23 (0, 0))) ∧ (w'.heap[gb713]? = some (.cells #[.int .i64 t717, .int .i64 t718, .int .i64 t719, .int .i64 t720, .int .i64 t721, .int .u64 t722] 26 (0, 0))) ∧ (w'.heap[gb724]? = some (.cells #[.int .i64 t717, .int .i64 t718, .int .i64 t719, .int .i64 t720, .int .i64 t721, .int .u64 t722] 26 (0, 0))) ∧ (w'.heap[s_]? = some (.cells #[.int .i64 0, .int .i64 0, .int .i64 0, .int .i64 0, .int .i64 0, .int .u64 0] 26 (0, 0))) ∧ (w.heap.size ≤ s_) ∧ (w.heap.size ≤ s_) ∧ (gb703 ≠ s_) ∧ (s_ ≠ gb703) ∧ (gb713 ≠ s_) ∧ (s_ ≠ gb713) ∧ (gb724 ≠ s_) ∧ (s_ ≠ gb724) ∧ (Below w.heap.size w w')) ?_ ?_
            rotate_left
            ·intro hCont
             refine two_ (i := 5) (j := 9) (Ni := some 94) (Nj := some 15) #[true, true, true, true, true, true, false, false, false, false, false, false] #[true, true, true, true, true, false, false, false, false, true, false, false] rfl rfl rfl rfl (two_of HT_.out (by kernel_rfl)) (by decide) (by decide) (fun K hK => ?_) (fun K hK => ?_)
             ·skip
              refine goes_ Try.func18 (by kernel_rfl) rfl #[.agg #[.int .i64 t717, .int .i64 t718, .int .i64 t719, .int .i64 t720, .int .i64 t721, .int .u64 t722], .int .i64 (rd l3 x12_2)] (by rfl) rfl rfl (by (try simp only [List.map_toArray, List.map_cons, List.map_nil]); first | done | rfl | (simp only [List.length_drop, List.length_take]; rfl)) ?_
              with_reducible refine (bucket_Charge.calls t717 t718 t719 t720 t721 t722 (rd l3 x12_2) t728 t729 t730 t731 t732 t733 t734 _ A53.out).mono ?_
              rintro e w62 ⟨rfl, hb⟩
              refine ⟨_, rfl, ?_⟩
              replace BK703 := bb_ BK703 hb
              replace BK713 := bb_ BK713 hb
              replace BK724 := bb_ BK724 hb
              replace HB := bs_ w hb
              (try clear hb)
              (try clear hb2)
              (try clear hk)
              (try clear hi)
              refine hK.out _ _ ⟨(blk_cell BK713.out 0).trans rfl, (blk_cell BK713.out 1).trans rfl, (blk_cell BK713.out 2).trans rfl, (blk_cell BK713.out 3).trans rfl, (blk_cell BK713.out 4).trans rfl, (blk_cell BK713.out 5).trans rfl, ((HB.out.cell (World.block_lt_of_cell? w _ hw727_0)).trans hw727_0)⟩ (fun hHeld => ?_)
              clear hK K
              refine norm_ (a' := ?_) ?_ ?_
              rotate_left
              ·show Act.put _ (some 94) _ = _
               simp only [Act.put, List.setIfInBounds_toArray, List.set_cons_zero, List.set_cons_succ, i64_w, i32_w]
               rfl
              refine pure_ (i := 6) (N := some 88) (v := ?_) (a' := ?_) #[true, true, true, true, true, true, true, false, false, false, false, false] rfl rfl (any_of HT_.out (by kernel_rfl)) (fun _ _ _ h => h) (Or.inl ⟨by rfl, ?_⟩) ?_ ?_
              rotate_left
              ·intro w'
               go_simp
               with_reducible rfl
              rotate_left
              ·simp only [Act.put, List.setIfInBounds_toArray, List.set_cons_zero, List.set_cons_succ, i64_w, i32_w]
               rfl
              refine pure_ (i := 7) (N := some 95) (v := ?_) (a' := ?_) #[true, true, true, true, true, true, true, true, false, false, false, false] rfl rfl (any_of HT_.out (by kernel_rfl)) (fun _ _ _ h => h) (Or.inl ⟨by rfl, ?_⟩) ?_ ?_
              rotate_left
              ·intro w'
               go_simp
               with_reducible rfl
              rotate_left
              ·simp only [Act.put, List.setIfInBounds_toArray, List.set_cons_zero, List.set_cons_succ, i64_w, i32_w]
               rfl
              refine pure_ (i := 8) (N := some 96) (v := ?_) (a' := ?_) #[true, true, true, true, true, true, true, true, true, false, false, false] rfl rfl (any_of HT_.out (by kernel_rfl)) (fun _ _ _ h => h) (Or.inl ⟨by rfl, ?_⟩) ?_ ?_
              rotate_left
              ·intro w'
               go_simp
               with_reducible rfl
              rotate_left
              ·simp only [Act.put, List.setIfInBounds_toArray, List.set_cons_zero, List.set_cons_succ, i64_w, i32_w]
               rfl
              refine one_ (i := 9) (N := some 15) #[true, true, true, true, true, true, true, true, true, true, false, false] rfl rfl (one_of HT_.out (by kernel_rfl)) (by decide) (fun K hK => ?_)
              refine box_step ?hg (N := 15) ?hd (cs := #[.int .i64 0, .int .i64 0, .int .i64 0, .int .i64 0, .int .i64 0, .int .u64 0]) (t := 26) ?hr ?_; (case hd => rfl); (case hg => rfl); (case hr => first | (go_simp; done) | (go_simp; rfl))
              intro gb735 hg w63 hbox hb
              have BK735 := Aside0.mk (hbox)
              have GW735 := bz_ w hg
              have GE735 := GW735
              have NB703_735 := bn_ BK703 hg
              have NB735_703 := bm_ BK703 hg
              have NB713_735 := bn_ BK713 hg
              have NB735_713 := bm_ BK713 hg
              have NB724_735 := bn_ BK724 hg
              have NB735_724 := bm_ BK724 hg
              replace BK703 := bb_ BK703 hb
              replace BK713 := bb_ BK713 hb
              replace BK724 := bb_ BK724 hb
              replace HB := bs_ w hb
              clear hb hbox hg
              refine hK.out _ _ ⟨(blk_cell BK713.out 0).trans rfl, (blk_cell BK713.out 1).trans rfl, (blk_cell BK713.out 2).trans rfl, (blk_cell BK713.out 3).trans rfl, (blk_cell BK713.out 4).trans rfl, (blk_cell BK713.out 5).trans rfl, ((HB.out.cell (World.block_lt_of_cell? w _ hw727_0)).trans hw727_0)⟩ (fun hHeld => ?_)
              clear hK K
              refine norm_ (a' := ?_) ?_ ?_
              rotate_left
              ·show Act.put _ (some 15) _ = _
               simp only [Act.put, List.setIfInBounds_toArray, List.set_cons_zero, List.set_cons_succ, i64_w, i32_w]
               rfl
              exact norm_ (by simp only [putAll, Act.put, List.setIfInBounds_toArray, List.set_cons_zero, List.set_cons_succ]) (hCont (gb735) _ ⟨hHeld, (bq_ BK703), (bq_ BK713), (bq_ BK724), (bq_ BK735), GW735.out, GE735.out, NB703_735.out, NB735_703.out, NB713_735.out, NB735_713.out, NB724_735.out, NB735_724.out, (by repeat (first | (with_reducible first | exact HB.out | apply below_alloc | apply pw_below_drewN | apply below_drew1 | refine below_set ?_ (Aside0.out (by assumption))) | exact HB.out))⟩)
             ·skip
              refine box_step ?hg (N := 15) ?hd (cs := #[.int .i64 0, .int .i64 0, .int .i64 0, .int .i64 0, .int .i64 0, .int .u64 0]) (t := 26) ?hr ?_; (case hd => rfl); (case hg => rfl); (case hr => first | (go_simp; done) | (go_simp; rfl))
              intro gb735 hg w62 hbox hb
              have BK735 := Aside0.mk (hbox)
              have GW735 := bz_ w hg
              have GE735 := GW735
              have NB703_735 := bn_ BK703 hg
              have NB735_703 := bm_ BK703 hg
              have NB713_735 := bn_ BK713 hg
              have NB735_713 := bm_ BK713 hg
              have NB724_735 := bn_ BK724 hg
              have NB735_724 := bm_ BK724 hg
              replace BK703 := bb_ BK703 hb
              replace BK713 := bb_ BK713 hb
              replace BK724 := bb_ BK724 hb
              replace HB := bs_ w hb
              clear hb hbox hg
              refine hK.out _ _ ⟨(blk_cell BK713.out 0).trans rfl, (blk_cell BK713.out 1).trans rfl, (blk_cell BK713.out 2).trans rfl, (blk_cell BK713.out 3).trans rfl, (blk_cell BK713.out 4).trans rfl, (blk_cell BK713.out 5).trans rfl, ((HB.out.cell (World.block_lt_of_cell? w _ hw727_0)).trans hw727_0)⟩ (fun hHeld => ?_)
              clear hK K
              refine norm_ (a' := ?_) ?_ ?_
              rotate_left
              ·show Act.put _ (some 15) _ = _
               simp only [Act.put, List.setIfInBounds_toArray, List.set_cons_zero, List.set_cons_succ, i64_w, i32_w]
               rfl
              refine one_ (i := 5) (N := some 94) #[true, true, true, true, true, true, false, false, false, true, false, false] rfl rfl (one_of HT_.out (by kernel_rfl)) (by decide) (fun K hK => ?_)
              refine goes_ Try.func18 (by kernel_rfl) rfl #[.agg #[.int .i64 t717, .int .i64 t718, .int .i64 t719, .int .i64 t720, .int .i64 t721, .int .u64 t722], .int .i64 (rd l3 x12_2)] (by rfl) rfl rfl (by (try simp only [List.map_toArray, List.map_cons, List.map_nil]); first | done | rfl | (simp only [List.length_drop, List.length_take]; rfl)) ?_
              with_reducible refine (bucket_Charge.calls t717 t718 t719 t720 t721 t722 (rd l3 x12_2) t728 t729 t730 t731 t732 t733 t734 _ A53.out).mono ?_
              rintro e w63 ⟨rfl, hb⟩
              refine ⟨_, rfl, ?_⟩
              replace BK703 := bb_ BK703 hb
              replace BK713 := bb_ BK713 hb
              replace BK724 := bb_ BK724 hb
              replace BK735 := bb_ BK735 hb
              replace HB := bs_ w hb
              (try clear hb)
              (try clear hb2)
              (try clear hk)
              (try clear hi)
              refine hK.out _ _ ⟨(blk_cell BK713.out 0).trans rfl, (blk_cell BK713.out 1).trans rfl, (blk_cell BK713.out 2).trans rfl, (blk_cell BK713.out 3).trans rfl, (blk_cell BK713.out 4).trans rfl, (blk_cell BK713.out 5).trans rfl, ((HB.out.cell (World.block_lt_of_cell? w _ hw727_0)).trans hw727_0)⟩ (fun hHeld => ?_)
              clear hK K
              refine norm_ (a' := ?_) ?_ ?_
              rotate_left
              ·show Act.put _ (some 94) _ = _
               simp only [Act.put, List.setIfInBounds_toArray, List.set_cons_zero, List.set_cons_succ, i64_w, i32_w]
               rfl
              refine pure_ (i := 6) (N := some 88) (v := ?_) (a' := ?_) #[true, true, true, true, true, true, true, false, false, true, false, false] rfl rfl (any_of HT_.out (by kernel_rfl)) (fun _ _ _ h => h) (Or.inl ⟨by rfl, ?_⟩) ?_ ?_
              rotate_left
              ·intro w'
               go_simp
               with_reducible rfl
              rotate_left
              ·simp only [Act.put, List.setIfInBounds_toArray, List.set_cons_zero, List.set_cons_succ, i64_w, i32_w]
               rfl
              refine pure_ (i := 7) (N := some 95) (v := ?_) (a' := ?_) #[true, true, true, true, true, true, true, true, false, true, false, false] rfl rfl (any_of HT_.out (by kernel_rfl)) (fun _ _ _ h => h) (Or.inl ⟨by rfl, ?_⟩) ?_ ?_
              rotate_left
              ·intro w'
               go_simp
               with_reducible rfl
              rotate_left
              ·simp only [Act.put, List.setIfInBounds_toArray, List.set_cons_zero, List.set_cons_succ, i64_w, i32_w]
               rfl
              refine pure_ (i := 8) (N := some 96) (v := ?_) (a' := ?_) #[true, true, true, true, true, true, true, true, true, true, false, false] rfl rfl (any_of HT_.out (by kernel_rfl)) (fun _ _ _ h => h) (Or.inl ⟨by rfl, ?_⟩) ?_ ?_
              rotate_left
              ·intro w'
               go_simp
               with_reducible rfl
              rotate_left
              ·simp only [Act.put, List.setIfInBounds_toArray, List.set_cons_zero, List.set_cons_succ, i64_w, i32_w]
               rfl
              exact norm_ (by simp only [putAll, Act.put, List.setIfInBounds_toArray, List.set_cons_zero, List.set_cons_succ]) (hCont (gb735) _ ⟨hHeld, (bq_ BK703), (bq_ BK713), (bq_ BK724), (bq_ BK735), GW735.out, GE735.out, NB703_735.out, NB735_703.out, NB713_735.out, NB735_713.out, NB724_735.out, NB735_724.out, (by repeat (first | (with_reducible first | exact HB.out | apply below_alloc | apply pw_below_drewN | apply below_drew1 | refine below_set ?_ (Aside0.out (by assumption))) | exact HB.out))⟩)
            rintro gb735 w64 ⟨hS_, h0_, h1_, h2_, h3_, h4_, h5_, h6_, h7_, h8_, h9_, h10_, h11_, h12_⟩
            have BK735 : Aside0 (w64.heap[gb735]? = some (.cells #[.int .i64 0, .int .i64 0, .int .i64 0, .int .i64 0, .int .i64 0, .int .u64 0] 26 (0, 0))) := ⟨h3_⟩
            have GW735 : Aside0 (w.heap.size ≤ gb735) := ⟨h4_⟩
            have GE735 : Aside0 (w.heap.size ≤ gb735) := ⟨h5_⟩
            have NB703_735 : Aside0 (gb703 ≠ gb735) := ⟨h6_⟩
            have NB735_703 : Aside0 (gb735 ≠ gb703) := ⟨h7_⟩
            have NB713_735 : Aside0 (gb713 ≠ gb735) := ⟨h8_⟩
            have NB735_713 : Aside0 (gb735 ≠ gb713) := ⟨h9_⟩
            have NB724_735 : Aside0 (gb724 ≠ gb735) := ⟨h10_⟩
            have NB735_724 : Aside0 (gb735 ≠ gb724) := ⟨h11_⟩
            replace BK703 : Aside0 (w64.heap[gb703]? = some (.cells #[.int .i64 a0_0, .int .i64 a0_1, .int .i64 a0_2] 23 (0, 0))) := ⟨h0_⟩
            replace BK713 : Aside0 (w64.heap[gb713]? = some (.cells #[.int .i64 t717, .int .i64 t718, .int .i64 t719, .int .i64 t720, .int .i64 t721, .int .u64 t722] 26 (0, 0))) := ⟨h1_⟩
            replace BK724 : Aside0 (w64.heap[gb724]? = some (.cells #[.int .i64 t717, .int .i64 t718, .int .i64 t719, .int .i64 t720, .int .i64 t721, .int .u64 t722] 26 (0, 0))) := ⟨h2_⟩
            replace HB : Aside0 (Below w.heap.size w w64) := ⟨h12_⟩
            clear h0_ h1_ h2_ h3_ h4_ h5_ h6_ h7_ h8_ h9_ h10_ h11_ h12_
            have hHeld : w64.cell? ⟨gb713, 0, none⟩ = some (.int .i64 t717) ∧ w64.cell? ⟨gb713, 1, none⟩ = some (.int .i64 t718) ∧ w64.cell? ⟨gb713, 2, none⟩ = some (.int .i64 t719) ∧ w64.cell? ⟨gb713, 3, none⟩ = some (.int .i64 t720) ∧ w64.cell? ⟨gb713, 4, none⟩ = some (.int .i64 t721) ∧ w64.cell? ⟨gb713, 5, none⟩ = some (.int .u64 t722) ∧ w64.cell? (ad727.add (x12_2).toNat) = some (.int .i64 (rd l3 x12_2)) := hS_
            refine norm_ (a' := ?_) ?_ ?_
            rotate_left
            ·simp only [putAll, Act.put, List.setIfInBounds_toArray, List.set_cons_zero, List.set_cons_succ]
             rfl
            refine one_ (i := 10) (N := none) #[true, true, true, true, true, true, true, true, true, true, true, false] rfl rfl (one_of HT_.out (by kernel_rfl)) (by decide) (fun K hK => ?_)
            have hs65 : w64.cell? ⟨gb735, 0, none⟩ = some (.int .i64 0) := (blk_cell BK735.out 0).trans rfl
            have hfs65 := blk_frozen BK735.out 0
            have hns65_0 := NB703_735.out
            have hns65_1 := NB713_735.out
            have hns65_2 := NB724_735.out
            have hms65_0 := NB735_703.out
            have hms65_1 := NB735_713.out
            have hms65_2 := NB735_724.out
            have hs66 : w64.cell? ⟨gb735, 1, none⟩ = some (.int .i64 0) := (blk_cell BK735.out 1).trans rfl
            have hfs66 := blk_frozen BK735.out 1
            have hns66_0 := NB703_735.out
            have hns66_1 := NB713_735.out
            have hns66_2 := NB724_735.out
            have hms66_0 := NB735_703.out
            have hms66_1 := NB735_713.out
            have hms66_2 := NB735_724.out
            have hs67 : w64.cell? ⟨gb735, 2, none⟩ = some (.int .i64 0) := (blk_cell BK735.out 2).trans rfl
            have hfs67 := blk_frozen BK735.out 2
            have hns67_0 := NB703_735.out
            have hns67_1 := NB713_735.out
            have hns67_2 := NB724_735.out
            have hms67_0 := NB735_703.out
            have hms67_1 := NB735_713.out
            have hms67_2 := NB735_724.out
            have hs68 : w64.cell? ⟨gb735, 3, none⟩ = some (.int .i64 0) := (blk_cell BK735.out 3).trans rfl
            have hfs68 := blk_frozen BK735.out 3
            have hns68_0 := NB703_735.out
            have hns68_1 := NB713_735.out
            have hns68_2 := NB724_735.out
            have hms68_0 := NB735_703.out
            have hms68_1 := NB735_713.out
            have hms68_2 := NB735_724.out
            have hs69 : w64.cell? ⟨gb735, 4, none⟩ = some (.int .i64 0) := (blk_cell BK735.out 4).trans rfl
            have hfs69 := blk_frozen BK735.out 4
            have hns69_0 := NB703_735.out
            have hns69_1 := NB713_735.out
            have hns69_2 := NB724_735.out
            have hms69_0 := NB735_703.out
            have hms69_1 := NB735_713.out
            have hms69_2 := NB735_724.out
            have hs70 : w64.cell? ⟨gb735, 5, none⟩ = some (.int .u64 0) := (blk_cell BK735.out 5).trans rfl
            have hfs70 := blk_frozen BK735.out 5
            have hns70_0 := NB703_735.out
            have hns70_1 := NB713_735.out
            have hns70_2 := NB724_735.out
            have hms70_0 := NB735_703.out
            have hms70_1 := NB735_713.out
            have hms70_2 := NB735_724.out
            refine skip_ (w1 := ?_) (by rfl) rfl ?_ ?_
            rotate_left
            ·go_simp
             rfl
            refine hK.out _ _ ⟨((cell_far (p := ⟨gb735, _, none⟩) NB713_735.out _).trans (((cell_far (p := ⟨gb735, _, none⟩) NB713_735.out _).trans (((cell_far (p := ⟨gb735, _, none⟩) NB713_735.out _).trans (((cell_far (p := ⟨gb735, _, none⟩) NB713_735.out _).trans (((cell_far (p := ⟨gb735, _, none⟩) NB713_735.out _).trans (((cell_far (p := ⟨gb735, _, none⟩) NB713_735.out _).trans (hHeld.1)))))))))))), ((cell_far (p := ⟨gb735, _, none⟩) NB713_735.out _).trans (((cell_far (p := ⟨gb735, _, none⟩) NB713_735.out _).trans (((cell_far (p := ⟨gb735, _, none⟩) NB713_735.out _).trans (((cell_far (p := ⟨gb735, _, none⟩) NB713_735.out _).trans (((cell_far (p := ⟨gb735, _, none⟩) NB713_735.out _).trans (((cell_far (p := ⟨gb735, _, none⟩) NB713_735.out _).trans (hHeld.2.1)))))))))))), ((cell_far (p := ⟨gb735, _, none⟩) NB713_735.out _).trans (((cell_far (p := ⟨gb735, _, none⟩) NB713_735.out _).trans (((cell_far (p := ⟨gb735, _, none⟩) NB713_735.out _).trans (((cell_far (p := ⟨gb735, _, none⟩) NB713_735.out _).trans (((cell_far (p := ⟨gb735, _, none⟩) NB713_735.out _).trans (((cell_far (p := ⟨gb735, _, none⟩) NB713_735.out _).trans (hHeld.2.2.1)))))))))))), ((cell_far (p := ⟨gb735, _, none⟩) NB713_735.out _).trans (((cell_far (p := ⟨gb735, _, none⟩) NB713_735.out _).trans (((cell_far (p := ⟨gb735, _, none⟩) NB713_735.out _).trans (((cell_far (p := ⟨gb735, _, none⟩) NB713_735.out _).trans (((cell_far (p := ⟨gb735, _, none⟩) NB713_735.out _).trans (((cell_far (p := ⟨gb735, _, none⟩) NB713_735.out _).trans (hHeld.2.2.2.1)))))))))))), ((cell_far (p := ⟨gb735, _, none⟩) NB713_735.out _).trans (((cell_far (p := ⟨gb735, _, none⟩) NB713_735.out _).trans (((cell_far (p := ⟨gb735, _, none⟩) NB713_735.out _).trans (((cell_far (p := ⟨gb735, _, none⟩) NB713_735.out _).trans (((cell_far (p := ⟨gb735, _, none⟩) NB713_735.out _).trans (((cell_far (p := ⟨gb735, _, none⟩) NB713_735.out _).trans (hHeld.2.2.2.2.1)))))))))))), ((cell_far (p := ⟨gb735, _, none⟩) NB713_735.out _).trans (((cell_far (p := ⟨gb735, _, none⟩) NB713_735.out _).trans (((cell_far (p := ⟨gb735, _, none⟩) NB713_735.out _).trans (((cell_far (p := ⟨gb735, _, none⟩) NB713_735.out _).trans (((cell_far (p := ⟨gb735, _, none⟩) NB713_735.out _).trans (((cell_far (p := ⟨gb735, _, none⟩) NB713_735.out _).trans (hHeld.2.2.2.2.2.1)))))))))))), ((cell_far (p := ⟨gb735, _, none⟩) (by first | exact Nat.ne_of_lt (Nat.lt_of_lt_of_le (by have := World.block_lt_of_cell? _ _ hw727_0; first | rwa [add_block] at this | exact this) GW735.out) | (rw [add_block]; exact Nat.ne_of_lt (Nat.lt_of_lt_of_le (by have := World.block_lt_of_cell? _ _ hw727_0; first | rwa [add_block] at this | exact this) GW735.out)) | (show (Addr.add _ _).block ≠ _; rw [add_block]; exact Nat.ne_of_lt (Nat.lt_of_lt_of_le (by have := World.block_lt_of_cell? _ _ hw727_0; first | rwa [add_block] at this | exact this) GW735.out)) | (dsimp only; exact Nat.ne_of_lt (Nat.lt_of_lt_of_le (by have := World.block_lt_of_cell? _ _ hw727_0; first | rwa [add_block] at this | exact this) GW735.out))) _).trans (((cell_far (p := ⟨gb735, _, none⟩) (by first | exact Nat.ne_of_lt (Nat.lt_of_lt_of_le (by have := World.block_lt_of_cell? _ _ hw727_0; first | rwa [add_block] at this | exact this) GW735.out) | (rw [add_block]; exact Nat.ne_of_lt (Nat.lt_of_lt_of_le (by have := World.block_lt_of_cell? _ _ hw727_0; first | rwa [add_block] at this | exact this) GW735.out)) | (show (Addr.add _ _).block ≠ _; rw [add_block]; exact Nat.ne_of_lt (Nat.lt_of_lt_of_le (by have := World.block_lt_of_cell? _ _ hw727_0; first | rwa [add_block] at this | exact this) GW735.out)) | (dsimp only; exact Nat.ne_of_lt (Nat.lt_of_lt_of_le (by have := World.block_lt_of_cell? _ _ hw727_0; first | rwa [add_block] at this | exact this) GW735.out))) _).trans (((cell_far (p := ⟨gb735, _, none⟩) (by first | exact Nat.ne_of_lt (Nat.lt_of_lt_of_le (by have := World.block_lt_of_cell? _ _ hw727_0; first | rwa [add_block] at this | exact this) GW735.out) | (rw [add_block]; exact Nat.ne_of_lt (Nat.lt_of_lt_of_le (by have := World.block_lt_of_cell? _ _ hw727_0; first | rwa [add_block] at this | exact this) GW735.out)) | (show (Addr.add _ _).block ≠ _; rw [add_block]; exact Nat.ne_of_lt (Nat.lt_of_lt_of_le (by have := World.block_lt_of_cell? _ _ hw727_0; first | rwa [add_block] at this | exact this) GW735.out)) | (dsimp only; exact Nat.ne_of_lt (Nat.lt_of_lt_of_le (by have := World.block_lt_of_cell? _ _ hw727_0; first | rwa [add_block] at this | exact this) GW735.out))) _).trans (((cell_far (p := ⟨gb735, _, none⟩) (by first | exact Nat.ne_of_lt (Nat.lt_of_lt_of_le (by have := World.block_lt_of_cell? _ _ hw727_0; first | rwa [add_block] at this | exact this) GW735.out) | (rw [add_block]; exact Nat.ne_of_lt (Nat.lt_of_lt_of_le (by have := World.block_lt_of_cell? _ _ hw727_0; first | rwa [add_block] at this | exact this) GW735.out)) | (show (Addr.add _ _).block ≠ _; rw [add_block]; exact Nat.ne_of_lt (Nat.lt_of_lt_of_le (by have := World.block_lt_of_cell? _ _ hw727_0; first | rwa [add_block] at this | exact this) GW735.out)) | (dsimp only; exact Nat.ne_of_lt (Nat.lt_of_lt_of_le (by have := World.block_lt_of_cell? _ _ hw727_0; first | rwa [add_block] at this | exact this) GW735.out))) _).trans (((cell_far (p := ⟨gb735, _, none⟩) (by first | exact Nat.ne_of_lt (Nat.lt_of_lt_of_le (by have := World.block_lt_of_cell? _ _ hw727_0; first | rwa [add_block] at this | exact this) GW735.out) | (rw [add_block]; exact Nat.ne_of_lt (Nat.lt_of_lt_of_le (by have := World.block_lt_of_cell? _ _ hw727_0; first | rwa [add_block] at this | exact this) GW735.out)) | (show (Addr.add _ _).block ≠ _; rw [add_block]; exact Nat.ne_of_lt (Nat.lt_of_lt_of_le (by have := World.block_lt_of_cell? _ _ hw727_0; first | rwa [add_block] at this | exact this) GW735.out)) | (dsimp only; exact Nat.ne_of_lt (Nat.lt_of_lt_of_le (by have := World.block_lt_of_cell? _ _ hw727_0; first | rwa [add_block] at this | exact this) GW735.out))) _).trans (((cell_far (p := ⟨gb735, _, none⟩) (by first | exact Nat.ne_of_lt (Nat.lt_of_lt_of_le (by have := World.block_lt_of_cell? _ _ hw727_0; first | rwa [add_block] at this | exact this) GW735.out) | (rw [add_block]; exact Nat.ne_of_lt (Nat.lt_of_lt_of_le (by have := World.block_lt_of_cell? _ _ hw727_0; first | rwa [add_block] at this | exact this) GW735.out)) | (show (Addr.add _ _).block ≠ _; rw [add_block]; exact Nat.ne_of_lt (Nat.lt_of_lt_of_le (by have := World.block_lt_of_cell? _ _ hw727_0; first | rwa [add_block] at this | exact this) GW735.out)) | (dsimp only; exact Nat.ne_of_lt (Nat.lt_of_lt_of_le (by have := World.block_lt_of_cell? _ _ hw727_0; first | rwa [add_block] at this | exact this) GW735.out))) _).trans (hHeld.2.2.2.2.2.2))))))))))))⟩ (fun hHeld => ?_)
            clear hK K
            refine pure_ (i := 11) (N := some 16) (v := ?_) (a' := ?_) #[true, true, true, true, true, true, true, true, true, true, true, true] rfl rfl (any_of HT_.out (by kernel_rfl)) (fun _ _ _ h => h) (Or.inl ⟨by rfl, ?_⟩) ?_ ?_
            rotate_left
            ·intro w'
             go_simp
             with_reducible rfl
            rotate_left
            ·simp only [Act.put, List.setIfInBounds_toArray, List.set_cons_zero, List.set_cons_succ, i64_w, i32_w]
             rfl
            refine done_ (done_of HT_.out (by kernel_rfl)) ?_
            have hnb71 := NB735_703.out
            have hnc71 := NB703_735.out
            have hnb72 := NB735_713.out
            have hnc72 := NB713_735.out
            have hnb73 := NB735_724.out
            have hnc73 := NB724_735.out
            have hcz74_0 : w64.cell? ⟨gb735, 0, none⟩ = some (.int .i64 0) := (blk_cell BK735.out 0).trans rfl
            have hcz74_1 : w64.cell? ⟨gb735, 1, none⟩ = some (.int .i64 0) := (blk_cell BK735.out 1).trans rfl
            have hcz74_2 : w64.cell? ⟨gb735, 2, none⟩ = some (.int .i64 0) := (blk_cell BK735.out 2).trans rfl
            have hcz74_3 : w64.cell? ⟨gb735, 3, none⟩ = some (.int .i64 0) := (blk_cell BK735.out 3).trans rfl
            have hcz74_4 : w64.cell? ⟨gb735, 4, none⟩ = some (.int .i64 0) := (blk_cell BK735.out 4).trans rfl
            have hcz74_5 : w64.cell? ⟨gb735, 5, none⟩ = some (.int .u64 0) := (blk_cell BK735.out 5).trans rfl
            have hfz74_0 := blk_frozen BK735.out 0
            have hfz74_1 := blk_frozen BK735.out 1
            have hfz74_2 := blk_frozen BK735.out 2
            have hfz74_3 := blk_frozen BK735.out 3
            have hfz74_4 := blk_frozen BK735.out 4
            have hfz74_5 := blk_frozen BK735.out 5
            have hcz75_0 : w64.cell? ⟨gb713, 0, none⟩ = some (.int .i64 t717) := (blk_cell BK713.out 0).trans rfl
            have hcz75_1 : w64.cell? ⟨gb713, 1, none⟩ = some (.int .i64 t718) := (blk_cell BK713.out 1).trans rfl
            have hcz75_2 : w64.cell? ⟨gb713, 2, none⟩ = some (.int .i64 t719) := (blk_cell BK713.out 2).trans rfl
            have hcz75_3 : w64.cell? ⟨gb713, 3, none⟩ = some (.int .i64 t720) := (blk_cell BK713.out 3).trans rfl
            have hcz75_4 : w64.cell? ⟨gb713, 4, none⟩ = some (.int .i64 t721) := (blk_cell BK713.out 4).trans rfl
            have hcz75_5 : w64.cell? ⟨gb713, 5, none⟩ = some (.int .u64 t722) := (blk_cell BK713.out 5).trans rfl
            have hfz75_0 := blk_frozen BK713.out 0
            have hfz75_1 := blk_frozen BK713.out 1
            have hfz75_2 := blk_frozen BK713.out 2
            have hfz75_3 := blk_frozen BK713.out 3
            have hfz75_4 := blk_frozen BK713.out 4
            have hfz75_5 := blk_frozen BK713.out 5
            have p736 : 0 ≤ (x12_2 : Int) := of_decide_eq_true (by first | (with_reducible assumption) | assumption)
            have q736 : x12_2 < (l3.length : Int) := of_decide_eq_true (by first | (with_reducible assumption) | assumption)
            obtain ⟨ad736, e736, hx736_0⟩ := Kd.at_int HR3.out x12_2 p736 q736
            obtain rfl : ad727 = ad736 := (by injection e736)
            have hn736_0 : ad727.block ≠ gb735 := Nat.ne_of_lt (Nat.lt_of_lt_of_le (by have := World.block_lt_of_cell? _ _ hx736_0; first | rwa [add_block] at this | exact this) GW735.out)
            have hn736_1 : ad727.block ≠ gb735 := Nat.ne_of_lt (Nat.lt_of_lt_of_le (by have := World.block_lt_of_cell? _ _ hx736_0; first | rwa [add_block] at this | exact this) GW735.out)
            have hn736_2 : ad727.block ≠ gb735 := Nat.ne_of_lt (Nat.lt_of_lt_of_le (by have := World.block_lt_of_cell? _ _ hx736_0; first | rwa [add_block] at this | exact this) GW735.out)
            have hn736_3 : ad727.block ≠ gb735 := Nat.ne_of_lt (Nat.lt_of_lt_of_le (by have := World.block_lt_of_cell? _ _ hx736_0; first | rwa [add_block] at this | exact this) GW735.out)
            have hn736_4 : ad727.block ≠ gb735 := Nat.ne_of_lt (Nat.lt_of_lt_of_le (by have := World.block_lt_of_cell? _ _ hx736_0; first | rwa [add_block] at this | exact this) GW735.out)
            have hn736_5 : ad727.block ≠ gb735 := Nat.ne_of_lt (Nat.lt_of_lt_of_le (by have := World.block_lt_of_cell? _ _ hx736_0; first | rwa [add_block] at this | exact this) GW735.out)
            have hn736_6 : ad727.block ≠ gb713 := Nat.ne_of_lt (Nat.lt_of_lt_of_le (by have := World.block_lt_of_cell? _ _ hx736_0; first | rwa [add_block] at this | exact this) GW713.out)
            have hn736_7 : ad727.block ≠ gb713 := Nat.ne_of_lt (Nat.lt_of_lt_of_le (by have := World.block_lt_of_cell? _ _ hx736_0; first | rwa [add_block] at this | exact this) GW713.out)
            have hn736_8 : ad727.block ≠ gb713 := Nat.ne_of_lt (Nat.lt_of_lt_of_le (by have := World.block_lt_of_cell? _ _ hx736_0; first | rwa [add_block] at this | exact this) GW713.out)
            have hn736_9 : ad727.block ≠ gb713 := Nat.ne_of_lt (Nat.lt_of_lt_of_le (by have := World.block_lt_of_cell? _ _ hx736_0; first | rwa [add_block] at this | exact this) GW713.out)
            have hn736_10 : ad727.block ≠ gb713 := Nat.ne_of_lt (Nat.lt_of_lt_of_le (by have := World.block_lt_of_cell? _ _ hx736_0; first | rwa [add_block] at this | exact this) GW713.out)
            have hn736_11 : ad727.block ≠ gb713 := Nat.ne_of_lt (Nat.lt_of_lt_of_le (by have := World.block_lt_of_cell? _ _ hx736_0; first | rwa [add_block] at this | exact this) GW713.out)
            replace hx736_0 := (HB.out.cell (World.block_lt_of_cell? w _ hx736_0)).trans hx736_0
            replace hx736_0 := (cell_far (p := ⟨gb735, 0, none⟩) (by first | (rw [add_block]; exact hn736_0) | (show (Addr.add _ _).block ≠ _; rw [add_block]; exact hn736_0) | exact hn736_0) (.int .i64 t728)).trans hx736_0
            replace hx736_0 := (cell_far (p := ⟨gb735, 1, none⟩) (by first | (rw [add_block]; exact hn736_1) | (show (Addr.add _ _).block ≠ _; rw [add_block]; exact hn736_1) | exact hn736_1) (.int .i64 t729)).trans hx736_0
            replace hx736_0 := (cell_far (p := ⟨gb735, 2, none⟩) (by first | (rw [add_block]; exact hn736_2) | (show (Addr.add _ _).block ≠ _; rw [add_block]; exact hn736_2) | exact hn736_2) (.int .i64 t730)).trans hx736_0
            replace hx736_0 := (cell_far (p := ⟨gb735, 3, none⟩) (by first | (rw [add_block]; exact hn736_3) | (show (Addr.add _ _).block ≠ _; rw [add_block]; exact hn736_3) | exact hn736_3) (.int .i64 t731)).trans hx736_0
            replace hx736_0 := (cell_far (p := ⟨gb735, 4, none⟩) (by first | (rw [add_block]; exact hn736_4) | (show (Addr.add _ _).block ≠ _; rw [add_block]; exact hn736_4) | exact hn736_4) (.int .i64 t732)).trans hx736_0
            replace hx736_0 := (cell_far (p := ⟨gb735, 5, none⟩) (by first | (rw [add_block]; exact hn736_5) | (show (Addr.add _ _).block ≠ _; rw [add_block]; exact hn736_5) | exact hn736_5) (.int .u64 t733)).trans hx736_0
            replace hx736_0 := (cell_far (p := ⟨gb713, 0, none⟩) (by first | (rw [add_block]; exact hn736_6) | (show (Addr.add _ _).block ≠ _; rw [add_block]; exact hn736_6) | exact hn736_6) (.int .i64 t728)).trans hx736_0
            replace hx736_0 := (cell_far (p := ⟨gb713, 1, none⟩) (by first | (rw [add_block]; exact hn736_7) | (show (Addr.add _ _).block ≠ _; rw [add_block]; exact hn736_7) | exact hn736_7) (.int .i64 t729)).trans hx736_0
            replace hx736_0 := (cell_far (p := ⟨gb713, 2, none⟩) (by first | (rw [add_block]; exact hn736_8) | (show (Addr.add _ _).block ≠ _; rw [add_block]; exact hn736_8) | exact hn736_8) (.int .i64 t730)).trans hx736_0
            replace hx736_0 := (cell_far (p := ⟨gb713, 3, none⟩) (by first | (rw [add_block]; exact hn736_9) | (show (Addr.add _ _).block ≠ _; rw [add_block]; exact hn736_9) | exact hn736_9) (.int .i64 t731)).trans hx736_0
            replace hx736_0 := (cell_far (p := ⟨gb713, 4, none⟩) (by first | (rw [add_block]; exact hn736_10) | (show (Addr.add _ _).block ≠ _; rw [add_block]; exact hn736_10) | exact hn736_10) (.int .i64 t732)).trans hx736_0
            replace hx736_0 := (cell_far (p := ⟨gb713, 5, none⟩) (by first | (rw [add_block]; exact hn736_11) | (show (Addr.add _ _).block ≠ _; rw [add_block]; exact hn736_11) | exact hn736_11) (.int .u64 t733)).trans hx736_0
            clear hn736_0
            clear hn736_1
            clear hn736_2
            clear hn736_3
            clear hn736_4
            clear hn736_5
            clear hn736_6
            clear hn736_7
            clear hn736_8
            clear hn736_9
            clear hn736_10
            clear hn736_11
            replace p736 := eq_true p736
            replace q736 := eq_true q736
            try go_wp2
            go_roundg kj32
            case measure => have := HJ4.out; have := HK2.out; have := HJ32.out; omega
            case rel => exact ⟨(IntKind.u64.wrap (x11_2 + (IntKind.u64.wrap (rd l3 x12_2)))), (wrap64 (x12_2 + 1)), (t728), (t729), (t730), (t731), (t732), (t733), (by first | rfl | (simp; done) | (simp [*]; done)), (by first | rfl | (simp; done) | (simp [*]; done)), H', ⟨by have := HJ4.out; have := HK2.out; have := HJ32.out; omega⟩, ⟨(blk_far (blk_far (blk_far (blk_far (blk_far (blk_far (blk_far (blk_far (blk_far (blk_far (blk_far (blk_far (bq_ BK703) NB703_735.out _) NB703_735.out _) NB703_735.out _) NB703_735.out _) NB703_735.out _) NB703_735.out _) NB703_713.out _) NB703_713.out _) NB703_713.out _) NB703_713.out _) NB703_713.out _) NB703_713.out _)⟩, ⟨(blk_put (cs := #[.int .i64 t728, .int .i64 t729, .int .i64 t730, .int .i64 t731, .int .i64 t732, .int .u64 t722]) (blk_put (cs := #[.int .i64 t728, .int .i64 t729, .int .i64 t730, .int .i64 t731, .int .i64 t721, .int .u64 t722]) (blk_put (cs := #[.int .i64 t728, .int .i64 t729, .int .i64 t730, .int .i64 t720, .int .i64 t721, .int .u64 t722]) (blk_put (cs := #[.int .i64 t728, .int .i64 t729, .int .i64 t719, .int .i64 t720, .int .i64 t721, .int .u64 t722]) (blk_put (cs := #[.int .i64 t728, .int .i64 t718, .int .i64 t719, .int .i64 t720, .int .i64 t721, .int .u64 t722]) (blk_put (cs := #[.int .i64 t717, .int .i64 t718, .int .i64 t719, .int .i64 t720, .int .i64 t721, .int .u64 t722]) (blk_far (blk_far (blk_far (blk_far (blk_far (blk_far (bq_ BK713) NB713_735.out _) NB713_735.out _) NB713_735.out _) NB713_735.out _) NB713_735.out _) NB713_735.out _) 0 _ rfl) 1 _ rfl) 2 _ rfl) 3 _ rfl) 4 _ rfl) 5 _ rfl)⟩, ⟨by repeat (first | (with_reducible first | exact HB.out | apply below_alloc | apply pw_below_drewN | apply below_drew1 | refine below_set ?_ GE703.out | refine below_set ?_ GE713.out | refine below_set ?_ GE724.out | refine below_set ?_ GE735.out) | exact HB.out)⟩⟩
           ·rw [if_neg c54] at H
            have c54b0 : (t734 == 0) = false := beq_eq_false_iff_ne.mpr c54
            have c54b1 : (t734 != 0) = true := bne_iff_ne.mpr c54
            by_cases c76 : t734 = 20
            rotate_left
            ·rw [if_neg c76] at H; exact absurd H (by simp)
            rw [if_pos c76] at H
            have c76b0 : (t734 == 20) = true := beq_iff_eq.mpr c76
            have c76b1 : (t734 != 20) = false := bne_eq_false_iff_eq.mpr c76
            clear c76
            by_cases c77 : t720 ≥ (rd l3 x12_2)
            ·rw [if_pos c77] at H; exact absurd H (by simp)
            rw [if_neg c77] at H
            have c77b0 : decide ((rd l3 x12_2) ≤ t720) = false := decide_eq_false c77
            clear c77
            have H' := Aside0.mk H
            clear H
            have hnb78 := NB724_703.out
            have hnc78 := NB703_724.out
            have hnb79 := NB724_713.out
            have hnc79 := NB713_724.out
            have hcz80_0 : wc.cell? ⟨gb724, 0, none⟩ = some (.int .i64 t717) := (blk_cell BK724.out 0).trans rfl
            have hcz80_1 : wc.cell? ⟨gb724, 1, none⟩ = some (.int .i64 t718) := (blk_cell BK724.out 1).trans rfl
            have hcz80_2 : wc.cell? ⟨gb724, 2, none⟩ = some (.int .i64 t719) := (blk_cell BK724.out 2).trans rfl
            have hcz80_3 : wc.cell? ⟨gb724, 3, none⟩ = some (.int .i64 t720) := (blk_cell BK724.out 3).trans rfl
            have hcz80_4 : wc.cell? ⟨gb724, 4, none⟩ = some (.int .i64 t721) := (blk_cell BK724.out 4).trans rfl
            have hcz80_5 : wc.cell? ⟨gb724, 5, none⟩ = some (.int .u64 t722) := (blk_cell BK724.out 5).trans rfl
            have hfz80_0 := blk_frozen BK724.out 0
            have hfz80_1 := blk_frozen BK724.out 1
            have hfz80_2 := blk_frozen BK724.out 2
            have hfz80_3 := blk_frozen BK724.out 3
            have hfz80_4 := blk_frozen BK724.out 4
            have hfz80_5 := blk_frozen BK724.out 5
            have hnb81 := NB713_703.out
            have hnc81 := NB703_713.out
            have hcz82_0 : wc.cell? ⟨gb713, 0, none⟩ = some (.int .i64 x714000_2) := (blk_cell BK713.out 0).trans rfl
            have hcz82_1 : wc.cell? ⟨gb713, 1, none⟩ = some (.int .i64 x714001_2) := (blk_cell BK713.out 1).trans rfl
            have hcz82_2 : wc.cell? ⟨gb713, 2, none⟩ = some (.int .i64 x714002_2) := (blk_cell BK713.out 2).trans rfl
            have hcz82_3 : wc.cell? ⟨gb713, 3, none⟩ = some (.int .i64 x714003_2) := (blk_cell BK713.out 3).trans rfl
            have hcz82_4 : wc.cell? ⟨gb713, 4, none⟩ = some (.int .i64 x714004_2) := (blk_cell BK713.out 4).trans rfl
            have hcz82_5 : wc.cell? ⟨gb713, 5, none⟩ = some (.int .u64 x714005_2) := (blk_cell BK713.out 5).trans rfl
            have hfz82_0 := blk_frozen BK713.out 0
            have hfz82_1 := blk_frozen BK713.out 1
            have hfz82_2 := blk_frozen BK713.out 2
            have hfz82_3 := blk_frozen BK713.out 3
            have hfz82_4 := blk_frozen BK713.out 4
            have hfz82_5 := blk_frozen BK713.out 5
            try go_wp2
            have n0_ : Aside0 (((((((wc.setCell ⟨gb713, 0, none⟩ (.int .i64 t717)).setCell ⟨gb713, 1, none⟩ (.int .i64 t718)).setCell ⟨gb713, 2, none⟩ (.int .i64 t719)).setCell ⟨gb713, 3, none⟩ (.int .i64 t720)).setCell ⟨gb713, 4, none⟩ (.int .i64 t721)).setCell ⟨gb713, 5, none⟩ (.int .u64 t722)).heap[gb703]? = some (.cells #[.int .i64 a0_0, .int .i64 a0_1, .int .i64 a0_2] 23 (0, 0))) := ⟨(blk_far (blk_far (blk_far (blk_far (blk_far (blk_far (bq_ BK703) NB703_713.out _) NB703_713.out _) NB703_713.out _) NB703_713.out _) NB703_713.out _) NB703_713.out _)⟩
            have n1_ : Aside0 (((((((wc.setCell ⟨gb713, 0, none⟩ (.int .i64 t717)).setCell ⟨gb713, 1, none⟩ (.int .i64 t718)).setCell ⟨gb713, 2, none⟩ (.int .i64 t719)).setCell ⟨gb713, 3, none⟩ (.int .i64 t720)).setCell ⟨gb713, 4, none⟩ (.int .i64 t721)).setCell ⟨gb713, 5, none⟩ (.int .u64 t722)).heap[gb713]? = some (.cells #[.int .i64 t717, .int .i64 t718, .int .i64 t719, .int .i64 t720, .int .i64 t721, .int .u64 t722] 26 (0, 0))) := ⟨(blk_put (cs := #[.int .i64 t717, .int .i64 t718, .int .i64 t719, .int .i64 t720, .int .i64 t721, .int .u64 x714005_2]) (blk_put (cs := #[.int .i64 t717, .int .i64 t718, .int .i64 t719, .int .i64 t720, .int .i64 x714004_2, .int .u64 x714005_2]) (blk_put (cs := #[.int .i64 t717, .int .i64 t718, .int .i64 t719, .int .i64 x714003_2, .int .i64 x714004_2, .int .u64 x714005_2]) (blk_put (cs := #[.int .i64 t717, .int .i64 t718, .int .i64 x714002_2, .int .i64 x714003_2, .int .i64 x714004_2, .int .u64 x714005_2]) (blk_put (cs := #[.int .i64 t717, .int .i64 x714001_2, .int .i64 x714002_2, .int .i64 x714003_2, .int .i64 x714004_2, .int .u64 x714005_2]) (blk_put (cs := #[.int .i64 x714000_2, .int .i64 x714001_2, .int .i64 x714002_2, .int .i64 x714003_2, .int .i64 x714004_2, .int .u64 x714005_2]) (bq_ BK713) 0 _ rfl) 1 _ rfl) 2 _ rfl) 3 _ rfl) 4 _ rfl) 5 _ rfl)⟩
            have n2_ : Aside0 (((((((wc.setCell ⟨gb713, 0, none⟩ (.int .i64 t717)).setCell ⟨gb713, 1, none⟩ (.int .i64 t718)).setCell ⟨gb713, 2, none⟩ (.int .i64 t719)).setCell ⟨gb713, 3, none⟩ (.int .i64 t720)).setCell ⟨gb713, 4, none⟩ (.int .i64 t721)).setCell ⟨gb713, 5, none⟩ (.int .u64 t722)).heap[gb724]? = some (.cells #[.int .i64 t717, .int .i64 t718, .int .i64 t719, .int .i64 t720, .int .i64 t721, .int .u64 t722] 26 (0, 0))) := ⟨(blk_far (blk_far (blk_far (blk_far (blk_far (blk_far (bq_ BK724) NB724_713.out _) NB724_713.out _) NB724_713.out _) NB724_713.out _) NB724_713.out _) NB724_713.out _)⟩
            have n3_ : Aside0 (Below w.heap.size w ((((((wc.setCell ⟨gb713, 0, none⟩ (.int .i64 t717)).setCell ⟨gb713, 1, none⟩ (.int .i64 t718)).setCell ⟨gb713, 2, none⟩ (.int .i64 t719)).setCell ⟨gb713, 3, none⟩ (.int .i64 t720)).setCell ⟨gb713, 4, none⟩ (.int .i64 t721)).setCell ⟨gb713, 5, none⟩ (.int .u64 t722))) := ⟨by repeat (first | (with_reducible first | exact HB.out | apply below_alloc | apply pw_below_drewN | apply below_drew1 | refine below_set ?_ GE703.out | refine below_set ?_ GE713.out | refine below_set ?_ GE724.out) | exact HB.out)⟩
            (try clear BK703)
            (try clear BK713)
            (try clear BK724)
            (try clear HB)
            generalize ((((((wc.setCell ⟨gb713, 0, none⟩ (.int .i64 t717)).setCell ⟨gb713, 1, none⟩ (.int .i64 t718)).setCell ⟨gb713, 2, none⟩ (.int .i64 t719)).setCell ⟨gb713, 3, none⟩ (.int .i64 t720)).setCell ⟨gb713, 4, none⟩ (.int .i64 t721)).setCell ⟨gb713, 5, none⟩ (.int .u64 t722)) = w83 at n0_ n1_ n2_ n3_ ⊢
            have BK703 := n0_
            have BK713 := n1_
            have BK724 := n2_
            have HB := n3_
            clear n0_ n1_ n2_ n3_
            replace BK703 := Aside0.mk (blk_drew BK703.out)
            replace BK713 := Aside0.mk (blk_drew BK713.out)
            replace BK724 := Aside0.mk (blk_drew BK724.out)
            replace HB := Aside0.mk (below_drew1 HB.out)
            have p727 : 0 ≤ (x12_2 : Int) := of_decide_eq_true (by first | (with_reducible assumption) | assumption)
            have q727 : x12_2 < (l3.length : Int) := of_decide_eq_true (by first | (with_reducible assumption) | assumption)
            obtain ⟨ad727, e727, hx727_0⟩ := Kd.at_int HR3.out x12_2 p727 q727
            have hw727_0 := hx727_0
            cases e727
            replace hx727_0 := (HB.out.cell (World.block_lt_of_cell? w _ hx727_0)).trans hx727_0
            replace p727 := eq_true p727
            replace q727 := eq_true q727
            refine start_ (n := 12) (S := fun w' => w'.cell? ⟨gb713, 0, none⟩ = some (.int .i64 t717) ∧ w'.cell? ⟨gb713, 1, none⟩ = some (.int .i64 t718) ∧ w'.cell? ⟨gb713, 2, none⟩ = some (.int .i64 t719) ∧ w'.cell? ⟨gb713, 3, none⟩ = some (.int .i64 t720) ∧ w'.cell? ⟨gb713, 4, none⟩ = some (.int .i64 t721) ∧ w'.cell? ⟨gb713, 5, none⟩ = some (.int .u64 t722) ∧ w'.cell? (ad727.add (x12_2).toNat) = some (.int .i64 (rd l3 x12_2))) (ds := []) #[false, false, false, false, false, false, false, false, false, false, false, false] (by kernel_rfl) rfl rfl ⟨(blk_cell BK713.out 0).trans rfl, (blk_cell BK713.out 1).trans rfl, (blk_cell BK713.out 2).trans rfl, (blk_cell BK713.out 3).trans rfl, (blk_cell BK713.out 4).trans rfl, (blk_cell BK713.out 5).trans rfl, ((HB.out.cell (World.block_lt_of_cell? w _ hw727_0)).trans hw727_0)⟩ (fun hHeld => ?_); refine with_tabW spigotlaw03_BucketBound.tab16 spigotlaw03_BucketBound.bits16 (fun HT_ HW_ => ?_)
            generalize w83.drew = w84 at BK703 BK713 BK724 HB hx727_0 hHeld ⊢
            refine pure_ (i := 1) (N := some 90) (v := ?_) (a' := ?_) #[false, true, false, false, false, false, false, false, false, false, false, false] rfl rfl (any_of HT_.out (by kernel_rfl)) (fun _ _ _ h => h) (Or.inl ⟨by rfl, ?_⟩) ?_ ?_
            rotate_left
            ·intro w'
             go_simp
             with_reducible rfl
            rotate_left
            ·simp only [Act.put, List.setIfInBounds_toArray, List.set_cons_zero, List.set_cons_succ, i64_w, i32_w]
             rfl
            refine pure_ (i := 2) (N := some 91) (v := ?_) (a' := ?_) #[false, true, true, false, false, false, false, false, false, false, false, false] rfl rfl (any_of HT_.out (by kernel_rfl)) (fun _ _ _ h => h) (Or.inl ⟨by rfl, ?_⟩) ?_ ?_
            rotate_left
            ·intro w'
             go_simp
             with_reducible rfl
            rotate_left
            ·simp only [Act.put, List.setIfInBounds_toArray, List.set_cons_zero, List.set_cons_succ, i64_w, i32_w]
             rfl
            refine pure_ (i := 3) (N := some 92) (v := ?_) (a' := ?_) #[false, true, true, true, false, false, false, false, false, false, false, false] rfl rfl (any_of HT_.out (by kernel_rfl)) (fun _ _ _ h => h) (Or.inl ⟨by rfl, ?_⟩) ?_ ?_
            rotate_left
            ·intro w'
             go_simp
             with_reducible rfl
            rotate_left
            ·simp only [Act.put, List.setIfInBounds_toArray, List.set_cons_zero, List.set_cons_succ, i64_w, i32_w]
             rfl
            refine take_ (i := 0) (N := some 89) (v := ?_) (a' := ?_) #[true, true, true, true, false, false, false, false, false, false, false, false] rfl rfl (take_ofW HT_.out HW_.out (by kernel_rfl)) (fun _ _ _ h => h) (Or.inl ⟨by rfl, ?_⟩) hHeld ?_ ?_
            rotate_left
            ·rintro w' ⟨s0, s1, s2, s3, s4, s5, s6⟩
             go_simp
             with_reducible rfl
            rotate_left
            ·simp only [Act.put, List.setIfInBounds_toArray, List.set_cons_zero, List.set_cons_succ, i64_w, i32_w]
             rfl
            refine take_ (i := 4) (N := some 93) (v := ?_) (a' := ?_) #[true, true, true, true, true, false, false, false, false, false, false, false] rfl rfl (take_ofW HT_.out HW_.out (by kernel_rfl)) (fun _ _ _ h => h) (Or.inl ⟨by rfl, ?_⟩) hHeld ?_ ?_
            rotate_left
            ·rintro w' ⟨s0, s1, s2, s3, s4, s5, s6⟩
             go_simp
             with_reducible rfl
            rotate_left
            ·simp only [Act.put, List.setIfInBounds_toArray, List.set_cons_zero, List.set_cons_succ, i64_w, i32_w]
             rfl
            refine join_ (σ := Nat) 2 #[true, true, true, true, true, true, true, true, true, true, false, false] (fun s_ => [(94, .tuple #[.agg #[.int .i64 t728, .int .i64 t729, .int .i64 t730, .int .i64 t731, .int .i64 t732, .int .u64 t733], .int .i64 t734]), (15, .pointer (some ⟨s_, 0, none⟩)), (88, .tuple #[.agg #[.int .i64 t728, .int .i64 t729, .int .i64 t730, .int .i64 t731, .int .i64 t732, .int .u64 t733], .int .i64 t734]), (95, .agg #[.int .i64 t728, .int .i64 t729, .int .i64 t730, .int .i64 t731, .int .i64 t732, .int .u64 t733]), (96, .int .i64 t734)]) (fun s_ w' => (w'.cell? ⟨gb713, 0, none⟩ = some (.int .i64 t717) ∧ w'.cell? ⟨gb713, 1, none⟩ = some (.int .i64 t718) ∧ w'.cell? ⟨gb713, 2, none⟩ = some (.int .i64 t719) ∧ w'.cell? ⟨gb713, 3, none⟩ = some (.int .i64 t720) ∧ w'.cell? ⟨gb713, 4, none⟩ = some (.int .i64 t721) ∧ w'.cell? ⟨gb713, 5, none⟩ = some (.int .u64 t722) ∧ w'.cell? (ad727.add (x12_2).toNat) = some (.int .i64 (rd l3 x12_2))) ∧ (w'.heap[gb703]? = some (.cells #[.int .i64 a0_0, .int .i64 a0_1, .int .i64 a0_2] 23 (0, 0))) ∧ (w'.heap[gb713]? = some (.cells #[.int .i64 t717, .int .i64 t718, .int .i64 t719, .int .i64 t720, .int .i64 t721, .int .u64 t722] 26 (0, 0))) ∧ (w'.heap[gb724]? = some (.cells #[.int .i64 t717, .int .i64 t718, .int .i64 t719, .int .i64 t720, .int .i64 t721, .int .u64 t722] 26 (0, 0))) ∧ (w'.heap[s_]? = some (.cells #[.int .i64 0, .int .i64 0, .int .i64 0, .int .i64 0, .int .i64 0, .int .u64 0] 26 (0, 0))) ∧ (w.heap.size ≤ s_) ∧ (w.heap.size ≤ s_) ∧ (gb703 ≠ s_) ∧ (s_ ≠ gb703) ∧ (gb713 ≠ s_) ∧ (s_ ≠ gb713) ∧ (gb724 ≠ s_) ∧ (s_ ≠ gb724) ∧ (Below w.heap.size w w')) ?_ ?_
            rotate_left
            ·intro hCont
             refine two_ (i := 5) (j := 9) (Ni := some 94) (Nj := some 15) #[true, true, true, true, true, true, false, false, false, false, false, false] #[true, true, true, true, true, false, false, false, false, true, false, false] rfl rfl rfl rfl (two_of HT_.out (by kernel_rfl)) (by decide) (by decide) (fun K hK => ?_) (fun K hK => ?_)
             ·skip
              refine goes_ Try.func18 (by kernel_rfl) rfl #[.agg #[.int .i64 t717, .int .i64 t718, .int .i64 t719, .int .i64 t720, .int .i64 t721, .int .u64 t722], .int .i64 (rd l3 x12_2)] (by rfl) rfl rfl (by (try simp only [List.map_toArray, List.map_cons, List.map_nil]); first | done | rfl | (simp only [List.length_drop, List.length_take]; rfl)) ?_
              with_reducible refine (bucket_Charge.calls t717 t718 t719 t720 t721 t722 (rd l3 x12_2) t728 t729 t730 t731 t732 t733 t734 _ A53.out).mono ?_
              rintro e w85 ⟨rfl, hb⟩
              refine ⟨_, rfl, ?_⟩
              replace BK703 := bb_ BK703 hb
              replace BK713 := bb_ BK713 hb
              replace BK724 := bb_ BK724 hb
              replace HB := bs_ w hb
              (try clear hb)
              (try clear hb2)
              (try clear hk)
              (try clear hi)
              refine hK.out _ _ ⟨(blk_cell BK713.out 0).trans rfl, (blk_cell BK713.out 1).trans rfl, (blk_cell BK713.out 2).trans rfl, (blk_cell BK713.out 3).trans rfl, (blk_cell BK713.out 4).trans rfl, (blk_cell BK713.out 5).trans rfl, ((HB.out.cell (World.block_lt_of_cell? w _ hw727_0)).trans hw727_0)⟩ (fun hHeld => ?_)
              clear hK K
              refine norm_ (a' := ?_) ?_ ?_
              rotate_left
              ·show Act.put _ (some 94) _ = _
               simp only [Act.put, List.setIfInBounds_toArray, List.set_cons_zero, List.set_cons_succ, i64_w, i32_w]
               rfl
              refine pure_ (i := 6) (N := some 88) (v := ?_) (a' := ?_) #[true, true, true, true, true, true, true, false, false, false, false, false] rfl rfl (any_of HT_.out (by kernel_rfl)) (fun _ _ _ h => h) (Or.inl ⟨by rfl, ?_⟩) ?_ ?_
              rotate_left
              ·intro w'
               go_simp
               with_reducible rfl
              rotate_left
              ·simp only [Act.put, List.setIfInBounds_toArray, List.set_cons_zero, List.set_cons_succ, i64_w, i32_w]
               rfl
              refine pure_ (i := 7) (N := some 95) (v := ?_) (a' := ?_) #[true, true, true, true, true, true, true, true, false, false, false, false] rfl rfl (any_of HT_.out (by kernel_rfl)) (fun _ _ _ h => h) (Or.inl ⟨by rfl, ?_⟩) ?_ ?_
              rotate_left
              ·intro w'
               go_simp
               with_reducible rfl
              rotate_left
              ·simp only [Act.put, List.setIfInBounds_toArray, List.set_cons_zero, List.set_cons_succ, i64_w, i32_w]
               rfl
              refine pure_ (i := 8) (N := some 96) (v := ?_) (a' := ?_) #[true, true, true, true, true, true, true, true, true, false, false, false] rfl rfl (any_of HT_.out (by kernel_rfl)) (fun _ _ _ h => h) (Or.inl ⟨by rfl, ?_⟩) ?_ ?_
              rotate_left
              ·intro w'
               go_simp
               with_reducible rfl
              rotate_left
              ·simp only [Act.put, List.setIfInBounds_toArray, List.set_cons_zero, List.set_cons_succ, i64_w, i32_w]
               rfl
              refine one_ (i := 9) (N := some 15) #[true, true, true, true, true, true, true, true, true, true, false, false] rfl rfl (one_of HT_.out (by kernel_rfl)) (by decide) (fun K hK => ?_)
              refine box_step ?hg (N := 15) ?hd (cs := #[.int .i64 0, .int .i64 0, .int .i64 0, .int .i64 0, .int .i64 0, .int .u64 0]) (t := 26) ?hr ?_; (case hd => rfl); (case hg => rfl); (case hr => first | (go_simp; done) | (go_simp; rfl))
              intro gb735 hg w86 hbox hb
              have BK735 := Aside0.mk (hbox)
              have GW735 := bz_ w hg
              have GE735 := GW735
              have NB703_735 := bn_ BK703 hg
              have NB735_703 := bm_ BK703 hg
              have NB713_735 := bn_ BK713 hg
              have NB735_713 := bm_ BK713 hg
              have NB724_735 := bn_ BK724 hg
              have NB735_724 := bm_ BK724 hg
              replace BK703 := bb_ BK703 hb
              replace BK713 := bb_ BK713 hb
              replace BK724 := bb_ BK724 hb
              replace HB := bs_ w hb
              clear hb hbox hg
              refine hK.out _ _ ⟨(blk_cell BK713.out 0).trans rfl, (blk_cell BK713.out 1).trans rfl, (blk_cell BK713.out 2).trans rfl, (blk_cell BK713.out 3).trans rfl, (blk_cell BK713.out 4).trans rfl, (blk_cell BK713.out 5).trans rfl, ((HB.out.cell (World.block_lt_of_cell? w _ hw727_0)).trans hw727_0)⟩ (fun hHeld => ?_)
              clear hK K
              refine norm_ (a' := ?_) ?_ ?_
              rotate_left
              ·show Act.put _ (some 15) _ = _
               simp only [Act.put, List.setIfInBounds_toArray, List.set_cons_zero, List.set_cons_succ, i64_w, i32_w]
               rfl
              exact norm_ (by simp only [putAll, Act.put, List.setIfInBounds_toArray, List.set_cons_zero, List.set_cons_succ]) (hCont (gb735) _ ⟨hHeld, (bq_ BK703), (bq_ BK713), (bq_ BK724), (bq_ BK735), GW735.out, GE735.out, NB703_735.out, NB735_703.out, NB713_735.out, NB735_713.out, NB724_735.out, NB735_724.out, (by repeat (first | (with_reducible first | exact HB.out | apply below_alloc | apply pw_below_drewN | apply below_drew1 | refine below_set ?_ (Aside0.out (by assumption))) | exact HB.out))⟩)
             ·skip
              refine box_step ?hg (N := 15) ?hd (cs := #[.int .i64 0, .int .i64 0, .int .i64 0, .int .i64 0, .int .i64 0, .int .u64 0]) (t := 26) ?hr ?_; (case hd => rfl); (case hg => rfl); (case hr => first | (go_simp; done) | (go_simp; rfl))
              intro gb735 hg w85 hbox hb
              have BK735 := Aside0.mk (hbox)
              have GW735 := bz_ w hg
              have GE735 := GW735
              have NB703_735 := bn_ BK703 hg
              have NB735_703 := bm_ BK703 hg
              have NB713_735 := bn_ BK713 hg
              have NB735_713 := bm_ BK713 hg
              have NB724_735 := bn_ BK724 hg
              have NB735_724 := bm_ BK724 hg
              replace BK703 := bb_ BK703 hb
              replace BK713 := bb_ BK713 hb
              replace BK724 := bb_ BK724 hb
              replace HB := bs_ w hb
              clear hb hbox hg
              refine hK.out _ _ ⟨(blk_cell BK713.out 0).trans rfl, (blk_cell BK713.out 1).trans rfl, (blk_cell BK713.out 2).trans rfl, (blk_cell BK713.out 3).trans rfl, (blk_cell BK713.out 4).trans rfl, (blk_cell BK713.out 5).trans rfl, ((HB.out.cell (World.block_lt_of_cell? w _ hw727_0)).trans hw727_0)⟩ (fun hHeld => ?_)
              clear hK K
              refine norm_ (a' := ?_) ?_ ?_
              rotate_left
              ·show Act.put _ (some 15) _ = _
               simp only [Act.put, List.setIfInBounds_toArray, List.set_cons_zero, List.set_cons_succ, i64_w, i32_w]
               rfl
              refine one_ (i := 5) (N := some 94) #[true, true, true, true, true, true, false, false, false, true, false, false] rfl rfl (one_of HT_.out (by kernel_rfl)) (by decide) (fun K hK => ?_)
              refine goes_ Try.func18 (by kernel_rfl) rfl #[.agg #[.int .i64 t717, .int .i64 t718, .int .i64 t719, .int .i64 t720, .int .i64 t721, .int .u64 t722], .int .i64 (rd l3 x12_2)] (by rfl) rfl rfl (by (try simp only [List.map_toArray, List.map_cons, List.map_nil]); first | done | rfl | (simp only [List.length_drop, List.length_take]; rfl)) ?_
              with_reducible refine (bucket_Charge.calls t717 t718 t719 t720 t721 t722 (rd l3 x12_2) t728 t729 t730 t731 t732 t733 t734 _ A53.out).mono ?_
              rintro e w86 ⟨rfl, hb⟩
              refine ⟨_, rfl, ?_⟩
              replace BK703 := bb_ BK703 hb
              replace BK713 := bb_ BK713 hb
              replace BK724 := bb_ BK724 hb
              replace BK735 := bb_ BK735 hb
              replace HB := bs_ w hb
              (try clear hb)
              (try clear hb2)
              (try clear hk)
              (try clear hi)
              refine hK.out _ _ ⟨(blk_cell BK713.out 0).trans rfl, (blk_cell BK713.out 1).trans rfl, (blk_cell BK713.out 2).trans rfl, (blk_cell BK713.out 3).trans rfl, (blk_cell BK713.out 4).trans rfl, (blk_cell BK713.out 5).trans rfl, ((HB.out.cell (World.block_lt_of_cell? w _ hw727_0)).trans hw727_0)⟩ (fun hHeld => ?_)
              clear hK K
              refine norm_ (a' := ?_) ?_ ?_
              rotate_left
              ·show Act.put _ (some 94) _ = _
               simp only [Act.put, List.setIfInBounds_toArray, List.set_cons_zero, List.set_cons_succ, i64_w, i32_w]
               rfl
              refine pure_ (i := 6) (N := some 88) (v := ?_) (a' := ?_) #[true, true, true, true, true, true, true, false, false, true, false, false] rfl rfl (any_of HT_.out (by kernel_rfl)) (fun _ _ _ h => h) (Or.inl ⟨by rfl, ?_⟩) ?_ ?_
              rotate_left
              ·intro w'
               go_simp
               with_reducible rfl
              rotate_left
              ·simp only [Act.put, List.setIfInBounds_toArray, List.set_cons_zero, List.set_cons_succ, i64_w, i32_w]
               rfl
              refine pure_ (i := 7) (N := some 95) (v := ?_) (a' := ?_) #[true, true, true, true, true, true, true, true, false, true, false, false] rfl rfl (any_of HT_.out (by kernel_rfl)) (fun _ _ _ h => h) (Or.inl ⟨by rfl, ?_⟩) ?_ ?_
              rotate_left
              ·intro w'
               go_simp
               with_reducible rfl
              rotate_left
              ·simp only [Act.put, List.setIfInBounds_toArray, List.set_cons_zero, List.set_cons_succ, i64_w, i32_w]
               rfl
              refine pure_ (i := 8) (N := some 96) (v := ?_) (a' := ?_) #[true, true, true, true, true, true, true, true, true, true, false, false] rfl rfl (any_of HT_.out (by kernel_rfl)) (fun _ _ _ h => h) (Or.inl ⟨by rfl, ?_⟩) ?_ ?_
              rotate_left
              ·intro w'
               go_simp
               with_reducible rfl
              rotate_left
              ·simp only [Act.put, List.setIfInBounds_toArray, List.set_cons_zero, List.set_cons_succ, i64_w, i32_w]
               rfl
              exact norm_ (by simp only [putAll, Act.put, List.setIfInBounds_toArray, List.set_cons_zero, List.set_cons_succ]) (hCont (gb735) _ ⟨hHeld, (bq_ BK703), (bq_ BK713), (bq_ BK724), (bq_ BK735), GW735.out, GE735.out, NB703_735.out, NB735_703.out, NB713_735.out, NB735_713.out, NB724_735.out, NB735_724.out, (by repeat (first | (with_reducible first | exact HB.out | apply below_alloc | apply pw_below_drewN | apply below_drew1 | refine below_set ?_ (Aside0.out (by assumption))) | exact HB.out))⟩)
            rintro gb735 w87 ⟨hS_, h0_, h1_, h2_, h3_, h4_, h5_, h6_, h7_, h8_, h9_, h10_, h11_, h12_⟩
            have BK735 : Aside0 (w87.heap[gb735]? = some (.cells #[.int .i64 0, .int .i64 0, .int .i64 0, .int .i64 0, .int .i64 0, .int .u64 0] 26 (0, 0))) := ⟨h3_⟩
            have GW735 : Aside0 (w.heap.size ≤ gb735) := ⟨h4_⟩
            have GE735 : Aside0 (w.heap.size ≤ gb735) := ⟨h5_⟩
            have NB703_735 : Aside0 (gb703 ≠ gb735) := ⟨h6_⟩
            have NB735_703 : Aside0 (gb735 ≠ gb703) := ⟨h7_⟩
            have NB713_735 : Aside0 (gb713 ≠ gb735) := ⟨h8_⟩
            have NB735_713 : Aside0 (gb735 ≠ gb713) := ⟨h9_⟩
            have NB724_735 : Aside0 (gb724 ≠ gb735) := ⟨h10_⟩
            have NB735_724 : Aside0 (gb735 ≠ gb724) := ⟨h11_⟩
            replace BK703 : Aside0 (w87.heap[gb703]? = some (.cells #[.int .i64 a0_0, .int .i64 a0_1, .int .i64 a0_2] 23 (0, 0))) := ⟨h0_⟩
            replace BK713 : Aside0 (w87.heap[gb713]? = some (.cells #[.int .i64 t717, .int .i64 t718, .int .i64 t719, .int .i64 t720, .int .i64 t721, .int .u64 t722] 26 (0, 0))) := ⟨h1_⟩
            replace BK724 : Aside0 (w87.heap[gb724]? = some (.cells #[.int .i64 t717, .int .i64 t718, .int .i64 t719, .int .i64 t720, .int .i64 t721, .int .u64 t722] 26 (0, 0))) := ⟨h2_⟩
            replace HB : Aside0 (Below w.heap.size w w87) := ⟨h12_⟩
            clear h0_ h1_ h2_ h3_ h4_ h5_ h6_ h7_ h8_ h9_ h10_ h11_ h12_
            have hHeld : w87.cell? ⟨gb713, 0, none⟩ = some (.int .i64 t717) ∧ w87.cell? ⟨gb713, 1, none⟩ = some (.int .i64 t718) ∧ w87.cell? ⟨gb713, 2, none⟩ = some (.int .i64 t719) ∧ w87.cell? ⟨gb713, 3, none⟩ = some (.int .i64 t720) ∧ w87.cell? ⟨gb713, 4, none⟩ = some (.int .i64 t721) ∧ w87.cell? ⟨gb713, 5, none⟩ = some (.int .u64 t722) ∧ w87.cell? (ad727.add (x12_2).toNat) = some (.int .i64 (rd l3 x12_2)) := hS_
            refine norm_ (a' := ?_) ?_ ?_
            rotate_left
            ·simp only [putAll, Act.put, List.setIfInBounds_toArray, List.set_cons_zero, List.set_cons_succ]
             rfl
            refine one_ (i := 10) (N := none) #[true, true, true, true, true, true, true, true, true, true, true, false] rfl rfl (one_of HT_.out (by kernel_rfl)) (by decide) (fun K hK => ?_)
            have hs88 : w87.cell? ⟨gb735, 0, none⟩ = some (.int .i64 0) := (blk_cell BK735.out 0).trans rfl
            have hfs88 := blk_frozen BK735.out 0
            have hns88_0 := NB703_735.out
            have hns88_1 := NB713_735.out
            have hns88_2 := NB724_735.out
            have hms88_0 := NB735_703.out
            have hms88_1 := NB735_713.out
            have hms88_2 := NB735_724.out
            have hs89 : w87.cell? ⟨gb735, 1, none⟩ = some (.int .i64 0) := (blk_cell BK735.out 1).trans rfl
            have hfs89 := blk_frozen BK735.out 1
            have hns89_0 := NB703_735.out
            have hns89_1 := NB713_735.out
            have hns89_2 := NB724_735.out
            have hms89_0 := NB735_703.out
            have hms89_1 := NB735_713.out
            have hms89_2 := NB735_724.out
            have hs90 : w87.cell? ⟨gb735, 2, none⟩ = some (.int .i64 0) := (blk_cell BK735.out 2).trans rfl
            have hfs90 := blk_frozen BK735.out 2
            have hns90_0 := NB703_735.out
            have hns90_1 := NB713_735.out
            have hns90_2 := NB724_735.out
            have hms90_0 := NB735_703.out
            have hms90_1 := NB735_713.out
            have hms90_2 := NB735_724.out
            have hs91 : w87.cell? ⟨gb735, 3, none⟩ = some (.int .i64 0) := (blk_cell BK735.out 3).trans rfl
            have hfs91 := blk_frozen BK735.out 3
            have hns91_0 := NB703_735.out
            have hns91_1 := NB713_735.out
            have hns91_2 := NB724_735.out
            have hms91_0 := NB735_703.out
            have hms91_1 := NB735_713.out
            have hms91_2 := NB735_724.out
            have hs92 : w87.cell? ⟨gb735, 4, none⟩ = some (.int .i64 0) := (blk_cell BK735.out 4).trans rfl
            have hfs92 := blk_frozen BK735.out 4
            have hns92_0 := NB703_735.out
            have hns92_1 := NB713_735.out
            have hns92_2 := NB724_735.out
            have hms92_0 := NB735_703.out
            have hms92_1 := NB735_713.out
            have hms92_2 := NB735_724.out
            have hs93 : w87.cell? ⟨gb735, 5, none⟩ = some (.int .u64 0) := (blk_cell BK735.out 5).trans rfl
            have hfs93 := blk_frozen BK735.out 5
            have hns93_0 := NB703_735.out
            have hns93_1 := NB713_735.out
            have hns93_2 := NB724_735.out
            have hms93_0 := NB735_703.out
            have hms93_1 := NB735_713.out
            have hms93_2 := NB735_724.out
            refine skip_ (w1 := ?_) (by rfl) rfl ?_ ?_
            rotate_left
            ·go_simp
             rfl
            refine hK.out _ _ ⟨((cell_far (p := ⟨gb735, _, none⟩) NB713_735.out _).trans (((cell_far (p := ⟨gb735, _, none⟩) NB713_735.out _).trans (((cell_far (p := ⟨gb735, _, none⟩) NB713_735.out _).trans (((cell_far (p := ⟨gb735, _, none⟩) NB713_735.out _).trans (((cell_far (p := ⟨gb735, _, none⟩) NB713_735.out _).trans (((cell_far (p := ⟨gb735, _, none⟩) NB713_735.out _).trans (hHeld.1)))))))))))), ((cell_far (p := ⟨gb735, _, none⟩) NB713_735.out _).trans (((cell_far (p := ⟨gb735, _, none⟩) NB713_735.out _).trans (((cell_far (p := ⟨gb735, _, none⟩) NB713_735.out _).trans (((cell_far (p := ⟨gb735, _, none⟩) NB713_735.out _).trans (((cell_far (p := ⟨gb735, _, none⟩) NB713_735.out _).trans (((cell_far (p := ⟨gb735, _, none⟩) NB713_735.out _).trans (hHeld.2.1)))))))))))), ((cell_far (p := ⟨gb735, _, none⟩) NB713_735.out _).trans (((cell_far (p := ⟨gb735, _, none⟩) NB713_735.out _).trans (((cell_far (p := ⟨gb735, _, none⟩) NB713_735.out _).trans (((cell_far (p := ⟨gb735, _, none⟩) NB713_735.out _).trans (((cell_far (p := ⟨gb735, _, none⟩) NB713_735.out _).trans (((cell_far (p := ⟨gb735, _, none⟩) NB713_735.out _).trans (hHeld.2.2.1)))))))))))), ((cell_far (p := ⟨gb735, _, none⟩) NB713_735.out _).trans (((cell_far (p := ⟨gb735, _, none⟩) NB713_735.out _).trans (((cell_far (p := ⟨gb735, _, none⟩) NB713_735.out _).trans (((cell_far (p := ⟨gb735, _, none⟩) NB713_735.out _).trans (((cell_far (p := ⟨gb735, _, none⟩) NB713_735.out _).trans (((cell_far (p := ⟨gb735, _, none⟩) NB713_735.out _).trans (hHeld.2.2.2.1)))))))))))), ((cell_far (p := ⟨gb735, _, none⟩) NB713_735.out _).trans (((cell_far (p := ⟨gb735, _, none⟩) NB713_735.out _).trans (((cell_far (p := ⟨gb735, _, none⟩) NB713_735.out _).trans (((cell_far (p := ⟨gb735, _, none⟩) NB713_735.out _).trans (((cell_far (p := ⟨gb735, _, none⟩) NB713_735.out _).trans (((cell_far (p := ⟨gb735, _, none⟩) NB713_735.out _).trans (hHeld.2.2.2.2.1)))))))))))), ((cell_far (p := ⟨gb735, _, none⟩) NB713_735.out _).trans (((cell_far (p := ⟨gb735, _, none⟩) NB713_735.out _).trans (((cell_far (p := ⟨gb735, _, none⟩) NB713_735.out _).trans (((cell_far (p := ⟨gb735, _, none⟩) NB713_735.out _).trans (((cell_far (p := ⟨gb735, _, none⟩) NB713_735.out _).trans (((cell_far (p := ⟨gb735, _, none⟩) NB713_735.out _).trans (hHeld.2.2.2.2.2.1)))))))))))), ((cell_far (p := ⟨gb735, _, none⟩) (by first | exact Nat.ne_of_lt (Nat.lt_of_lt_of_le (by have := World.block_lt_of_cell? _ _ hw727_0; first | rwa [add_block] at this | exact this) GW735.out) | (rw [add_block]; exact Nat.ne_of_lt (Nat.lt_of_lt_of_le (by have := World.block_lt_of_cell? _ _ hw727_0; first | rwa [add_block] at this | exact this) GW735.out)) | (show (Addr.add _ _).block ≠ _; rw [add_block]; exact Nat.ne_of_lt (Nat.lt_of_lt_of_le (by have := World.block_lt_of_cell? _ _ hw727_0; first | rwa [add_block] at this | exact this) GW735.out)) | (dsimp only; exact Nat.ne_of_lt (Nat.lt_of_lt_of_le (by have := World.block_lt_of_cell? _ _ hw727_0; first | rwa [add_block] at this | exact this) GW735.out))) _).trans (((cell_far (p := ⟨gb735, _, none⟩) (by first | exact Nat.ne_of_lt (Nat.lt_of_lt_of_le (by have := World.block_lt_of_cell? _ _ hw727_0; first | rwa [add_block] at this | exact this) GW735.out) | (rw [add_block]; exact Nat.ne_of_lt (Nat.lt_of_lt_of_le (by have := World.block_lt_of_cell? _ _ hw727_0; first | rwa [add_block] at this | exact this) GW735.out)) | (show (Addr.add _ _).block ≠ _; rw [add_block]; exact Nat.ne_of_lt (Nat.lt_of_lt_of_le (by have := World.block_lt_of_cell? _ _ hw727_0; first | rwa [add_block] at this | exact this) GW735.out)) | (dsimp only; exact Nat.ne_of_lt (Nat.lt_of_lt_of_le (by have := World.block_lt_of_cell? _ _ hw727_0; first | rwa [add_block] at this | exact this) GW735.out))) _).trans (((cell_far (p := ⟨gb735, _, none⟩) (by first | exact Nat.ne_of_lt (Nat.lt_of_lt_of_le (by have := World.block_lt_of_cell? _ _ hw727_0; first | rwa [add_block] at this | exact this) GW735.out) | (rw [add_block]; exact Nat.ne_of_lt (Nat.lt_of_lt_of_le (by have := World.block_lt_of_cell? _ _ hw727_0; first | rwa [add_block] at this | exact this) GW735.out)) | (show (Addr.add _ _).block ≠ _; rw [add_block]; exact Nat.ne_of_lt (Nat.lt_of_lt_of_le (by have := World.block_lt_of_cell? _ _ hw727_0; first | rwa [add_block] at this | exact this) GW735.out)) | (dsimp only; exact Nat.ne_of_lt (Nat.lt_of_lt_of_le (by have := World.block_lt_of_cell? _ _ hw727_0; first | rwa [add_block] at this | exact this) GW735.out))) _).trans (((cell_far (p := ⟨gb735, _, none⟩) (by first | exact Nat.ne_of_lt (Nat.lt_of_lt_of_le (by have := World.block_lt_of_cell? _ _ hw727_0; first | rwa [add_block] at this | exact this) GW735.out) | (rw [add_block]; exact Nat.ne_of_lt (Nat.lt_of_lt_of_le (by have := World.block_lt_of_cell? _ _ hw727_0; first | rwa [add_block] at this | exact this) GW735.out)) | (show (Addr.add _ _).block ≠ _; rw [add_block]; exact Nat.ne_of_lt (Nat.lt_of_lt_of_le (by have := World.block_lt_of_cell? _ _ hw727_0; first | rwa [add_block] at this | exact this) GW735.out)) | (dsimp only; exact Nat.ne_of_lt (Nat.lt_of_lt_of_le (by have := World.block_lt_of_cell? _ _ hw727_0; first | rwa [add_block] at this | exact this) GW735.out))) _).trans (((cell_far (p := ⟨gb735, _, none⟩) (by first | exact Nat.ne_of_lt (Nat.lt_of_lt_of_le (by have := World.block_lt_of_cell? _ _ hw727_0; first | rwa [add_block] at this | exact this) GW735.out) | (rw [add_block]; exact Nat.ne_of_lt (Nat.lt_of_lt_of_le (by have := World.block_lt_of_cell? _ _ hw727_0; first | rwa [add_block] at this | exact this) GW735.out)) | (show (Addr.add _ _).block ≠ _; rw [add_block]; exact Nat.ne_of_lt (Nat.lt_of_lt_of_le (by have := World.block_lt_of_cell? _ _ hw727_0; first | rwa [add_block] at this | exact this) GW735.out)) | (dsimp only; exact Nat.ne_of_lt (Nat.lt_of_lt_of_le (by have := World.block_lt_of_cell? _ _ hw727_0; first | rwa [add_block] at this | exact this) GW735.out))) _).trans (((cell_far (p := ⟨gb735, _, none⟩) (by first | exact Nat.ne_of_lt (Nat.lt_of_lt_of_le (by have := World.block_lt_of_cell? _ _ hw727_0; first | rwa [add_block] at this | exact this) GW735.out) | (rw [add_block]; exact Nat.ne_of_lt (Nat.lt_of_lt_of_le (by have := World.block_lt_of_cell? _ _ hw727_0; first | rwa [add_block] at this | exact this) GW735.out)) | (show (Addr.add _ _).block ≠ _; rw [add_block]; exact Nat.ne_of_lt (Nat.lt_of_lt_of_le (by have := World.block_lt_of_cell? _ _ hw727_0; first | rwa [add_block] at this | exact this) GW735.out)) | (dsimp only; exact Nat.ne_of_lt (Nat.lt_of_lt_of_le (by have := World.block_lt_of_cell? _ _ hw727_0; first | rwa [add_block] at this | exact this) GW735.out))) _).trans (hHeld.2.2.2.2.2.2))))))))))))⟩ (fun hHeld => ?_)
            clear hK K
            refine pure_ (i := 11) (N := some 16) (v := ?_) (a' := ?_) #[true, true, true, true, true, true, true, true, true, true, true, true] rfl rfl (any_of HT_.out (by kernel_rfl)) (fun _ _ _ h => h) (Or.inl ⟨by rfl, ?_⟩) ?_ ?_
            rotate_left
            ·intro w'
             go_simp
             with_reducible rfl
            rotate_left
            ·simp only [Act.put, List.setIfInBounds_toArray, List.set_cons_zero, List.set_cons_succ, i64_w, i32_w]
             rfl
            refine done_ (done_of HT_.out (by kernel_rfl)) ?_
            try go_wp2
            have n0_ : Aside0 (((((((w87.setCell ⟨gb735, 0, none⟩ (.int .i64 t728)).setCell ⟨gb735, 1, none⟩ (.int .i64 t729)).setCell ⟨gb735, 2, none⟩ (.int .i64 t730)).setCell ⟨gb735, 3, none⟩ (.int .i64 t731)).setCell ⟨gb735, 4, none⟩ (.int .i64 t732)).setCell ⟨gb735, 5, none⟩ (.int .u64 t733)).heap[gb703]? = some (.cells #[.int .i64 a0_0, .int .i64 a0_1, .int .i64 a0_2] 23 (0, 0))) := ⟨(blk_far (blk_far (blk_far (blk_far (blk_far (blk_far (bq_ BK703) NB703_735.out _) NB703_735.out _) NB703_735.out _) NB703_735.out _) NB703_735.out _) NB703_735.out _)⟩
            have n1_ : Aside0 (((((((w87.setCell ⟨gb735, 0, none⟩ (.int .i64 t728)).setCell ⟨gb735, 1, none⟩ (.int .i64 t729)).setCell ⟨gb735, 2, none⟩ (.int .i64 t730)).setCell ⟨gb735, 3, none⟩ (.int .i64 t731)).setCell ⟨gb735, 4, none⟩ (.int .i64 t732)).setCell ⟨gb735, 5, none⟩ (.int .u64 t733)).heap[gb713]? = some (.cells #[.int .i64 t717, .int .i64 t718, .int .i64 t719, .int .i64 t720, .int .i64 t721, .int .u64 t722] 26 (0, 0))) := ⟨(blk_far (blk_far (blk_far (blk_far (blk_far (blk_far (bq_ BK713) NB713_735.out _) NB713_735.out _) NB713_735.out _) NB713_735.out _) NB713_735.out _) NB713_735.out _)⟩
            have n2_ : Aside0 (((((((w87.setCell ⟨gb735, 0, none⟩ (.int .i64 t728)).setCell ⟨gb735, 1, none⟩ (.int .i64 t729)).setCell ⟨gb735, 2, none⟩ (.int .i64 t730)).setCell ⟨gb735, 3, none⟩ (.int .i64 t731)).setCell ⟨gb735, 4, none⟩ (.int .i64 t732)).setCell ⟨gb735, 5, none⟩ (.int .u64 t733)).heap[gb724]? = some (.cells #[.int .i64 t717, .int .i64 t718, .int .i64 t719, .int .i64 t720, .int .i64 t721, .int .u64 t722] 26 (0, 0))) := ⟨(blk_far (blk_far (blk_far (blk_far (blk_far (blk_far (bq_ BK724) NB724_735.out _) NB724_735.out _) NB724_735.out _) NB724_735.out _) NB724_735.out _) NB724_735.out _)⟩
            have n3_ : Aside0 (((((((w87.setCell ⟨gb735, 0, none⟩ (.int .i64 t728)).setCell ⟨gb735, 1, none⟩ (.int .i64 t729)).setCell ⟨gb735, 2, none⟩ (.int .i64 t730)).setCell ⟨gb735, 3, none⟩ (.int .i64 t731)).setCell ⟨gb735, 4, none⟩ (.int .i64 t732)).setCell ⟨gb735, 5, none⟩ (.int .u64 t733)).heap[gb735]? = some (.cells #[.int .i64 t728, .int .i64 t729, .int .i64 t730, .int .i64 t731, .int .i64 t732, .int .u64 t733] 26 (0, 0))) := ⟨(blk_put (cs := #[.int .i64 t728, .int .i64 t729, .int .i64 t730, .int .i64 t731, .int .i64 t732, .int .u64 0]) (blk_put (cs := #[.int .i64 t728, .int .i64 t729, .int .i64 t730, .int .i64 t731, .int .i64 0, .int .u64 0]) (blk_put (cs := #[.int .i64 t728, .int .i64 t729, .int .i64 t730, .int .i64 0, .int .i64 0, .int .u64 0]) (blk_put (cs := #[.int .i64 t728, .int .i64 t729, .int .i64 0, .int .i64 0, .int .i64 0, .int .u64 0]) (blk_put (cs := #[.int .i64 t728, .int .i64 0, .int .i64 0, .int .i64 0, .int .i64 0, .int .u64 0]) (blk_put (cs := #[.int .i64 0, .int .i64 0, .int .i64 0, .int .i64 0, .int .i64 0, .int .u64 0]) (bq_ BK735) 0 _ rfl) 1 _ rfl) 2 _ rfl) 3 _ rfl) 4 _ rfl) 5 _ rfl)⟩
            have n4_ : Aside0 (Below w.heap.size w ((((((w87.setCell ⟨gb735, 0, none⟩ (.int .i64 t728)).setCell ⟨gb735, 1, none⟩ (.int .i64 t729)).setCell ⟨gb735, 2, none⟩ (.int .i64 t730)).setCell ⟨gb735, 3, none⟩ (.int .i64 t731)).setCell ⟨gb735, 4, none⟩ (.int .i64 t732)).setCell ⟨gb735, 5, none⟩ (.int .u64 t733))) := ⟨by repeat (first | (with_reducible first | exact HB.out | apply below_alloc | apply pw_below_drewN | apply below_drew1 | refine below_set ?_ GE703.out | refine below_set ?_ GE713.out | refine below_set ?_ GE724.out | refine below_set ?_ GE735.out) | exact HB.out)⟩
            (try clear BK703)
            (try clear BK713)
            (try clear BK724)
            (try clear BK735)
            (try clear HB)
            generalize ((((((w87.setCell ⟨gb735, 0, none⟩ (.int .i64 t728)).setCell ⟨gb735, 1, none⟩ (.int .i64 t729)).setCell ⟨gb735, 2, none⟩ (.int .i64 t730)).setCell ⟨gb735, 3, none⟩ (.int .i64 t731)).setCell ⟨gb735, 4, none⟩ (.int .i64 t732)).setCell ⟨gb735, 5, none⟩ (.int .u64 t733)) = w94 at n0_ n1_ n2_ n3_ n4_ ⊢
            have BK703 := n0_
            have BK713 := n1_
            have BK724 := n2_
            have BK735 := n3_
            have HB := n4_
            clear n0_ n1_ n2_ n3_ n4_
            replace BK703 := Aside0.mk (blk_drew BK703.out)
            replace BK713 := Aside0.mk (blk_drew BK713.out)
            replace BK724 := Aside0.mk (blk_drew BK724.out)
            replace BK735 := Aside0.mk (blk_drew BK735.out)
            replace HB := Aside0.mk (below_drew1 HB.out)
            have p737 : 0 ≤ (x12_2 : Int) := of_decide_eq_true (by first | (with_reducible assumption) | assumption)
            have q737 : x12_2 < (l3.length : Int) := of_decide_eq_true (by first | (with_reducible assumption) | assumption)
            obtain ⟨ad737, e737, hx737_0⟩ := Kd.at_int HR3.out x12_2 p737 q737
            have hw737_0 := hx737_0
            obtain rfl : ad727 = ad737 := (by injection e737)
            replace hx737_0 := (HB.out.cell (World.block_lt_of_cell? w _ hx737_0)).trans hx737_0
            replace p737 := eq_true p737
            replace q737 := eq_true q737
            refine start_ (n := 11) (S := fun w' => w'.cell? ⟨gb713, 0, none⟩ = some (.int .i64 t717) ∧ w'.cell? ⟨gb713, 1, none⟩ = some (.int .i64 t718) ∧ w'.cell? ⟨gb713, 2, none⟩ = some (.int .i64 t719) ∧ w'.cell? ⟨gb713, 3, none⟩ = some (.int .i64 t720) ∧ w'.cell? ⟨gb713, 4, none⟩ = some (.int .i64 t721) ∧ w'.cell? ⟨gb713, 5, none⟩ = some (.int .u64 t722) ∧ w'.cell? (ad727.add (x12_2).toNat) = some (.int .i64 (rd l3 x12_2))) (ds := []) #[false, false, false, false, false, false, false, false, false, false, false] (by kernel_rfl) rfl rfl ⟨(blk_cell BK713.out 0).trans rfl, (blk_cell BK713.out 1).trans rfl, (blk_cell BK713.out 2).trans rfl, (blk_cell BK713.out 3).trans rfl, (blk_cell BK713.out 4).trans rfl, (blk_cell BK713.out 5).trans rfl, ((HB.out.cell (World.block_lt_of_cell? w _ hw737_0)).trans hw737_0)⟩ (fun hHeld => ?_); refine with_tabW spigotlaw03_BucketBound.tab20 spigotlaw03_BucketBound.bits20 (fun HT_ HW_ => ?_)
            generalize w94.drew = w95 at BK703 BK713 BK724 BK735 HB hx737_0 hHeld ⊢
            refine pure_ (i := 0) (N := some 107) (v := ?_) (a' := ?_) #[true, false, false, false, false, false, false, false, false, false, false] rfl rfl (any_of HT_.out (by kernel_rfl)) (fun _ _ _ h => h) (Or.inl ⟨by rfl, ?_⟩) ?_ ?_
            rotate_left
            ·intro w'
             go_simp
             with_reducible rfl
            rotate_left
            ·simp only [Act.put, List.setIfInBounds_toArray, List.set_cons_zero, List.set_cons_succ, i64_w, i32_w]
             rfl
            refine pure_ (i := 1) (N := some 108) (v := ?_) (a' := ?_) #[true, true, false, false, false, false, false, false, false, false, false] rfl rfl (any_of HT_.out (by kernel_rfl)) (fun _ _ _ h => h) (Or.inl ⟨by rfl, ?_⟩) ?_ ?_
            rotate_left
            ·intro w'
             go_simp
             with_reducible rfl
            rotate_left
            ·simp only [Act.put, List.setIfInBounds_toArray, List.set_cons_zero, List.set_cons_succ, i64_w, i32_w]
             rfl
            refine pure_ (i := 2) (N := some 109) (v := ?_) (a' := ?_) #[true, true, true, false, false, false, false, false, false, false, false] rfl rfl (any_of HT_.out (by kernel_rfl)) (fun _ _ _ h => h) (Or.inl ⟨by rfl, ?_⟩) ?_ ?_
            rotate_left
            ·intro w'
             go_simp
             with_reducible rfl
            rotate_left
            ·simp only [Act.put, List.setIfInBounds_toArray, List.set_cons_zero, List.set_cons_succ, i64_w, i32_w]
             rfl
            refine pure_ (i := 3) (N := some 110) (v := ?_) (a' := ?_) #[true, true, true, true, false, false, false, false, false, false, false] rfl rfl (any_of HT_.out (by kernel_rfl)) (fun _ _ _ h => h) (Or.inl ⟨by rfl, ?_⟩) ?_ ?_
            rotate_left
            ·intro w'
             go_simp
             with_reducible rfl
            rotate_left
            ·simp only [Act.put, List.setIfInBounds_toArray, List.set_cons_zero, List.set_cons_succ, i64_w, i32_w]
             rfl
            refine pure_ (i := 5) (N := some 112) (v := ?_) (a' := ?_) #[true, true, true, true, false, true, false, false, false, false, false] rfl rfl (any_of HT_.out (by kernel_rfl)) (fun _ _ _ h => h) (Or.inl ⟨by rfl, ?_⟩) ?_ ?_
            rotate_left
            ·intro w'
             go_simp
             with_reducible rfl
            rotate_left
            ·simp only [Act.put, List.setIfInBounds_toArray, List.set_cons_zero, List.set_cons_succ, i64_w, i32_w]
             rfl
            refine pure_ (i := 6) (N := some 113) (v := ?_) (a' := ?_) #[true, true, true, true, false, true, true, false, false, false, false] rfl rfl (any_of HT_.out (by kernel_rfl)) (fun _ _ _ h => h) (Or.inl ⟨by rfl, ?_⟩) ?_ ?_
            rotate_left
            ·intro w'
             go_simp
             with_reducible rfl
            rotate_left
            ·simp only [Act.put, List.setIfInBounds_toArray, List.set_cons_zero, List.set_cons_succ, i64_w, i32_w]
             rfl
            refine pure_ (i := 7) (N := some 114) (v := ?_) (a' := ?_) #[true, true, true, true, false, true, true, true, false, false, false] rfl rfl (any_of HT_.out (by kernel_rfl)) (fun _ _ _ h => h) (Or.inl ⟨by rfl, ?_⟩) ?_ ?_
            rotate_left
            ·intro w'
             go_simp
             with_reducible rfl
            rotate_left
            ·simp only [Act.put, List.setIfInBounds_toArray, List.set_cons_zero, List.set_cons_succ, i64_w, i32_w]
             rfl
            refine take_ (i := 4) (N := some 111) (v := ?_) (a' := ?_) #[true, true, true, true, true, true, true, true, false, false, false] rfl rfl (take_ofW HT_.out HW_.out (by kernel_rfl)) (fun _ _ _ h => h) (Or.inl ⟨by rfl, ?_⟩) hHeld ?_ ?_
            rotate_left
            ·rintro w' ⟨s0, s1, s2, s3, s4, s5, s6⟩
             go_simp
             with_reducible rfl
            rotate_left
            ·simp only [Act.put, List.setIfInBounds_toArray, List.set_cons_zero, List.set_cons_succ, i64_w, i32_w]
             rfl
            refine take_ (i := 8) (N := some 115) (v := ?_) (a' := ?_) #[true, true, true, true, true, true, true, true, true, false, false] rfl rfl (take_ofW HT_.out HW_.out (by kernel_rfl)) (fun _ _ _ h => h) (Or.inl ⟨by rfl, ?_⟩) hHeld ?_ ?_
            rotate_left
            ·rintro w' ⟨s0, s1, s2, s3, s4, s5, s6⟩
             go_simp
             with_reducible rfl
            rotate_left
            ·simp only [Act.put, List.setIfInBounds_toArray, List.set_cons_zero, List.set_cons_succ, i64_w, i32_w]
             rfl
            refine pure_ (i := 9) (N := some 116) (v := ?_) (a' := ?_) #[true, true, true, true, true, true, true, true, true, true, false] rfl rfl (any_of HT_.out (by kernel_rfl)) (fun _ _ _ h => h) (Or.inl ⟨by rfl, ?_⟩) ?_ ?_
            rotate_left
            ·intro w'
             go_simp
             with_reducible rfl
            rotate_left
            ·simp only [Act.put, List.setIfInBounds_toArray, List.set_cons_zero, List.set_cons_succ, i64_w, i32_w]
             rfl
            refine pure_ (i := 10) (N := some 117) (v := ?_) (a' := ?_) #[true, true, true, true, true, true, true, true, true, true, true] rfl rfl (any_of HT_.out (by kernel_rfl)) (fun _ _ _ h => h) (Or.inl ⟨by rfl, ?_⟩) ?_ ?_
            rotate_left
            ·intro w'
             go_simp
             with_reducible rfl
            rotate_left
            ·simp only [Act.put, List.setIfInBounds_toArray, List.set_cons_zero, List.set_cons_succ, i64_w, i32_w]
             rfl
            refine done_ (done_of HT_.out (by kernel_rfl)) ?_
            try go_wp2
            go_roundg kj32
            case measure => have := HJ4.out; have := HK2.out; have := HJ32.out; omega
            case rel => exact ⟨(x11_2), (wrap64 (x12_2 + 1)), (t717), (t718), (t719), (t720), (t721), (t722), (by first | rfl | (simp; done) | (simp [*]; done)), (by first | rfl | (simp; done) | (simp [*]; done)), H', ⟨by have := HJ4.out; have := HK2.out; have := HJ32.out; omega⟩, ⟨bq_ BK703⟩, ⟨bq_ BK713⟩, ⟨by repeat (first | (with_reducible first | exact HB.out | apply below_alloc | apply pw_below_drewN | apply below_drew1 | refine below_set ?_ GE703.out | refine below_set ?_ GE713.out | refine below_set ?_ GE724.out | refine below_set ?_ GE735.out) | exact HB.out)⟩⟩
      ·rw [if_neg c26] at H
       have c26b0 : decide (x12_2 < (l2.length : Int)) = false := decide_eq_false c26
       clear c26
       replace H := Option.bind_eq_some_iff.mp H
       obtain ⟨⟨t738, t739⟩, A960, H⟩ := H
       try dsimp only at H
       have A96 := Aside0.mk A960
       clear A960
       replace H := Option.bind_eq_some_iff.mp H
       obtain ⟨⟨t740, t741, t742, t743⟩, A970, H⟩ := H
       try dsimp only at H
       have A97 := Aside0.mk A970
       clear A970
       replace H := Option.bind_eq_some_iff.mp H
       obtain ⟨⟨t745, t746⟩, A980, H⟩ := H
       try dsimp only at H
       have A98 := Aside0.mk A980
       clear A980
       replace H := Option.bind_eq_some_iff.mp H
       obtain ⟨⟨t747, t748, t749⟩, A990, H⟩ := H
       try dsimp only at H
       have A99 := Aside0.mk A990
       clear A990
       by_cases c100 : t743 = 0
       rotate_left
       ·rw [if_neg c100] at H; exact absurd H (by simp)
       rw [if_pos c100] at H
       have c100b0 : (t743 == 0) = true := beq_iff_eq.mpr c100
       have c100b1 : (t743 != 0) = false := bne_eq_false_iff_eq.mpr c100
       clear c100
       by_cases c101 : t749 = 0
       rotate_left
       ·rw [if_neg c101] at H; exact absurd H (by simp)
       rw [if_pos c101] at H
       have c101b0 : (t749 == 0) = true := beq_iff_eq.mpr c101
       have c101b1 : (t749 != 0) = false := bne_eq_false_iff_eq.mpr c101
       clear c101
       replace H := Option.bind_eq_some_iff.mp H
       obtain ⟨⟨t751, t752⟩, A1020, H⟩ := H
       replace H : ((wide_Cmp.f k2 t751 t752 t747 t748).bind fun t753 => (if t753 ≤ 0 then ((spigotlaw03_alive.f k2).bind fun t754 => (some t754)) else (none))) = some r := H
       have A102 := Aside0.mk A1020
       clear A1020
       replace H := Option.bind_eq_some_iff.mp H
       obtain ⟨t753, A1030, H⟩ := H
       replace H : (if t753 ≤ 0 then ((spigotlaw03_alive.f k2).bind fun t754 => (some t754)) else (none)) = some r := H
       have A103 := Aside0.mk A1030
       clear A1030
       by_cases c104 : t753 ≤ 0
       rotate_left
       ·rw [if_neg c104] at H; exact absurd H (by simp)
       rw [if_pos c104] at H
       have c104b0 : decide (t753 ≤ 0) = true := decide_eq_true c104
       clear c104
       replace H := Option.bind_eq_some_iff.mp H
       obtain ⟨t754, A1050, H⟩ := H
       replace H : (some t754) = some r := H
       have A105 := Aside0.mk A1050
       clear A1050
       obtain rfl := Option.some.inj H
       try go_wp2
       replace BK703 := Aside0.mk (blk_drew BK703.out)
       replace BK713 := Aside0.mk (blk_drew BK713.out)
       replace HB := Aside0.mk (below_drew1 HB.out)
       refine start_ (n := 20) (S := fun w' => w'.cell? ⟨gb713, 0, none⟩ = some (.int .i64 x714000_2) ∧ w'.cell? ⟨gb713, 1, none⟩ = some (.int .i64 x714001_2) ∧ w'.cell? ⟨gb713, 2, none⟩ = some (.int .i64 x714002_2) ∧ w'.cell? ⟨gb713, 3, none⟩ = some (.int .i64 x714003_2) ∧ w'.cell? ⟨gb713, 4, none⟩ = some (.int .i64 x714004_2) ∧ w'.cell? ⟨gb713, 5, none⟩ = some (.int .u64 x714005_2) ∧ w'.cell? ⟨gb703, 0, none⟩ = some (.int .i64 a0_0) ∧ w'.cell? ⟨gb703, 1, none⟩ = some (.int .i64 a0_1) ∧ w'.cell? ⟨gb703, 2, none⟩ = some (.int .i64 a0_2)) (ds := []) #[false, false, false, false, false, false, false, false, false, false, false, false, false, false, false, false, false, false, false, false] (by kernel_rfl) rfl rfl ⟨(blk_cell BK713.out 0).trans rfl, (blk_cell BK713.out 1).trans rfl, (blk_cell BK713.out 2).trans rfl, (blk_cell BK713.out 3).trans rfl, (blk_cell BK713.out 4).trans rfl, (blk_cell BK713.out 5).trans rfl, (blk_cell BK703.out 0).trans rfl, (blk_cell BK703.out 1).trans rfl, (blk_cell BK703.out 2).trans rfl⟩ (fun hHeld => ?_); refine with_tabW spigotlaw03_BucketBound.tab22 spigotlaw03_BucketBound.bits22 (fun HT_ HW_ => ?_)
       generalize wr.drew = w106 at BK703 BK713 HB hHeld ⊢
       refine pure_ (i := 0) (N := some 119) (v := ?_) (a' := ?_) #[true, false, false, false, false, false, false, false, false, false, false, false, false, false, false, false, false, false, false, false] rfl rfl (any_of HT_.out (by kernel_rfl)) (fun _ _ _ h => h) (Or.inl ⟨by rfl, ?_⟩) ?_ ?_
       rotate_left
       ·intro w'
        go_simp
        with_reducible rfl
       rotate_left
       ·simp only [Act.put, List.setIfInBounds_toArray, List.set_cons_zero, List.set_cons_succ, i64_w, i32_w]
        rfl
       refine pure_ (i := 2) (N := some 121) (v := ?_) (a' := ?_) #[true, false, true, false, false, false, false, false, false, false, false, false, false, false, false, false, false, false, false, false] rfl rfl (any_of HT_.out (by kernel_rfl)) (fun _ _ _ h => h) (Or.inl ⟨by rfl, ?_⟩) ?_ ?_
       rotate_left
       ·intro w'
        go_simp
        with_reducible rfl
       rotate_left
       ·simp only [Act.put, List.setIfInBounds_toArray, List.set_cons_zero, List.set_cons_succ, i64_w, i32_w]
        rfl
       refine pure_ (i := 4) (N := some 123) (v := ?_) (a' := ?_) #[true, false, true, false, true, false, false, false, false, false, false, false, false, false, false, false, false, false, false, false] rfl rfl (any_of HT_.out (by kernel_rfl)) (fun _ _ _ h => h) (Or.inl ⟨by rfl, ?_⟩) ?_ ?_
       rotate_left
       ·intro w'
        go_simp
        with_reducible rfl
       rotate_left
       ·simp only [Act.put, List.setIfInBounds_toArray, List.set_cons_zero, List.set_cons_succ, i64_w, i32_w]
        rfl
       refine pure_ (i := 8) (N := some 127) (v := ?_) (a' := ?_) #[true, false, true, false, true, false, false, false, true, false, false, false, false, false, false, false, false, false, false, false] rfl rfl (any_of HT_.out (by kernel_rfl)) (fun _ _ _ h => h) (Or.inl ⟨by rfl, ?_⟩) ?_ ?_
       rotate_left
       ·intro w'
        go_simp
        with_reducible rfl
       rotate_left
       ·simp only [Act.put, List.setIfInBounds_toArray, List.set_cons_zero, List.set_cons_succ, i64_w, i32_w]
        rfl
       refine take_ (i := 1) (N := some 120) (v := ?_) (a' := ?_) #[true, true, true, false, true, false, false, false, true, false, false, false, false, false, false, false, false, false, false, false] rfl rfl (take_ofW HT_.out HW_.out (by kernel_rfl)) (fun _ _ _ h => h) (Or.inl ⟨by rfl, ?_⟩) hHeld ?_ ?_
       rotate_left
       ·rintro w' ⟨s0, s1, s2, s3, s4, s5, s6, s7, s8⟩
        go_simp
        with_reducible rfl
       rotate_left
       ·simp only [Act.put, List.setIfInBounds_toArray, List.set_cons_zero, List.set_cons_succ, i64_w, i32_w]
        rfl
       refine pure_ (i := 3) (N := some 122) (v := ?_) (a' := ?_) #[true, true, true, true, true, false, false, false, true, false, false, false, false, false, false, false, false, false, false, false] rfl rfl (any_of HT_.out (by kernel_rfl)) (fun _ _ _ h => h) (Or.inl ⟨by rfl, ?_⟩) ?_ ?_
       rotate_left
       ·intro w'
        go_simp
        with_reducible rfl
       rotate_left
       ·simp only [Act.put, List.setIfInBounds_toArray, List.set_cons_zero, List.set_cons_succ, i64_w, i32_w]
        rfl
       refine take_ (i := 5) (N := some 124) (v := ?_) (a' := ?_) #[true, true, true, true, true, true, false, false, true, false, false, false, false, false, false, false, false, false, false, false] rfl rfl (take_ofW HT_.out HW_.out (by kernel_rfl)) (fun _ _ _ h => h) (Or.inl ⟨by rfl, ?_⟩) hHeld ?_ ?_
       rotate_left
       ·rintro w' ⟨s0, s1, s2, s3, s4, s5, s6, s7, s8⟩
        go_simp
        with_reducible rfl
       rotate_left
       ·simp only [Act.put, List.setIfInBounds_toArray, List.set_cons_zero, List.set_cons_succ, i64_w, i32_w]
        rfl
       refine pure_ (i := 6) (N := some 125) (v := ?_) (a' := ?_) #[true, true, true, true, true, true, true, false, true, false, false, false, false, false, false, false, false, false, false, false] rfl rfl (any_of HT_.out (by kernel_rfl)) (fun _ _ _ h => h) (Or.inl ⟨by rfl, ?_⟩) ?_ ?_
       rotate_left
       ·intro w'
        go_simp
        with_reducible rfl
       rotate_left
       ·simp only [Act.put, List.setIfInBounds_toArray, List.set_cons_zero, List.set_cons_succ, i64_w, i32_w]
        rfl
       refine take_ (i := 9) (N := some 128) (v := ?_) (a' := ?_) #[true, true, true, true, true, true, true, false, true, true, false, false, false, false, false, false, false, false, false, false] rfl rfl (take_ofW HT_.out HW_.out (by kernel_rfl)) (fun _ _ _ h => h) (Or.inl ⟨by rfl, ?_⟩) hHeld ?_ ?_
       rotate_left
       ·rintro w' ⟨s0, s1, s2, s3, s4, s5, s6, s7, s8⟩
        go_simp
        with_reducible rfl
       rotate_left
       ·simp only [Act.put, List.setIfInBounds_toArray, List.set_cons_zero, List.set_cons_succ, i64_w, i32_w]
        rfl
       refine pure_ (i := 10) (N := some 129) (v := ?_) (a' := ?_) #[true, true, true, true, true, true, true, false, true, true, true, false, false, false, false, false, false, false, false, false] rfl rfl (any_of HT_.out (by kernel_rfl)) (fun _ _ _ h => h) (Or.inl ⟨by rfl, ?_⟩) ?_ ?_
       rotate_left
       ·intro w'
        go_simp
        with_reducible rfl
       rotate_left
       ·simp only [Act.put, List.setIfInBounds_toArray, List.set_cons_zero, List.set_cons_succ, i64_w, i32_w]
        rfl
       refine join_ (σ := Nat) 3 #[true, true, true, true, true, true, true, true, true, true, true, true, true, true, true, true, true, false, false, false] (fun s_ => [(126, .agg #[.int .u64 t738, .int .u64 t739]), (130, .tuple #[.agg #[.int .u64 t740, .int .u64 t741], .int .u64 t742, .int .i64 t743]), (17, .pointer (some ⟨s_, 0, none⟩)), (118, .tuple #[.agg #[.int .u64 t740, .int .u64 t741], .int .u64 t742, .int .i64 t743]), (131, .agg #[.int .u64 t740, .int .u64 t741]), (132, .int .u64 t742), (133, .int .i64 t743)]) (fun s_ w' => (w'.cell? ⟨gb713, 0, none⟩ = some (.int .i64 x714000_2) ∧ w'.cell? ⟨gb713, 1, none⟩ = some (.int .i64 x714001_2) ∧ w'.cell? ⟨gb713, 2, none⟩ = some (.int .i64 x714002_2) ∧ w'.cell? ⟨gb713, 3, none⟩ = some (.int .i64 x714003_2) ∧ w'.cell? ⟨gb713, 4, none⟩ = some (.int .i64 x714004_2) ∧ w'.cell? ⟨gb713, 5, none⟩ = some (.int .u64 x714005_2) ∧ w'.cell? ⟨gb703, 0, none⟩ = some (.int .i64 a0_0) ∧ w'.cell? ⟨gb703, 1, none⟩ = some (.int .i64 a0_1) ∧ w'.cell? ⟨gb703, 2, none⟩ = some (.int .i64 a0_2)) ∧ (w'.heap[gb703]? = some (.cells #[.int .i64 a0_0, .int .i64 a0_1, .int .i64 a0_2] 23 (0, 0))) ∧ (w'.heap[gb713]? = some (.cells #[.int .i64 x714000_2, .int .i64 x714001_2, .int .i64 x714002_2, .int .i64 x714003_2, .int .i64 x714004_2, .int .u64 x714005_2] 26 (0, 0))) ∧ (w'.heap[s_]? = some (.cells #[.int .u64 0, .int .u64 0] 60 (0, 0))) ∧ (w.heap.size ≤ s_) ∧ (w.heap.size ≤ s_) ∧ (gb703 ≠ s_) ∧ (s_ ≠ gb703) ∧ (gb713 ≠ s_) ∧ (s_ ≠ gb713) ∧ (Below w.heap.size w w')) ?_ ?_
       rotate_left
       ·intro hCont
        refine two_ (i := 7) (j := 16) (Ni := some 126) (Nj := some 17) #[true, true, true, true, true, true, true, true, true, true, true, false, false, false, false, false, false, false, false, false] #[true, true, true, true, true, true, true, false, true, true, true, false, false, false, false, false, true, false, false, false] rfl rfl rfl rfl (two_of HT_.out (by kernel_rfl)) (by decide) (by decide) (fun K hK => ?_) (fun K hK => ?_)
        ·skip
         refine goes_ Try.func30 (by kernel_rfl) rfl #[.int .u64 (IntKind.u64.wrap (x714005_2 - a1)), .int .u64 (IntKind.u64.wrap (a0_1))] (by rfl) rfl rfl (by (try simp only [List.map_toArray, List.map_cons, List.map_nil]); first | done | rfl | (simp only [List.length_drop, List.length_take]; rfl)) ?_
         with_reducible refine (wide_Mul.calls (IntKind.u64.wrap (x714005_2 - a1)) (IntKind.u64.wrap (a0_1)) t738 t739 _ A96.out).mono ?_
         rintro e w107 ⟨rfl, hb⟩
         refine ⟨_, rfl, ?_⟩
         replace BK703 := bb_ BK703 hb
         replace BK713 := bb_ BK713 hb
         replace HB := bs_ w hb
         (try clear hb)
         (try clear hb2)
         (try clear hk)
         (try clear hi)
         refine hK.out _ _ ⟨(blk_cell BK713.out 0).trans rfl, (blk_cell BK713.out 1).trans rfl, (blk_cell BK713.out 2).trans rfl, (blk_cell BK713.out 3).trans rfl, (blk_cell BK713.out 4).trans rfl, (blk_cell BK713.out 5).trans rfl, (blk_cell BK703.out 0).trans rfl, (blk_cell BK703.out 1).trans rfl, (blk_cell BK703.out 2).trans rfl⟩ (fun hHeld => ?_)
         clear hK K
         refine norm_ (a' := ?_) ?_ ?_
         rotate_left
         ·show Act.put _ (some 126) _ = _
          simp only [Act.put, List.setIfInBounds_toArray, List.set_cons_zero, List.set_cons_succ, i64_w, i32_w]
          rfl
         refine two_ (i := 11) (j := 16) (Ni := some 130) (Nj := some 17) #[true, true, true, true, true, true, true, true, true, true, true, true, false, false, false, false, false, false, false, false] #[true, true, true, true, true, true, true, true, true, true, true, false, false, false, false, false, true, false, false, false] rfl rfl rfl rfl (two_of HT_.out (by kernel_rfl)) (by decide) (by decide) (fun K hK => ?_) (fun K hK => ?_)
         ·skip
          refine goes_ Try.func33 (by kernel_rfl) rfl #[.agg #[.int .u64 t738, .int .u64 t739], .int .u64 (IntKind.u64.wrap (a0_2))] (by rfl) rfl rfl (by (try simp only [List.map_toArray, List.map_cons, List.map_nil]); first | done | rfl | (simp only [List.length_drop, List.length_take]; rfl)) ?_
          with_reducible refine (wide_Div.calls k2 t738 t739 (IntKind.u64.wrap (a0_2)) t740 t741 t742 t743 _ A97.out).mono ?_
          rintro e w108 ⟨rfl, hb⟩
          refine ⟨_, rfl, ?_⟩
          replace BK703 := bb_ BK703 hb
          replace BK713 := bb_ BK713 hb
          replace HB := bs_ w hb
          (try clear hb)
          (try clear hb2)
          (try clear hk)
          (try clear hi)
          refine hK.out _ _ ⟨(blk_cell BK713.out 0).trans rfl, (blk_cell BK713.out 1).trans rfl, (blk_cell BK713.out 2).trans rfl, (blk_cell BK713.out 3).trans rfl, (blk_cell BK713.out 4).trans rfl, (blk_cell BK713.out 5).trans rfl, (blk_cell BK703.out 0).trans rfl, (blk_cell BK703.out 1).trans rfl, (blk_cell BK703.out 2).trans rfl⟩ (fun hHeld => ?_)
          clear hK K
          refine norm_ (a' := ?_) ?_ ?_
          rotate_left
          ·show Act.put _ (some 130) _ = _
           simp only [Act.put, List.setIfInBounds_toArray, List.set_cons_zero, List.set_cons_succ, i64_w, i32_w]
           rfl
          refine pure_ (i := 12) (N := some 118) (v := ?_) (a' := ?_) #[true, true, true, true, true, true, true, true, true, true, true, true, true, false, false, false, false, false, false, false] rfl rfl (any_of HT_.out (by kernel_rfl)) (fun _ _ _ h => h) (Or.inl ⟨by rfl, ?_⟩) ?_ ?_
          rotate_left
          ·intro w'
           go_simp
           with_reducible rfl
          rotate_left
          ·simp only [Act.put, List.setIfInBounds_toArray, List.set_cons_zero, List.set_cons_succ, i64_w, i32_w]
           rfl
          refine pure_ (i := 13) (N := some 131) (v := ?_) (a' := ?_) #[true, true, true, true, true, true, true, true, true, true, true, true, true, true, false, false, false, false, false, false] rfl rfl (any_of HT_.out (by kernel_rfl)) (fun _ _ _ h => h) (Or.inl ⟨by rfl, ?_⟩) ?_ ?_
          rotate_left
          ·intro w'
           go_simp
           with_reducible rfl
          rotate_left
          ·simp only [Act.put, List.setIfInBounds_toArray, List.set_cons_zero, List.set_cons_succ, i64_w, i32_w]
           rfl
          refine pure_ (i := 14) (N := some 132) (v := ?_) (a' := ?_) #[true, true, true, true, true, true, true, true, true, true, true, true, true, true, true, false, false, false, false, false] rfl rfl (any_of HT_.out (by kernel_rfl)) (fun _ _ _ h => h) (Or.inl ⟨by rfl, ?_⟩) ?_ ?_
          rotate_left
          ·intro w'
           go_simp
           with_reducible rfl
          rotate_left
          ·simp only [Act.put, List.setIfInBounds_toArray, List.set_cons_zero, List.set_cons_succ, i64_w, i32_w]
           rfl
          refine pure_ (i := 15) (N := some 133) (v := ?_) (a' := ?_) #[true, true, true, true, true, true, true, true, true, true, true, true, true, true, true, true, false, false, false, false] rfl rfl (any_of HT_.out (by kernel_rfl)) (fun _ _ _ h => h) (Or.inl ⟨by rfl, ?_⟩) ?_ ?_
          rotate_left
          ·intro w'
           go_simp
           with_reducible rfl
          rotate_left
          ·simp only [Act.put, List.setIfInBounds_toArray, List.set_cons_zero, List.set_cons_succ, i64_w, i32_w]
           rfl
          refine one_ (i := 16) (N := some 17) #[true, true, true, true, true, true, true, true, true, true, true, true, true, true, true, true, true, false, false, false] rfl rfl (one_of HT_.out (by kernel_rfl)) (by decide) (fun K hK => ?_)
          refine box_step ?hg (N := 17) ?hd (cs := #[.int .u64 0, .int .u64 0]) (t := 60) ?hr ?_; (case hd => rfl); (case hg => rfl); (case hr => first | (go_simp; done) | (go_simp; rfl))
          intro gb744 hg w109 hbox hb
          have BK744 := Aside0.mk (hbox)
          have GW744 := bz_ w hg
          have GE744 := GW744
          have NB703_744 := bn_ BK703 hg
          have NB744_703 := bm_ BK703 hg
          have NB713_744 := bn_ BK713 hg
          have NB744_713 := bm_ BK713 hg
          replace BK703 := bb_ BK703 hb
          replace BK713 := bb_ BK713 hb
          replace HB := bs_ w hb
          clear hb hbox hg
          refine hK.out _ _ ⟨(blk_cell BK713.out 0).trans rfl, (blk_cell BK713.out 1).trans rfl, (blk_cell BK713.out 2).trans rfl, (blk_cell BK713.out 3).trans rfl, (blk_cell BK713.out 4).trans rfl, (blk_cell BK713.out 5).trans rfl, (blk_cell BK703.out 0).trans rfl, (blk_cell BK703.out 1).trans rfl, (blk_cell BK703.out 2).trans rfl⟩ (fun hHeld => ?_)
          clear hK K
          refine norm_ (a' := ?_) ?_ ?_
          rotate_left
          ·show Act.put _ (some 17) _ = _
           simp only [Act.put, List.setIfInBounds_toArray, List.set_cons_zero, List.set_cons_succ, i64_w, i32_w]
           rfl
          exact norm_ (by simp only [putAll, Act.put, List.setIfInBounds_toArray, List.set_cons_zero, List.set_cons_succ]) (hCont (gb744) _ ⟨hHeld, (bq_ BK703), (bq_ BK713), (bq_ BK744), GW744.out, GE744.out, NB703_744.out, NB744_703.out, NB713_744.out, NB744_713.out, (by repeat (first | (with_reducible first | exact HB.out | apply below_alloc | apply pw_below_drewN | apply below_drew1 | refine below_set ?_ (Aside0.out (by assumption))) | exact HB.out))⟩)
         ·skip
          refine box_step ?hg (N := 17) ?hd (cs := #[.int .u64 0, .int .u64 0]) (t := 60) ?hr ?_; (case hd => rfl); (case hg => rfl); (case hr => first | (go_simp; done) | (go_simp; rfl))
          intro gb744 hg w108 hbox hb
          have BK744 := Aside0.mk (hbox)
          have GW744 := bz_ w hg
          have GE744 := GW744
          have NB703_744 := bn_ BK703 hg
          have NB744_703 := bm_ BK703 hg
          have NB713_744 := bn_ BK713 hg
          have NB744_713 := bm_ BK713 hg
          replace BK703 := bb_ BK703 hb
          replace BK713 := bb_ BK713 hb
          replace HB := bs_ w hb
          clear hb hbox hg
          refine hK.out _ _ ⟨(blk_cell BK713.out 0).trans rfl, (blk_cell BK713.out 1).trans rfl, (blk_cell BK713.out 2).trans rfl, (blk_cell BK713.out 3).trans rfl, (blk_cell BK713.out 4).trans rfl, (blk_cell BK713.out 5).trans rfl, (blk_cell BK703.out 0).trans rfl, (blk_cell BK703.out 1).trans rfl, (blk_cell BK703.out 2).trans rfl⟩ (fun hHeld => ?_)
          clear hK K
          refine norm_ (a' := ?_) ?_ ?_
          rotate_left
          ·show Act.put _ (some 17) _ = _
           simp only [Act.put, List.setIfInBounds_toArray, List.set_cons_zero, List.set_cons_succ, i64_w, i32_w]
           rfl
          refine one_ (i := 11) (N := some 130) #[true, true, true, true, true, true, true, true, true, true, true, true, false, false, false, false, true, false, false, false] rfl rfl (one_of HT_.out (by kernel_rfl)) (by decide) (fun K hK => ?_)
          refine goes_ Try.func33 (by kernel_rfl) rfl #[.agg #[.int .u64 t738, .int .u64 t739], .int .u64 (IntKind.u64.wrap (a0_2))] (by rfl) rfl rfl (by (try simp only [List.map_toArray, List.map_cons, List.map_nil]); first | done | rfl | (simp only [List.length_drop, List.length_take]; rfl)) ?_
          with_reducible refine (wide_Div.calls k2 t738 t739 (IntKind.u64.wrap (a0_2)) t740 t741 t742 t743 _ A97.out).mono ?_
          rintro e w109 ⟨rfl, hb⟩
          refine ⟨_, rfl, ?_⟩
          replace BK703 := bb_ BK703 hb
          replace BK713 := bb_ BK713 hb
          replace BK744 := bb_ BK744 hb
          replace HB := bs_ w hb
          (try clear hb)
          (try clear hb2)
          (try clear hk)
          (try clear hi)
          refine hK.out _ _ ⟨(blk_cell BK713.out 0).trans rfl, (blk_cell BK713.out 1).trans rfl, (blk_cell BK713.out 2).trans rfl, (blk_cell BK713.out 3).trans rfl, (blk_cell BK713.out 4).trans rfl, (blk_cell BK713.out 5).trans rfl, (blk_cell BK703.out 0).trans rfl, (blk_cell BK703.out 1).trans rfl, (blk_cell BK703.out 2).trans rfl⟩ (fun hHeld => ?_)
          clear hK K
          refine norm_ (a' := ?_) ?_ ?_
          rotate_left
          ·show Act.put _ (some 130) _ = _
           simp only [Act.put, List.setIfInBounds_toArray, List.set_cons_zero, List.set_cons_succ, i64_w, i32_w]
           rfl
          refine pure_ (i := 12) (N := some 118) (v := ?_) (a' := ?_) #[true, true, true, true, true, true, true, true, true, true, true, true, true, false, false, false, true, false, false, false] rfl rfl (any_of HT_.out (by kernel_rfl)) (fun _ _ _ h => h) (Or.inl ⟨by rfl, ?_⟩) ?_ ?_
          rotate_left
          ·intro w'
           go_simp
           with_reducible rfl
          rotate_left
          ·simp only [Act.put, List.setIfInBounds_toArray, List.set_cons_zero, List.set_cons_succ, i64_w, i32_w]
           rfl
          refine pure_ (i := 13) (N := some 131) (v := ?_) (a' := ?_) #[true, true, true, true, true, true, true, true, true, true, true, true, true, true, false, false, true, false, false, false] rfl rfl (any_of HT_.out (by kernel_rfl)) (fun _ _ _ h => h) (Or.inl ⟨by rfl, ?_⟩) ?_ ?_
          rotate_left
          ·intro w'
           go_simp
           with_reducible rfl
          rotate_left
          ·simp only [Act.put, List.setIfInBounds_toArray, List.set_cons_zero, List.set_cons_succ, i64_w, i32_w]
           rfl
          refine pure_ (i := 14) (N := some 132) (v := ?_) (a' := ?_) #[true, true, true, true, true, true, true, true, true, true, true, true, true, true, true, false, true, false, false, false] rfl rfl (any_of HT_.out (by kernel_rfl)) (fun _ _ _ h => h) (Or.inl ⟨by rfl, ?_⟩) ?_ ?_
          rotate_left
          ·intro w'
           go_simp
           with_reducible rfl
          rotate_left
          ·simp only [Act.put, List.setIfInBounds_toArray, List.set_cons_zero, List.set_cons_succ, i64_w, i32_w]
           rfl
          refine pure_ (i := 15) (N := some 133) (v := ?_) (a' := ?_) #[true, true, true, true, true, true, true, true, true, true, true, true, true, true, true, true, true, false, false, false] rfl rfl (any_of HT_.out (by kernel_rfl)) (fun _ _ _ h => h) (Or.inl ⟨by rfl, ?_⟩) ?_ ?_
          rotate_left
          ·intro w'
           go_simp
           with_reducible rfl
          rotate_left
          ·simp only [Act.put, List.setIfInBounds_toArray, List.set_cons_zero, List.set_cons_succ, i64_w, i32_w]
           rfl
          exact norm_ (by simp only [putAll, Act.put, List.setIfInBounds_toArray, List.set_cons_zero, List.set_cons_succ]) (hCont (gb744) _ ⟨hHeld, (bq_ BK703), (bq_ BK713), (bq_ BK744), GW744.out, GE744.out, NB703_744.out, NB744_703.out, NB713_744.out, NB744_713.out, (by repeat (first | (with_reducible first | exact HB.out | apply below_alloc | apply pw_below_drewN | apply below_drew1 | refine below_set ?_ (Aside0.out (by assumption))) | exact HB.out))⟩)
        ·skip
         refine box_step ?hg (N := 17) ?hd (cs := #[.int .u64 0, .int .u64 0]) (t := 60) ?hr ?_; (case hd => rfl); (case hg => rfl); (case hr => first | (go_simp; done) | (go_simp; rfl))
         intro gb744 hg w107 hbox hb
         have BK744 := Aside0.mk (hbox)
         have GW744 := bz_ w hg
         have GE744 := GW744
         have NB703_744 := bn_ BK703 hg
         have NB744_703 := bm_ BK703 hg
         have NB713_744 := bn_ BK713 hg
         have NB744_713 := bm_ BK713 hg
         replace BK703 := bb_ BK703 hb
         replace BK713 := bb_ BK713 hb
         replace HB := bs_ w hb
         clear hb hbox hg
         refine hK.out _ _ ⟨(blk_cell BK713.out 0).trans rfl, (blk_cell BK713.out 1).trans rfl, (blk_cell BK713.out 2).trans rfl, (blk_cell BK713.out 3).trans rfl, (blk_cell BK713.out 4).trans rfl, (blk_cell BK713.out 5).trans rfl, (blk_cell BK703.out 0).trans rfl, (blk_cell BK703.out 1).trans rfl, (blk_cell BK703.out 2).trans rfl⟩ (fun hHeld => ?_)
         clear hK K
         refine norm_ (a' := ?_) ?_ ?_
         rotate_left
         ·show Act.put _ (some 17) _ = _
          simp only [Act.put, List.setIfInBounds_toArray, List.set_cons_zero, List.set_cons_succ, i64_w, i32_w]
          rfl
         refine one_ (i := 7) (N := some 126) #[true, true, true, true, true, true, true, true, true, true, true, false, false, false, false, false, true, false, false, false] rfl rfl (one_of HT_.out (by kernel_rfl)) (by decide) (fun K hK => ?_)
         refine goes_ Try.func30 (by kernel_rfl) rfl #[.int .u64 (IntKind.u64.wrap (x714005_2 - a1)), .int .u64 (IntKind.u64.wrap (a0_1))] (by rfl) rfl rfl (by (try simp only [List.map_toArray, List.map_cons, List.map_nil]); first | done | rfl | (simp only [List.length_drop, List.length_take]; rfl)) ?_
         with_reducible refine (wide_Mul.calls (IntKind.u64.wrap (x714005_2 - a1)) (IntKind.u64.wrap (a0_1)) t738 t739 _ A96.out).mono ?_
         rintro e w108 ⟨rfl, hb⟩
         refine ⟨_, rfl, ?_⟩
         replace BK703 := bb_ BK703 hb
         replace BK713 := bb_ BK713 hb
         replace BK744 := bb_ BK744 hb
         replace HB := bs_ w hb
         (try clear hb)
         (try clear hb2)
         (try clear hk)
         (try clear hi)
         refine hK.out _ _ ⟨(blk_cell BK713.out 0).trans rfl, (blk_cell BK713.out 1).trans rfl, (blk_cell BK713.out 2).trans rfl, (blk_cell BK713.out 3).trans rfl, (blk_cell BK713.out 4).trans rfl, (blk_cell BK713.out 5).trans rfl, (blk_cell BK703.out 0).trans rfl, (blk_cell BK703.out 1).trans rfl, (blk_cell BK703.out 2).trans rfl⟩ (fun hHeld => ?_)
         clear hK K
         refine norm_ (a' := ?_) ?_ ?_
         rotate_left
         ·show Act.put _ (some 126) _ = _
          simp only [Act.put, List.setIfInBounds_toArray, List.set_cons_zero, List.set_cons_succ, i64_w, i32_w]
          rfl
         refine one_ (i := 11) (N := some 130) #[true, true, true, true, true, true, true, true, true, true, true, true, false, false, false, false, true, false, false, false] rfl rfl (one_of HT_.out (by kernel_rfl)) (by decide) (fun K hK => ?_)
         refine goes_ Try.func33 (by kernel_rfl) rfl #[.agg #[.int .u64 t738, .int .u64 t739], .int .u64 (IntKind.u64.wrap (a0_2))] (by rfl) rfl rfl (by (try simp only [List.map_toArray, List.map_cons, List.map_nil]); first | done | rfl | (simp only [List.length_drop, List.length_take]; rfl)) ?_
         with_reducible refine (wide_Div.calls k2 t738 t739 (IntKind.u64.wrap (a0_2)) t740 t741 t742 t743 _ A97.out).mono ?_
         rintro e w109 ⟨rfl, hb⟩
         refine ⟨_, rfl, ?_⟩
         replace BK703 := bb_ BK703 hb
         replace BK713 := bb_ BK713 hb
         replace BK744 := bb_ BK744 hb
         replace HB := bs_ w hb
         (try clear hb)
         (try clear hb2)
         (try clear hk)
         (try clear hi)
         refine hK.out _ _ ⟨(blk_cell BK713.out 0).trans rfl, (blk_cell BK713.out 1).trans rfl, (blk_cell BK713.out 2).trans rfl, (blk_cell BK713.out 3).trans rfl, (blk_cell BK713.out 4).trans rfl, (blk_cell BK713.out 5).trans rfl, (blk_cell BK703.out 0).trans rfl, (blk_cell BK703.out 1).trans rfl, (blk_cell BK703.out 2).trans rfl⟩ (fun hHeld => ?_)
         clear hK K
         refine norm_ (a' := ?_) ?_ ?_
         rotate_left
         ·show Act.put _ (some 130) _ = _
          simp only [Act.put, List.setIfInBounds_toArray, List.set_cons_zero, List.set_cons_succ, i64_w, i32_w]
          rfl
         refine pure_ (i := 12) (N := some 118) (v := ?_) (a' := ?_) #[true, true, true, true, true, true, true, true, true, true, true, true, true, false, false, false, true, false, false, false] rfl rfl (any_of HT_.out (by kernel_rfl)) (fun _ _ _ h => h) (Or.inl ⟨by rfl, ?_⟩) ?_ ?_
         rotate_left
         ·intro w'
          go_simp
          with_reducible rfl
         rotate_left
         ·simp only [Act.put, List.setIfInBounds_toArray, List.set_cons_zero, List.set_cons_succ, i64_w, i32_w]
          rfl
         refine pure_ (i := 13) (N := some 131) (v := ?_) (a' := ?_) #[true, true, true, true, true, true, true, true, true, true, true, true, true, true, false, false, true, false, false, false] rfl rfl (any_of HT_.out (by kernel_rfl)) (fun _ _ _ h => h) (Or.inl ⟨by rfl, ?_⟩) ?_ ?_
         rotate_left
         ·intro w'
          go_simp
          with_reducible rfl
         rotate_left
         ·simp only [Act.put, List.setIfInBounds_toArray, List.set_cons_zero, List.set_cons_succ, i64_w, i32_w]
          rfl
         refine pure_ (i := 14) (N := some 132) (v := ?_) (a' := ?_) #[true, true, true, true, true, true, true, true, true, true, true, true, true, true, true, false, true, false, false, false] rfl rfl (any_of HT_.out (by kernel_rfl)) (fun _ _ _ h => h) (Or.inl ⟨by rfl, ?_⟩) ?_ ?_
         rotate_left
         ·intro w'
          go_simp
          with_reducible rfl
         rotate_left
         ·simp only [Act.put, List.setIfInBounds_toArray, List.set_cons_zero, List.set_cons_succ, i64_w, i32_w]
          rfl
         refine pure_ (i := 15) (N := some 133) (v := ?_) (a' := ?_) #[true, true, true, true, true, true, true, true, true, true, true, true, true, true, true, true, true, false, false, false] rfl rfl (any_of HT_.out (by kernel_rfl)) (fun _ _ _ h => h) (Or.inl ⟨by rfl, ?_⟩) ?_ ?_
         rotate_left
         ·intro w'
          go_simp
          with_reducible rfl
         rotate_left
         ·simp only [Act.put, List.setIfInBounds_toArray, List.set_cons_zero, List.set_cons_succ, i64_w, i32_w]
          rfl
         exact norm_ (by simp only [putAll, Act.put, List.setIfInBounds_toArray, List.set_cons_zero, List.set_cons_succ]) (hCont (gb744) _ ⟨hHeld, (bq_ BK703), (bq_ BK713), (bq_ BK744), GW744.out, GE744.out, NB703_744.out, NB744_703.out, NB713_744.out, NB744_713.out, (by repeat (first | (with_reducible first | exact HB.out | apply below_alloc | apply pw_below_drewN | apply below_drew1 | refine below_set ?_ (Aside0.out (by assumption))) | exact HB.out))⟩)
       rintro gb744 w110 ⟨hS_, h0_, h1_, h2_, h3_, h4_, h5_, h6_, h7_, h8_, h9_⟩
       have BK744 : Aside0 (w110.heap[gb744]? = some (.cells #[.int .u64 0, .int .u64 0] 60 (0, 0))) := ⟨h2_⟩
       have GW744 : Aside0 (w.heap.size ≤ gb744) := ⟨h3_⟩
       have GE744 : Aside0 (w.heap.size ≤ gb744) := ⟨h4_⟩
       have NB703_744 : Aside0 (gb703 ≠ gb744) := ⟨h5_⟩
       have NB744_703 : Aside0 (gb744 ≠ gb703) := ⟨h6_⟩
       have NB713_744 : Aside0 (gb713 ≠ gb744) := ⟨h7_⟩
       have NB744_713 : Aside0 (gb744 ≠ gb713) := ⟨h8_⟩
       replace BK703 : Aside0 (w110.heap[gb703]? = some (.cells #[.int .i64 a0_0, .int .i64 a0_1, .int .i64 a0_2] 23 (0, 0))) := ⟨h0_⟩
       replace BK713 : Aside0 (w110.heap[gb713]? = some (.cells #[.int .i64 x714000_2, .int .i64 x714001_2, .int .i64 x714002_2, .int .i64 x714003_2, .int .i64 x714004_2, .int .u64 x714005_2] 26 (0, 0))) := ⟨h1_⟩
       replace HB : Aside0 (Below w.heap.size w w110) := ⟨h9_⟩
       clear h0_ h1_ h2_ h3_ h4_ h5_ h6_ h7_ h8_ h9_
       have hHeld : w110.cell? ⟨gb713, 0, none⟩ = some (.int .i64 x714000_2) ∧ w110.cell? ⟨gb713, 1, none⟩ = some (.int .i64 x714001_2) ∧ w110.cell? ⟨gb713, 2, none⟩ = some (.int .i64 x714002_2) ∧ w110.cell? ⟨gb713, 3, none⟩ = some (.int .i64 x714003_2) ∧ w110.cell? ⟨gb713, 4, none⟩ = some (.int .i64 x714004_2) ∧ w110.cell? ⟨gb713, 5, none⟩ = some (.int .u64 x714005_2) ∧ w110.cell? ⟨gb703, 0, none⟩ = some (.int .i64 a0_0) ∧ w110.cell? ⟨gb703, 1, none⟩ = some (.int .i64 a0_1) ∧ w110.cell? ⟨gb703, 2, none⟩ = some (.int .i64 a0_2) := hS_
       refine norm_ (a' := ?_) ?_ ?_
       rotate_left
       ·simp only [putAll, Act.put, List.setIfInBounds_toArray, List.set_cons_zero, List.set_cons_succ]
        rfl
       refine one_ (i := 17) (N := none) #[true, true, true, true, true, true, true, true, true, true, true, true, true, true, true, true, true, true, false, false] rfl rfl (one_of HT_.out (by kernel_rfl)) (by decide) (fun K hK => ?_)
       have hs111 : w110.cell? ⟨gb744, 0, none⟩ = some (.int .u64 0) := (blk_cell BK744.out 0).trans rfl
       have hfs111 := blk_frozen BK744.out 0
       have hns111_0 := NB703_744.out
       have hns111_1 := NB713_744.out
       have hms111_0 := NB744_703.out
       have hms111_1 := NB744_713.out
       have hs112 : w110.cell? ⟨gb744, 1, none⟩ = some (.int .u64 0) := (blk_cell BK744.out 1).trans rfl
       have hfs112 := blk_frozen BK744.out 1
       have hns112_0 := NB703_744.out
       have hns112_1 := NB713_744.out
       have hms112_0 := NB744_703.out
       have hms112_1 := NB744_713.out
       refine skip_ (w1 := ?_) (by rfl) rfl ?_ ?_
       rotate_left
       ·go_simp
        rfl
       refine hK.out _ _ ⟨((cell_far (p := ⟨gb744, _, none⟩) NB713_744.out _).trans (((cell_far (p := ⟨gb744, _, none⟩) NB713_744.out _).trans (hHeld.1)))), ((cell_far (p := ⟨gb744, _, none⟩) NB713_744.out _).trans (((cell_far (p := ⟨gb744, _, none⟩) NB713_744.out _).trans (hHeld.2.1)))), ((cell_far (p := ⟨gb744, _, none⟩) NB713_744.out _).trans (((cell_far (p := ⟨gb744, _, none⟩) NB713_744.out _).trans (hHeld.2.2.1)))), ((cell_far (p := ⟨gb744, _, none⟩) NB713_744.out _).trans (((cell_far (p := ⟨gb744, _, none⟩) NB713_744.out _).trans (hHeld.2.2.2.1)))), ((cell_far (p := ⟨gb744, _, none⟩) NB713_744.out _).trans (((cell_far (p := ⟨gb744, _, none⟩) NB713_744.out _).trans (hHeld.2.2.2.2.1)))), ((cell_far (p := ⟨gb744, _, none⟩) NB713_744.out _).trans (((cell_far (p := ⟨gb744, _, none⟩) NB713_744.out _).trans (hHeld.2.2.2.2.2.1)))), ((cell_far (p := ⟨gb744, _, none⟩) NB703_744.out _).trans (((cell_far (p := ⟨gb744, _, none⟩) NB703_744.out _).trans (hHeld.2.2.2.2.2.2.1)))), ((cell_far (p := ⟨gb744, _, none⟩) NB703_744.out _).trans (((cell_far (p := ⟨gb744, _, none⟩) NB703_744.out _).trans (hHeld.2.2.2.2.2.2.2.1)))), ((cell_far (p := ⟨gb744, _, none⟩) NB703_744.out _).trans (((cell_far (p := ⟨gb744, _, none⟩) NB703_744.out _).trans (hHeld.2.2.2.2.2.2.2.2))))⟩ (fun hHeld => ?_)
       clear hK K
       refine pure_ (i := 18) (N := some 18) (v := ?_) (a' := ?_) #[true, true, true, true, true, true, true, true, true, true, true, true, true, true, true, true, true, true, true, false] rfl rfl (any_of HT_.out (by kernel_rfl)) (fun _ _ _ h => h) (Or.inl ⟨by rfl, ?_⟩) ?_ ?_
       rotate_left
       ·intro w'
        go_simp
        with_reducible rfl
       rotate_left
       ·simp only [Act.put, List.setIfInBounds_toArray, List.set_cons_zero, List.set_cons_succ, i64_w, i32_w]
        rfl
       refine pure_ (i := 19) (N := some 19) (v := ?_) (a' := ?_) #[true, true, true, true, true, true, true, true, true, true, true, true, true, true, true, true, true, true, true, true] rfl rfl (any_of HT_.out (by kernel_rfl)) (fun _ _ _ h => h) (Or.inl ⟨by rfl, ?_⟩) ?_ ?_
       rotate_left
       ·intro w'
        go_simp
        with_reducible rfl
       rotate_left
       ·simp only [Act.put, List.setIfInBounds_toArray, List.set_cons_zero, List.set_cons_succ, i64_w, i32_w]
        rfl
       refine done_ (done_of HT_.out (by kernel_rfl)) ?_
       try go_wp2
       have n0_ : Aside0 (((w110.setCell ⟨gb744, 0, none⟩ (.int .u64 t740)).setCell ⟨gb744, 1, none⟩ (.int .u64 t741)).heap[gb703]? = some (.cells #[.int .i64 a0_0, .int .i64 a0_1, .int .i64 a0_2] 23 (0, 0))) := ⟨(blk_far (blk_far (bq_ BK703) NB703_744.out _) NB703_744.out _)⟩
       have n1_ : Aside0 (((w110.setCell ⟨gb744, 0, none⟩ (.int .u64 t740)).setCell ⟨gb744, 1, none⟩ (.int .u64 t741)).heap[gb713]? = some (.cells #[.int .i64 x714000_2, .int .i64 x714001_2, .int .i64 x714002_2, .int .i64 x714003_2, .int .i64 x714004_2, .int .u64 x714005_2] 26 (0, 0))) := ⟨(blk_far (blk_far (bq_ BK713) NB713_744.out _) NB713_744.out _)⟩
       have n2_ : Aside0 (((w110.setCell ⟨gb744, 0, none⟩ (.int .u64 t740)).setCell ⟨gb744, 1, none⟩ (.int .u64 t741)).heap[gb744]? = some (.cells #[.int .u64 t740, .int .u64 t741] 60 (0, 0))) := ⟨(blk_put (cs := #[.int .u64 t740, .int .u64 0]) (blk_put (cs := #[.int .u64 0, .int .u64 0]) (bq_ BK744) 0 _ rfl) 1 _ rfl)⟩
       have n3_ : Aside0 (Below w.heap.size w ((w110.setCell ⟨gb744, 0, none⟩ (.int .u64 t740)).setCell ⟨gb744, 1, none⟩ (.int .u64 t741))) := ⟨by repeat (first | (with_reducible first | exact HB.out | apply below_alloc | apply pw_below_drewN | apply below_drew1 | refine below_set ?_ GE703.out | refine below_set ?_ GE713.out | refine below_set ?_ GE744.out) | exact HB.out)⟩
       (try clear BK703)
       (try clear BK713)
       (try clear BK744)
       (try clear HB)
       generalize ((w110.setCell ⟨gb744, 0, none⟩ (.int .u64 t740)).setCell ⟨gb744, 1, none⟩ (.int .u64 t741)) = w113 at n0_ n1_ n2_ n3_ ⊢
       have BK703 := n0_
       have BK713 := n1_
       have BK744 := n2_
       have HB := n3_
       clear n0_ n1_ n2_ n3_
       replace BK703 := Aside0.mk (blk_drew BK703.out)
       replace BK713 := Aside0.mk (blk_drew BK713.out)
       replace BK744 := Aside0.mk (blk_drew BK744.out)
       replace HB := Aside0.mk (below_drew1 HB.out)
       refine start_ (n := 12) (S := fun w' => w'.cell? ⟨gb744, 0, none⟩ = some (.int .u64 t740) ∧ w'.cell? ⟨gb744, 1, none⟩ = some (.int .u64 t741) ∧ w'.cell? ⟨gb703, 0, none⟩ = some (.int .i64 a0_0) ∧ w'.cell? ⟨gb703, 1, none⟩ = some (.int .i64 a0_1) ∧ w'.cell? ⟨gb703, 2, none⟩ = some (.int .i64 a0_2)) (ds := []) #[false, false, false, false, false, false, false, false, false, false, false, false] (by kernel_rfl) rfl rfl ⟨(blk_cell BK744.out 0).trans rfl, (blk_cell BK744.out 1).trans rfl, (blk_cell BK703.out 0).trans rfl, (blk_cell BK703.out 1).trans rfl, (blk_cell BK703.out 2).trans rfl⟩ (fun hHeld => ?_); refine with_tabW spigotlaw03_BucketBound.tab23 spigotlaw03_BucketBound.bits23 (fun HT_ HW_ => ?_)
       generalize w113.drew = w114 at BK703 BK713 BK744 HB hHeld ⊢
       refine pure_ (i := 1) (N := some 136) (v := ?_) (a' := ?_) #[false, true, false, false, false, false, false, false, false, false, false, false] rfl rfl (any_of HT_.out (by kernel_rfl)) (fun _ _ _ h => h) (Or.inl ⟨by rfl, ?_⟩) ?_ ?_
       rotate_left
       ·intro w'
        go_simp
        with_reducible rfl
       rotate_left
       ·simp only [Act.put, List.setIfInBounds_toArray, List.set_cons_zero, List.set_cons_succ, i64_w, i32_w]
        rfl
       refine take_ (i := 0) (N := some 135) (v := ?_) (a' := ?_) #[true, true, false, false, false, false, false, false, false, false, false, false] rfl rfl (take_ofW HT_.out HW_.out (by kernel_rfl)) (fun _ _ _ h => h) (Or.inl ⟨by rfl, ?_⟩) hHeld ?_ ?_
       rotate_left
       ·rintro w' ⟨s0, s1, s2, s3, s4⟩
        go_simp
        with_reducible rfl
       rotate_left
       ·simp only [Act.put, List.setIfInBounds_toArray, List.set_cons_zero, List.set_cons_succ, i64_w, i32_w]
        rfl
       refine take_ (i := 2) (N := some 137) (v := ?_) (a' := ?_) #[true, true, true, false, false, false, false, false, false, false, false, false] rfl rfl (take_ofW HT_.out HW_.out (by kernel_rfl)) (fun _ _ _ h => h) (Or.inl ⟨by rfl, ?_⟩) hHeld ?_ ?_
       rotate_left
       ·rintro w' ⟨s0, s1, s2, s3, s4⟩
        go_simp
        with_reducible rfl
       rotate_left
       ·simp only [Act.put, List.setIfInBounds_toArray, List.set_cons_zero, List.set_cons_succ, i64_w, i32_w]
        rfl
       refine pure_ (i := 3) (N := some 138) (v := ?_) (a' := ?_) #[true, true, true, true, false, false, false, false, false, false, false, false] rfl rfl (any_of HT_.out (by kernel_rfl)) (fun _ _ _ h => h) (Or.inl ⟨by rfl, ?_⟩) ?_ ?_
       rotate_left
       ·intro w'
        go_simp
        with_reducible rfl
       rotate_left
       ·simp only [Act.put, List.setIfInBounds_toArray, List.set_cons_zero, List.set_cons_succ, i64_w, i32_w]
        rfl
       refine join_ (σ := Nat) 2 #[true, true, true, true, true, true, true, true, true, true, false, false] (fun s_ => [(139, .agg #[.int .u64 t745, .int .u64 t746]), (140, .tuple #[.agg #[.int .u64 t747, .int .u64 t748], .int .i64 t749]), (20, .pointer (some ⟨s_, 0, none⟩)), (134, .tuple #[.agg #[.int .u64 t747, .int .u64 t748], .int .i64 t749]), (141, .agg #[.int .u64 t747, .int .u64 t748]), (142, .int .i64 t749)]) (fun s_ w' => (w'.cell? ⟨gb744, 0, none⟩ = some (.int .u64 t740) ∧ w'.cell? ⟨gb744, 1, none⟩ = some (.int .u64 t741) ∧ w'.cell? ⟨gb703, 0, none⟩ = some (.int .i64 a0_0) ∧ w'.cell? ⟨gb703, 1, none⟩ = some (.int .i64 a0_1) ∧ w'.cell? ⟨gb703, 2, none⟩ = some (.int .i64 a0_2)) ∧ (w'.heap[gb703]? = some (.cells #[.int .i64 a0_0, .int .i64 a0_1, .int .i64 a0_2] 23 (0, 0))) ∧ (w'.heap[gb713]? = some (.cells #[.int .i64 x714000_2, .int .i64 x714001_2, .int .i64 x714002_2, .int .i64 x714003_2, .int .i64 x714004_2, .int .u64 x714005_2] 26 (0, 0))) ∧ (w'.heap[gb744]? = some (.cells #[.int .u64 t740, .int .u64 t741] 60 (0, 0))) ∧ (w'.heap[s_]? = some (.cells #[.int .u64 0, .int .u64 0] 60 (0, 0))) ∧ (w.heap.size ≤ s_) ∧ (w.heap.size ≤ s_) ∧ (gb703 ≠ s_) ∧ (s_ ≠ gb703) ∧ (gb713 ≠ s_) ∧ (s_ ≠ gb713) ∧ (gb744 ≠ s_) ∧ (s_ ≠ gb744) ∧ (Below w.heap.size w w')) ?_ ?_
       rotate_left
       ·intro hCont
        refine two_ (i := 4) (j := 9) (Ni := some 139) (Nj := some 20) #[true, true, true, true, true, false, false, false, false, false, false, false] #[true, true, true, true, false, false, false, false, false, true, false, false] rfl rfl rfl rfl (two_of HT_.out (by kernel_rfl)) (by decide) (by decide) (fun K hK => ?_) (fun K hK => ?_)
        ·skip
         refine goes_ Try.func31 (by kernel_rfl) rfl #[.int .u64 (IntKind.u64.wrap (a0_0))] (by rfl) rfl rfl (by (try simp only [List.map_toArray, List.map_cons, List.map_nil]); first | done | rfl | (simp only [List.length_drop, List.length_take]; rfl)) ?_
         with_reducible refine (wide_Of.calls (IntKind.u64.wrap (a0_0)) t745 t746 _ A98.out).mono ?_
         rintro e w115 ⟨rfl, hb⟩
         refine ⟨_, rfl, ?_⟩
         replace BK703 := bb_ BK703 hb
         replace BK713 := bb_ BK713 hb
         replace BK744 := bb_ BK744 hb
         replace HB := bs_ w hb
         (try clear hb)
         (try clear hb2)
         (try clear hk)
         (try clear hi)
         refine hK.out _ _ ⟨(blk_cell BK744.out 0).trans rfl, (blk_cell BK744.out 1).trans rfl, (blk_cell BK703.out 0).trans rfl, (blk_cell BK703.out 1).trans rfl, (blk_cell BK703.out 2).trans rfl⟩ (fun hHeld => ?_)
         clear hK K
         refine norm_ (a' := ?_) ?_ ?_
         rotate_left
         ·show Act.put _ (some 139) _ = _
          simp only [Act.put, List.setIfInBounds_toArray, List.set_cons_zero, List.set_cons_succ, i64_w, i32_w]
          rfl
         refine two_ (i := 5) (j := 9) (Ni := some 140) (Nj := some 20) #[true, true, true, true, true, true, false, false, false, false, false, false] #[true, true, true, true, true, false, false, false, false, true, false, false] rfl rfl rfl rfl (two_of HT_.out (by kernel_rfl)) (by decide) (by decide) (fun K hK => ?_) (fun K hK => ?_)
         ·skip
          refine goes_ Try.func29 (by kernel_rfl) rfl #[.agg #[.int .u64 t740, .int .u64 t741], .agg #[.int .u64 t745, .int .u64 t746]] (by rfl) rfl rfl (by (try simp only [List.map_toArray, List.map_cons, List.map_nil]); first | done | rfl | (simp only [List.length_drop, List.length_take]; rfl)) ?_
          with_reducible refine (wide_Add.calls t740 t741 t745 t746 t747 t748 t749 _ A99.out).mono ?_
          rintro e w116 ⟨rfl, hb⟩
          refine ⟨_, rfl, ?_⟩
          replace BK703 := bb_ BK703 hb
          replace BK713 := bb_ BK713 hb
          replace BK744 := bb_ BK744 hb
          replace HB := bs_ w hb
          (try clear hb)
          (try clear hb2)
          (try clear hk)
          (try clear hi)
          refine hK.out _ _ ⟨(blk_cell BK744.out 0).trans rfl, (blk_cell BK744.out 1).trans rfl, (blk_cell BK703.out 0).trans rfl, (blk_cell BK703.out 1).trans rfl, (blk_cell BK703.out 2).trans rfl⟩ (fun hHeld => ?_)
          clear hK K
          refine norm_ (a' := ?_) ?_ ?_
          rotate_left
          ·show Act.put _ (some 140) _ = _
           simp only [Act.put, List.setIfInBounds_toArray, List.set_cons_zero, List.set_cons_succ, i64_w, i32_w]
           rfl
          refine pure_ (i := 6) (N := some 134) (v := ?_) (a' := ?_) #[true, true, true, true, true, true, true, false, false, false, false, false] rfl rfl (any_of HT_.out (by kernel_rfl)) (fun _ _ _ h => h) (Or.inl ⟨by rfl, ?_⟩) ?_ ?_
          rotate_left
          ·intro w'
           go_simp
           with_reducible rfl
          rotate_left
          ·simp only [Act.put, List.setIfInBounds_toArray, List.set_cons_zero, List.set_cons_succ, i64_w, i32_w]
           rfl
          refine pure_ (i := 7) (N := some 141) (v := ?_) (a' := ?_) #[true, true, true, true, true, true, true, true, false, false, false, false] rfl rfl (any_of HT_.out (by kernel_rfl)) (fun _ _ _ h => h) (Or.inl ⟨by rfl, ?_⟩) ?_ ?_
          rotate_left
          ·intro w'
           go_simp
           with_reducible rfl
          rotate_left
          ·simp only [Act.put, List.setIfInBounds_toArray, List.set_cons_zero, List.set_cons_succ, i64_w, i32_w]
           rfl
          refine pure_ (i := 8) (N := some 142) (v := ?_) (a' := ?_) #[true, true, true, true, true, true, true, true, true, false, false, false] rfl rfl (any_of HT_.out (by kernel_rfl)) (fun _ _ _ h => h) (Or.inl ⟨by rfl, ?_⟩) ?_ ?_
          rotate_left
          ·intro w'
           go_simp
           with_reducible rfl
          rotate_left
          ·simp only [Act.put, List.setIfInBounds_toArray, List.set_cons_zero, List.set_cons_succ, i64_w, i32_w]
           rfl
          refine one_ (i := 9) (N := some 20) #[true, true, true, true, true, true, true, true, true, true, false, false] rfl rfl (one_of HT_.out (by kernel_rfl)) (by decide) (fun K hK => ?_)
          refine box_step ?hg (N := 20) ?hd (cs := #[.int .u64 0, .int .u64 0]) (t := 60) ?hr ?_; (case hd => rfl); (case hg => rfl); (case hr => first | (go_simp; done) | (go_simp; rfl))
          intro gb750 hg w117 hbox hb
          have BK750 := Aside0.mk (hbox)
          have GW750 := bz_ w hg
          have GE750 := GW750
          have NB703_750 := bn_ BK703 hg
          have NB750_703 := bm_ BK703 hg
          have NB713_750 := bn_ BK713 hg
          have NB750_713 := bm_ BK713 hg
          have NB744_750 := bn_ BK744 hg
          have NB750_744 := bm_ BK744 hg
          replace BK703 := bb_ BK703 hb
          replace BK713 := bb_ BK713 hb
          replace BK744 := bb_ BK744 hb
          replace HB := bs_ w hb
          clear hb hbox hg
          refine hK.out _ _ ⟨(blk_cell BK744.out 0).trans rfl, (blk_cell BK744.out 1).trans rfl, (blk_cell BK703.out 0).trans rfl, (blk_cell BK703.out 1).trans rfl, (blk_cell BK703.out 2).trans rfl⟩ (fun hHeld => ?_)
          clear hK K
          refine norm_ (a' := ?_) ?_ ?_
          rotate_left
          ·show Act.put _ (some 20) _ = _
           simp only [Act.put, List.setIfInBounds_toArray, List.set_cons_zero, List.set_cons_succ, i64_w, i32_w]
           rfl
          exact norm_ (by simp only [putAll, Act.put, List.setIfInBounds_toArray, List.set_cons_zero, List.set_cons_succ]) (hCont (gb750) _ ⟨hHeld, (bq_ BK703), (bq_ BK713), (bq_ BK744), (bq_ BK750), GW750.out, GE750.out, NB703_750.out, NB750_703.out, NB713_750.out, NB750_713.out, NB744_750.out, NB750_744.out, (by repeat (first | (with_reducible first | exact HB.out | apply below_alloc | apply pw_below_drewN | apply below_drew1 | refine below_set ?_ (Aside0.out (by assumption))) | exact HB.out))⟩)
         ·skip
          refine box_step ?hg (N := 20) ?hd (cs := #[.int .u64 0, .int .u64 0]) (t := 60) ?hr ?_; (case hd => rfl); (case hg => rfl); (case hr => first | (go_simp; done) | (go_simp; rfl))
          intro gb750 hg w116 hbox hb
          have BK750 := Aside0.mk (hbox)
          have GW750 := bz_ w hg
          have GE750 := GW750
          have NB703_750 := bn_ BK703 hg
          have NB750_703 := bm_ BK703 hg
          have NB713_750 := bn_ BK713 hg
          have NB750_713 := bm_ BK713 hg
          have NB744_750 := bn_ BK744 hg
          have NB750_744 := bm_ BK744 hg
          replace BK703 := bb_ BK703 hb
          replace BK713 := bb_ BK713 hb
          replace BK744 := bb_ BK744 hb
          replace HB := bs_ w hb
          clear hb hbox hg
          refine hK.out _ _ ⟨(blk_cell BK744.out 0).trans rfl, (blk_cell BK744.out 1).trans rfl, (blk_cell BK703.out 0).trans rfl, (blk_cell BK703.out 1).trans rfl, (blk_cell BK703.out 2).trans rfl⟩ (fun hHeld => ?_)
          clear hK K
          refine norm_ (a' := ?_) ?_ ?_
          rotate_left
          ·show Act.put _ (some 20) _ = _
           simp only [Act.put, List.setIfInBounds_toArray, List.set_cons_zero, List.set_cons_succ, i64_w, i32_w]
           rfl
          refine one_ (i := 5) (N := some 140) #[true, true, true, true, true, true, false, false, false, true, false, false] rfl rfl (one_of HT_.out (by kernel_rfl)) (by decide) (fun K hK => ?_)
          refine goes_ Try.func29 (by kernel_rfl) rfl #[.agg #[.int .u64 t740, .int .u64 t741], .agg #[.int .u64 t745, .int .u64 t746]] (by rfl) rfl rfl (by (try simp only [List.map_toArray, List.map_cons, List.map_nil]); first | done | rfl | (simp only [List.length_drop, List.length_take]; rfl)) ?_
          with_reducible refine (wide_Add.calls t740 t741 t745 t746 t747 t748 t749 _ A99.out).mono ?_
          rintro e w117 ⟨rfl, hb⟩
          refine ⟨_, rfl, ?_⟩
          replace BK703 := bb_ BK703 hb
          replace BK713 := bb_ BK713 hb
          replace BK744 := bb_ BK744 hb
          replace BK750 := bb_ BK750 hb
          replace HB := bs_ w hb
          (try clear hb)
          (try clear hb2)
          (try clear hk)
          (try clear hi)
          refine hK.out _ _ ⟨(blk_cell BK744.out 0).trans rfl, (blk_cell BK744.out 1).trans rfl, (blk_cell BK703.out 0).trans rfl, (blk_cell BK703.out 1).trans rfl, (blk_cell BK703.out 2).trans rfl⟩ (fun hHeld => ?_)
          clear hK K
          refine norm_ (a' := ?_) ?_ ?_
          rotate_left
          ·show Act.put _ (some 140) _ = _
           simp only [Act.put, List.setIfInBounds_toArray, List.set_cons_zero, List.set_cons_succ, i64_w, i32_w]
           rfl
          refine pure_ (i := 6) (N := some 134) (v := ?_) (a' := ?_) #[true, true, true, true, true, true, true, false, false, true, false, false] rfl rfl (any_of HT_.out (by kernel_rfl)) (fun _ _ _ h => h) (Or.inl ⟨by rfl, ?_⟩) ?_ ?_
          rotate_left
          ·intro w'
           go_simp
           with_reducible rfl
          rotate_left
          ·simp only [Act.put, List.setIfInBounds_toArray, List.set_cons_zero, List.set_cons_succ, i64_w, i32_w]
           rfl
          refine pure_ (i := 7) (N := some 141) (v := ?_) (a' := ?_) #[true, true, true, true, true, true, true, true, false, true, false, false] rfl rfl (any_of HT_.out (by kernel_rfl)) (fun _ _ _ h => h) (Or.inl ⟨by rfl, ?_⟩) ?_ ?_
          rotate_left
          ·intro w'
           go_simp
           with_reducible rfl
          rotate_left
          ·simp only [Act.put, List.setIfInBounds_toArray, List.set_cons_zero, List.set_cons_succ, i64_w, i32_w]
           rfl
          refine pure_ (i := 8) (N := some 142) (v := ?_) (a' := ?_) #[true, true, true, true, true, true, true, true, true, true, false, false] rfl rfl (any_of HT_.out (by kernel_rfl)) (fun _ _ _ h => h) (Or.inl ⟨by rfl, ?_⟩) ?_ ?_
          rotate_left
          ·intro w'
           go_simp
           with_reducible rfl
          rotate_left
          ·simp only [Act.put, List.setIfInBounds_toArray, List.set_cons_zero, List.set_cons_succ, i64_w, i32_w]
           rfl
          exact norm_ (by simp only [putAll, Act.put, List.setIfInBounds_toArray, List.set_cons_zero, List.set_cons_succ]) (hCont (gb750) _ ⟨hHeld, (bq_ BK703), (bq_ BK713), (bq_ BK744), (bq_ BK750), GW750.out, GE750.out, NB703_750.out, NB750_703.out, NB713_750.out, NB750_713.out, NB744_750.out, NB750_744.out, (by repeat (first | (with_reducible first | exact HB.out | apply below_alloc | apply pw_below_drewN | apply below_drew1 | refine below_set ?_ (Aside0.out (by assumption))) | exact HB.out))⟩)
        ·skip
         refine box_step ?hg (N := 20) ?hd (cs := #[.int .u64 0, .int .u64 0]) (t := 60) ?hr ?_; (case hd => rfl); (case hg => rfl); (case hr => first | (go_simp; done) | (go_simp; rfl))
         intro gb750 hg w115 hbox hb
         have BK750 := Aside0.mk (hbox)
         have GW750 := bz_ w hg
         have GE750 := GW750
         have NB703_750 := bn_ BK703 hg
         have NB750_703 := bm_ BK703 hg
         have NB713_750 := bn_ BK713 hg
         have NB750_713 := bm_ BK713 hg
         have NB744_750 := bn_ BK744 hg
         have NB750_744 := bm_ BK744 hg
         replace BK703 := bb_ BK703 hb
         replace BK713 := bb_ BK713 hb
         replace BK744 := bb_ BK744 hb
         replace HB := bs_ w hb
         clear hb hbox hg
         refine hK.out _ _ ⟨(blk_cell BK744.out 0).trans rfl, (blk_cell BK744.out 1).trans rfl, (blk_cell BK703.out 0).trans rfl, (blk_cell BK703.out 1).trans rfl, (blk_cell BK703.out 2).trans rfl⟩ (fun hHeld => ?_)
         clear hK K
         refine norm_ (a' := ?_) ?_ ?_
         rotate_left
         ·show Act.put _ (some 20) _ = _
          simp only [Act.put, List.setIfInBounds_toArray, List.set_cons_zero, List.set_cons_succ, i64_w, i32_w]
          rfl
         refine one_ (i := 4) (N := some 139) #[true, true, true, true, true, false, false, false, false, true, false, false] rfl rfl (one_of HT_.out (by kernel_rfl)) (by decide) (fun K hK => ?_)
         refine goes_ Try.func31 (by kernel_rfl) rfl #[.int .u64 (IntKind.u64.wrap (a0_0))] (by rfl) rfl rfl (by (try simp only [List.map_toArray, List.map_cons, List.map_nil]); first | done | rfl | (simp only [List.length_drop, List.length_take]; rfl)) ?_
         with_reducible refine (wide_Of.calls (IntKind.u64.wrap (a0_0)) t745 t746 _ A98.out).mono ?_
         rintro e w116 ⟨rfl, hb⟩
         refine ⟨_, rfl, ?_⟩
         replace BK703 := bb_ BK703 hb
         replace BK713 := bb_ BK713 hb
         replace BK744 := bb_ BK744 hb
         replace BK750 := bb_ BK750 hb
         replace HB := bs_ w hb
         (try clear hb)
         (try clear hb2)
         (try clear hk)
         (try clear hi)
         refine hK.out _ _ ⟨(blk_cell BK744.out 0).trans rfl, (blk_cell BK744.out 1).trans rfl, (blk_cell BK703.out 0).trans rfl, (blk_cell BK703.out 1).trans rfl, (blk_cell BK703.out 2).trans rfl⟩ (fun hHeld => ?_)
         clear hK K
         refine norm_ (a' := ?_) ?_ ?_
         rotate_left
         ·show Act.put _ (some 139) _ = _
          simp only [Act.put, List.setIfInBounds_toArray, List.set_cons_zero, List.set_cons_succ, i64_w, i32_w]
          rfl
         refine one_ (i := 5) (N := some 140) #[true, true, true, true, true, true, false, false, false, true, false, false] rfl rfl (one_of HT_.out (by kernel_rfl)) (by decide) (fun K hK => ?_)
         refine goes_ Try.func29 (by kernel_rfl) rfl #[.agg #[.int .u64 t740, .int .u64 t741], .agg #[.int .u64 t745, .int .u64 t746]] (by rfl) rfl rfl (by (try simp only [List.map_toArray, List.map_cons, List.map_nil]); first | done | rfl | (simp only [List.length_drop, List.length_take]; rfl)) ?_
         with_reducible refine (wide_Add.calls t740 t741 t745 t746 t747 t748 t749 _ A99.out).mono ?_
         rintro e w117 ⟨rfl, hb⟩
         refine ⟨_, rfl, ?_⟩
         replace BK703 := bb_ BK703 hb
         replace BK713 := bb_ BK713 hb
         replace BK744 := bb_ BK744 hb
         replace BK750 := bb_ BK750 hb
         replace HB := bs_ w hb
         (try clear hb)
         (try clear hb2)
         (try clear hk)
         (try clear hi)
         refine hK.out _ _ ⟨(blk_cell BK744.out 0).trans rfl, (blk_cell BK744.out 1).trans rfl, (blk_cell BK703.out 0).trans rfl, (blk_cell BK703.out 1).trans rfl, (blk_cell BK703.out 2).trans rfl⟩ (fun hHeld => ?_)
         clear hK K
         refine norm_ (a' := ?_) ?_ ?_
         rotate_left
         ·show Act.put _ (some 140) _ = _
          simp only [Act.put, List.setIfInBounds_toArray, List.set_cons_zero, List.set_cons_succ, i64_w, i32_w]
          rfl
         refine pure_ (i := 6) (N := some 134) (v := ?_) (a' := ?_) #[true, true, true, true, true, true, true, false, false, true, false, false] rfl rfl (any_of HT_.out (by kernel_rfl)) (fun _ _ _ h => h) (Or.inl ⟨by rfl, ?_⟩) ?_ ?_
         rotate_left
         ·intro w'
          go_simp
          with_reducible rfl
         rotate_left
         ·simp only [Act.put, List.setIfInBounds_toArray, List.set_cons_zero, List.set_cons_succ, i64_w, i32_w]
          rfl
         refine pure_ (i := 7) (N := some 141) (v := ?_) (a' := ?_) #[true, true, true, true, true, true, true, true, false, true, false, false] rfl rfl (any_of HT_.out (by kernel_rfl)) (fun _ _ _ h => h) (Or.inl ⟨by rfl, ?_⟩) ?_ ?_
         rotate_left
         ·intro w'
          go_simp
          with_reducible rfl
         rotate_left
         ·simp only [Act.put, List.setIfInBounds_toArray, List.set_cons_zero, List.set_cons_succ, i64_w, i32_w]
          rfl
         refine pure_ (i := 8) (N := some 142) (v := ?_) (a' := ?_) #[true, true, true, true, true, true, true, true, true, true, false, false] rfl rfl (any_of HT_.out (by kernel_rfl)) (fun _ _ _ h => h) (Or.inl ⟨by rfl, ?_⟩) ?_ ?_
         rotate_left
         ·intro w'
          go_simp
          with_reducible rfl
         rotate_left
         ·simp only [Act.put, List.setIfInBounds_toArray, List.set_cons_zero, List.set_cons_succ, i64_w, i32_w]
          rfl
         exact norm_ (by simp only [putAll, Act.put, List.setIfInBounds_toArray, List.set_cons_zero, List.set_cons_succ]) (hCont (gb750) _ ⟨hHeld, (bq_ BK703), (bq_ BK713), (bq_ BK744), (bq_ BK750), GW750.out, GE750.out, NB703_750.out, NB750_703.out, NB713_750.out, NB750_713.out, NB744_750.out, NB750_744.out, (by repeat (first | (with_reducible first | exact HB.out | apply below_alloc | apply pw_below_drewN | apply below_drew1 | refine below_set ?_ (Aside0.out (by assumption))) | exact HB.out))⟩)
       rintro gb750 w118 ⟨hS_, h0_, h1_, h2_, h3_, h4_, h5_, h6_, h7_, h8_, h9_, h10_, h11_, h12_⟩
       have BK750 : Aside0 (w118.heap[gb750]? = some (.cells #[.int .u64 0, .int .u64 0] 60 (0, 0))) := ⟨h3_⟩
       have GW750 : Aside0 (w.heap.size ≤ gb750) := ⟨h4_⟩
       have GE750 : Aside0 (w.heap.size ≤ gb750) := ⟨h5_⟩
       have NB703_750 : Aside0 (gb703 ≠ gb750) := ⟨h6_⟩
       have NB750_703 : Aside0 (gb750 ≠ gb703) := ⟨h7_⟩
       have NB713_750 : Aside0 (gb713 ≠ gb750) := ⟨h8_⟩
       have NB750_713 : Aside0 (gb750 ≠ gb713) := ⟨h9_⟩
       have NB744_750 : Aside0 (gb744 ≠ gb750) := ⟨h10_⟩
       have NB750_744 : Aside0 (gb750 ≠ gb744) := ⟨h11_⟩
       replace BK703 : Aside0 (w118.heap[gb703]? = some (.cells #[.int .i64 a0_0, .int .i64 a0_1, .int .i64 a0_2] 23 (0, 0))) := ⟨h0_⟩
       replace BK713 : Aside0 (w118.heap[gb713]? = some (.cells #[.int .i64 x714000_2, .int .i64 x714001_2, .int .i64 x714002_2, .int .i64 x714003_2, .int .i64 x714004_2, .int .u64 x714005_2] 26 (0, 0))) := ⟨h1_⟩
       replace BK744 : Aside0 (w118.heap[gb744]? = some (.cells #[.int .u64 t740, .int .u64 t741] 60 (0, 0))) := ⟨h2_⟩
       replace HB : Aside0 (Below w.heap.size w w118) := ⟨h12_⟩
       clear h0_ h1_ h2_ h3_ h4_ h5_ h6_ h7_ h8_ h9_ h10_ h11_ h12_
       have hHeld : w118.cell? ⟨gb744, 0, none⟩ = some (.int .u64 t740) ∧ w118.cell? ⟨gb744, 1, none⟩ = some (.int .u64 t741) ∧ w118.cell? ⟨gb703, 0, none⟩ = some (.int .i64 a0_0) ∧ w118.cell? ⟨gb703, 1, none⟩ = some (.int .i64 a0_1) ∧ w118.cell? ⟨gb703, 2, none⟩ = some (.int .i64 a0_2) := hS_
       refine norm_ (a' := ?_) ?_ ?_
       rotate_left
       ·simp only [putAll, Act.put, List.setIfInBounds_toArray, List.set_cons_zero, List.set_cons_succ]
        rfl
       refine one_ (i := 10) (N := none) #[true, true, true, true, true, true, true, true, true, true, true, false] rfl rfl (one_of HT_.out (by kernel_rfl)) (by decide) (fun K hK => ?_)
       have hs119 : w118.cell? ⟨gb750, 0, none⟩ = some (.int .u64 0) := (blk_cell BK750.out 0).trans rfl
       have hfs119 := blk_frozen BK750.out 0
       have hns119_0 := NB703_750.out
       have hns119_1 := NB713_750.out
       have hns119_2 := NB744_750.out
       have hms119_0 := NB750_703.out
       have hms119_1 := NB750_713.out
       have hms119_2 := NB750_744.out
       have hs120 : w118.cell? ⟨gb750, 1, none⟩ = some (.int .u64 0) := (blk_cell BK750.out 1).trans rfl
       have hfs120 := blk_frozen BK750.out 1
       have hns120_0 := NB703_750.out
       have hns120_1 := NB713_750.out
       have hns120_2 := NB744_750.out
       have hms120_0 := NB750_703.out
       have hms120_1 := NB750_713.out
       have hms120_2 := NB750_744.out
       refine skip_ (w1 := ?_) (by rfl) rfl ?_ ?_
       rotate_left
       ·go_simp
        rfl
       refine hK.out _ _ ⟨((cell_far (p := ⟨gb750, _, none⟩) NB744_750.out _).trans (((cell_far (p := ⟨gb750, _, none⟩) NB744_750.out _).trans (hHeld.1)))), ((cell_far (p := ⟨gb750, _, none⟩) NB744_750.out _).trans (((cell_far (p := ⟨gb750, _, none⟩) NB744_750.out _).trans (hHeld.2.1)))), ((cell_far (p := ⟨gb750, _, none⟩) NB703_750.out _).trans (((cell_far (p := ⟨gb750, _, none⟩) NB703_750.out _).trans (hHeld.2.2.1)))), ((cell_far (p := ⟨gb750, _, none⟩) NB703_750.out _).trans (((cell_far (p := ⟨gb750, _, none⟩) NB703_750.out _).trans (hHeld.2.2.2.1)))), ((cell_far (p := ⟨gb750, _, none⟩) NB703_750.out _).trans (((cell_far (p := ⟨gb750, _, none⟩) NB703_750.out _).trans (hHeld.2.2.2.2))))⟩ (fun hHeld => ?_)
       clear hK K
       refine pure_ (i := 11) (N := some 21) (v := ?_) (a' := ?_) #[true, true, true, true, true, true, true, true, true, true, true, true] rfl rfl (any_of HT_.out (by kernel_rfl)) (fun _ _ _ h => h) (Or.inl ⟨by rfl, ?_⟩) ?_ ?_
       rotate_left
       ·intro w'
        go_simp
        with_reducible rfl
       rotate_left
       ·simp only [Act.put, List.setIfInBounds_toArray, List.set_cons_zero, List.set_cons_succ, i64_w, i32_w]
        rfl
       refine done_ (done_of HT_.out (by kernel_rfl)) ?_
       try go_wp2
       have n0_ : Aside0 (((w118.setCell ⟨gb750, 0, none⟩ (.int .u64 t747)).setCell ⟨gb750, 1, none⟩ (.int .u64 t748)).heap[gb703]? = some (.cells #[.int .i64 a0_0, .int .i64 a0_1, .int .i64 a0_2] 23 (0, 0))) := ⟨(blk_far (blk_far (bq_ BK703) NB703_750.out _) NB703_750.out _)⟩
       have n1_ : Aside0 (((w118.setCell ⟨gb750, 0, none⟩ (.int .u64 t747)).setCell ⟨gb750, 1, none⟩ (.int .u64 t748)).heap[gb713]? = some (.cells #[.int .i64 x714000_2, .int .i64 x714001_2, .int .i64 x714002_2, .int .i64 x714003_2, .int .i64 x714004_2, .int .u64 x714005_2] 26 (0, 0))) := ⟨(blk_far (blk_far (bq_ BK713) NB713_750.out _) NB713_750.out _)⟩
       have n2_ : Aside0 (((w118.setCell ⟨gb750, 0, none⟩ (.int .u64 t747)).setCell ⟨gb750, 1, none⟩ (.int .u64 t748)).heap[gb744]? = some (.cells #[.int .u64 t740, .int .u64 t741] 60 (0, 0))) := ⟨(blk_far (blk_far (bq_ BK744) NB744_750.out _) NB744_750.out _)⟩
       have n3_ : Aside0 (((w118.setCell ⟨gb750, 0, none⟩ (.int .u64 t747)).setCell ⟨gb750, 1, none⟩ (.int .u64 t748)).heap[gb750]? = some (.cells #[.int .u64 t747, .int .u64 t748] 60 (0, 0))) := ⟨(blk_put (cs := #[.int .u64 t747, .int .u64 0]) (blk_put (cs := #[.int .u64 0, .int .u64 0]) (bq_ BK750) 0 _ rfl) 1 _ rfl)⟩
       have n4_ : Aside0 (Below w.heap.size w ((w118.setCell ⟨gb750, 0, none⟩ (.int .u64 t747)).setCell ⟨gb750, 1, none⟩ (.int .u64 t748))) := ⟨by repeat (first | (with_reducible first | exact HB.out | apply below_alloc | apply pw_below_drewN | apply below_drew1 | refine below_set ?_ GE703.out | refine below_set ?_ GE713.out | refine below_set ?_ GE744.out | refine below_set ?_ GE750.out) | exact HB.out)⟩
       (try clear BK703)
       (try clear BK713)
       (try clear BK744)
       (try clear BK750)
       (try clear HB)
       generalize ((w118.setCell ⟨gb750, 0, none⟩ (.int .u64 t747)).setCell ⟨gb750, 1, none⟩ (.int .u64 t748)) = w121 at n0_ n1_ n2_ n3_ n4_ ⊢
       have BK703 := n0_
       have BK713 := n1_
       have BK744 := n2_
       have BK750 := n3_
       have HB := n4_
       clear n0_ n1_ n2_ n3_ n4_
       replace BK703 := Aside0.mk (blk_drew BK703.out)
       replace BK713 := Aside0.mk (blk_drew BK713.out)
       replace BK744 := Aside0.mk (blk_drew BK744.out)
       replace BK750 := Aside0.mk (blk_drew BK750.out)
       replace HB := Aside0.mk (below_drew1 HB.out)
       refine start_ (n := 17) (S := fun w' => w'.cell? ⟨gb750, 0, none⟩ = some (.int .u64 t747) ∧ w'.cell? ⟨gb750, 1, none⟩ = some (.int .u64 t748)) (ds := []) #[false, false, false, false, false, false, false, false, false, false, false, false, false, false, false, false, false] (by kernel_rfl) rfl rfl ⟨(blk_cell BK750.out 0).trans rfl, (blk_cell BK750.out 1).trans rfl⟩ (fun hHeld => ?_); refine with_tabW spigotlaw03_BucketBound.tab24 spigotlaw03_BucketBound.bits24 (fun HT_ HW_ => ?_)
       generalize w121.drew = w122 at BK703 BK713 BK744 BK750 HB hHeld ⊢
       refine pure_ (i := 0) (N := some 143) (v := ?_) (a' := ?_) #[true, false, false, false, false, false, false, false, false, false, false, false, false, false, false, false, false] rfl rfl (any_of HT_.out (by kernel_rfl)) (fun _ _ _ h => h) (Or.inl ⟨by rfl, ?_⟩) ?_ ?_
       rotate_left
       ·intro w'
        go_simp
        with_reducible rfl
       rotate_left
       ·simp only [Act.put, List.setIfInBounds_toArray, List.set_cons_zero, List.set_cons_succ, i64_w, i32_w]
        rfl
       refine pure_ (i := 1) (N := some 144) (v := ?_) (a' := ?_) #[true, true, false, false, false, false, false, false, false, false, false, false, false, false, false, false, false] rfl rfl (any_of HT_.out (by kernel_rfl)) (fun _ _ _ h => h) (Or.inl ⟨by rfl, ?_⟩) ?_ ?_
       rotate_left
       ·intro w'
        go_simp
        with_reducible rfl
       rotate_left
       ·simp only [Act.put, List.setIfInBounds_toArray, List.set_cons_zero, List.set_cons_succ, i64_w, i32_w]
        rfl
       refine pure_ (i := 2) (N := some 145) (v := ?_) (a' := ?_) #[true, true, true, false, false, false, false, false, false, false, false, false, false, false, false, false, false] rfl rfl (any_of HT_.out (by kernel_rfl)) (fun _ _ _ h => h) (Or.inl ⟨by rfl, ?_⟩) ?_ ?_
       rotate_left
       ·intro w'
        go_simp
        with_reducible rfl
       rotate_left
       ·simp only [Act.put, List.setIfInBounds_toArray, List.set_cons_zero, List.set_cons_succ, i64_w, i32_w]
        rfl
       refine pure_ (i := 3) (N := some 146) (v := ?_) (a' := ?_) #[true, true, true, true, false, false, false, false, false, false, false, false, false, false, false, false, false] rfl rfl (any_of HT_.out (by kernel_rfl)) (fun _ _ _ h => h) (Or.inl ⟨by rfl, ?_⟩) ?_ ?_
       rotate_left
       ·intro w'
        go_simp
        with_reducible rfl
       rotate_left
       ·simp only [Act.put, List.setIfInBounds_toArray, List.set_cons_zero, List.set_cons_succ, i64_w, i32_w]
        rfl
       refine pure_ (i := 4) (N := some 147) (v := ?_) (a' := ?_) #[true, true, true, true, true, false, false, false, false, false, false, false, false, false, false, false, false] rfl rfl (any_of HT_.out (by kernel_rfl)) (fun _ _ _ h => h) (Or.inl ⟨by rfl, ?_⟩) ?_ ?_
       rotate_left
       ·intro w'
        go_simp
        with_reducible rfl
       rotate_left
       ·simp only [Act.put, List.setIfInBounds_toArray, List.set_cons_zero, List.set_cons_succ, i64_w, i32_w]
        rfl
       refine pure_ (i := 5) (N := some 148) (v := ?_) (a' := ?_) #[true, true, true, true, true, true, false, false, false, false, false, false, false, false, false, false, false] rfl rfl (any_of HT_.out (by kernel_rfl)) (fun _ _ _ h => h) (Or.inl ⟨by rfl, ?_⟩) ?_ ?_
       rotate_left
       ·intro w'
        go_simp
        with_reducible rfl
       rotate_left
       ·simp only [Act.put, List.setIfInBounds_toArray, List.set_cons_zero, List.set_cons_succ, i64_w, i32_w]
        rfl
       refine pure_ (i := 6) (N := some 149) (v := ?_) (a' := ?_) #[true, true, true, true, true, true, true, false, false, false, false, false, false, false, false, false, false] rfl rfl (any_of HT_.out (by kernel_rfl)) (fun _ _ _ h => h) (Or.inl ⟨by rfl, ?_⟩) ?_ ?_
       rotate_left
       ·intro w'
        go_simp
        with_reducible rfl
       rotate_left
       ·simp only [Act.put, List.setIfInBounds_toArray, List.set_cons_zero, List.set_cons_succ, i64_w, i32_w]
        rfl
       refine pure_ (i := 7) (N := some 150) (v := ?_) (a' := ?_) #[true, true, true, true, true, true, true, true, false, false, false, false, false, false, false, false, false] rfl rfl (any_of HT_.out (by kernel_rfl)) (fun _ _ _ h => h) (Or.inl ⟨by rfl, ?_⟩) ?_ ?_
       rotate_left
       ·intro w'
        go_simp
        with_reducible rfl
       rotate_left
       ·simp only [Act.put, List.setIfInBounds_toArray, List.set_cons_zero, List.set_cons_succ, i64_w, i32_w]
        rfl
       refine take_ (i := 9) (N := some 152) (v := ?_) (a' := ?_) #[true, true, true, true, true, true, true, true, false, true, false, false, false, false, false, false, false] rfl rfl (take_ofW HT_.out HW_.out (by kernel_rfl)) (fun _ _ _ h => h) (Or.inl ⟨by rfl, ?_⟩) hHeld ?_ ?_
       rotate_left
       ·rintro w' ⟨s0, s1⟩
        go_simp
        with_reducible rfl
       rotate_left
       ·simp only [Act.put, List.setIfInBounds_toArray, List.set_cons_zero, List.set_cons_succ, i64_w, i32_w]
        rfl
       refine one_ (i := 8) (N := some 151) #[true, true, true, true, true, true, true, true, true, true, false, false, false, false, false, false, false] rfl rfl (one_of HT_.out (by kernel_rfl)) (by decide) (fun K hK => ?_)
       refine goes_ Try.func31 (by kernel_rfl) rfl #[.int .u64 x11_2] (by rfl) rfl rfl (by (try simp only [List.map_toArray, List.map_cons, List.map_nil]); first | done | rfl | (simp only [List.length_drop, List.length_take]; rfl)) ?_
       with_reducible refine (wide_Of.calls x11_2 t751 t752 _ A102.out).mono ?_
       rintro e w123 ⟨rfl, hb⟩
       refine ⟨_, rfl, ?_⟩
       replace BK703 := bb_ BK703 hb
       replace BK713 := bb_ BK713 hb
       replace BK744 := bb_ BK744 hb
       replace BK750 := bb_ BK750 hb
       replace HB := bs_ w hb
       (try clear hb)
       (try clear hb2)
       (try clear hk)
       (try clear hi)
       refine hK.out _ _ ⟨(blk_cell BK750.out 0).trans rfl, (blk_cell BK750.out 1).trans rfl⟩ (fun hHeld => ?_)
       clear hK K
       refine norm_ (a' := ?_) ?_ ?_
       rotate_left
       ·show Act.put _ (some 151) _ = _
        simp only [Act.put, List.setIfInBounds_toArray, List.set_cons_zero, List.set_cons_succ, i64_w, i32_w]
        rfl
       refine one_ (i := 10) (N := some 153) #[true, true, true, true, true, true, true, true, true, true, true, false, false, false, false, false, false] rfl rfl (one_of HT_.out (by kernel_rfl)) (by decide) (fun K hK => ?_)
       refine goes_ Try.func32 (by kernel_rfl) rfl #[.agg #[.int .u64 t751, .int .u64 t752], .agg #[.int .u64 t747, .int .u64 t748]] (by rfl) rfl rfl (by (try simp only [List.map_toArray, List.map_cons, List.map_nil]); first | done | rfl | (simp only [List.length_drop, List.length_take]; rfl)) ?_
       with_reducible refine (wide_Cmp.calls k2 t751 t752 t747 t748 t753 _ A103.out).mono ?_
       rintro e w124 ⟨rfl, hb⟩
       refine ⟨_, rfl, ?_⟩
       replace BK703 := bb_ BK703 hb
       replace BK713 := bb_ BK713 hb
       replace BK744 := bb_ BK744 hb
       replace BK750 := bb_ BK750 hb
       replace HB := bs_ w hb
       (try clear hb)
       (try clear hb2)
       (try clear hk)
       (try clear hi)
       refine hK.out _ _ ⟨(blk_cell BK750.out 0).trans rfl, (blk_cell BK750.out 1).trans rfl⟩ (fun hHeld => ?_)
       clear hK K
       refine norm_ (a' := ?_) ?_ ?_
       rotate_left
       ·show Act.put _ (some 153) _ = _
        simp only [Act.put, List.setIfInBounds_toArray, List.set_cons_zero, List.set_cons_succ, i64_w, i32_w]
        rfl
       refine pure_ (i := 11) (N := some 154) (v := ?_) (a' := ?_) #[true, true, true, true, true, true, true, true, true, true, true, true, false, false, false, false, false] rfl rfl (any_of HT_.out (by kernel_rfl)) (fun _ _ _ h => h) (Or.inl ⟨by rfl, ?_⟩) ?_ ?_
       rotate_left
       ·intro w'
        go_simp
        with_reducible rfl
       rotate_left
       ·simp only [Act.put, List.setIfInBounds_toArray, List.set_cons_zero, List.set_cons_succ, i64_w, i32_w]
        rfl
       refine pure_ (i := 12) (N := some 155) (v := ?_) (a' := ?_) #[true, true, true, true, true, true, true, true, true, true, true, true, true, false, false, false, false] rfl rfl (any_of HT_.out (by kernel_rfl)) (fun _ _ _ h => h) (Or.inl ⟨by rfl, ?_⟩) ?_ ?_
       rotate_left
       ·intro w'
        go_simp
        with_reducible rfl
       rotate_left
       ·simp only [Act.put, List.setIfInBounds_toArray, List.set_cons_zero, List.set_cons_succ, i64_w, i32_w]
        rfl
       refine pure_ (i := 13) (N := some 156) (v := ?_) (a' := ?_) #[true, true, true, true, true, true, true, true, true, true, true, true, true, true, false, false, false] rfl rfl (any_of HT_.out (by kernel_rfl)) (fun _ _ _ h => h) (Or.inl ⟨by rfl, ?_⟩) ?_ ?_
       rotate_left
       ·intro w'
        go_simp
        with_reducible rfl
       rotate_left
       ·simp only [Act.put, List.setIfInBounds_toArray, List.set_cons_zero, List.set_cons_succ, i64_w, i32_w]
        rfl
       refine one_ (i := 14) (N := some 157) #[true, true, true, true, true, true, true, true, true, true, true, true, true, true, true, false, false] rfl rfl (one_of HT_.out (by kernel_rfl)) (by decide) (fun K hK => ?_)
       refine goes_ Try.func27 (by kernel_rfl) rfl #[] (by rfl) rfl rfl (by (try simp only [List.map_toArray, List.map_cons, List.map_nil]); first | done | rfl | (simp only [List.length_drop, List.length_take]; rfl)) ?_
       with_reducible refine (spigotlaw03_alive.calls k2  t754 _ A105.out).mono ?_
       rintro e w125 ⟨rfl, hb⟩
       refine ⟨_, rfl, ?_⟩
       replace BK703 := bb_ BK703 hb
       replace BK713 := bb_ BK713 hb
       replace BK744 := bb_ BK744 hb
       replace BK750 := bb_ BK750 hb
       replace HB := bs_ w hb
       (try clear hb)
       (try clear hb2)
       (try clear hk)
       (try clear hi)
       refine hK.out _ _ ⟨(blk_cell BK750.out 0).trans rfl, (blk_cell BK750.out 1).trans rfl⟩ (fun hHeld => ?_)
       clear hK K
       refine norm_ (a' := ?_) ?_ ?_
       rotate_left
       ·show Act.put _ (some 157) _ = _
        simp only [Act.put, List.setIfInBounds_toArray, List.set_cons_zero, List.set_cons_succ, i64_w, i32_w]
        rfl
       refine pure_ (i := 15) (N := some 158) (v := ?_) (a' := ?_) #[true, true, true, true, true, true, true, true, true, true, true, true, true, true, true, true, false] rfl rfl (any_of HT_.out (by kernel_rfl)) (fun _ _ _ h => h) (Or.inl ⟨by rfl, ?_⟩) ?_ ?_
       rotate_left
       ·intro w'
        go_simp
        with_reducible rfl
       rotate_left
       ·simp only [Act.put, List.setIfInBounds_toArray, List.set_cons_zero, List.set_cons_succ, i64_w, i32_w]
        rfl
       refine pure_ (i := 16) (N := some 8) (v := ?_) (a' := ?_) #[true, true, true, true, true, true, true, true, true, true, true, true, true, true, true, true, true] rfl rfl (any_of HT_.out (by kernel_rfl)) (fun _ _ _ h => h) (Or.inl ⟨by rfl, ?_⟩) ?_ ?_
       rotate_left
       ·intro w'
        go_simp
        with_reducible rfl
       rotate_left
       ·simp only [Act.put, List.setIfInBounds_toArray, List.set_cons_zero, List.set_cons_succ, i64_w, i32_w]
        rfl
       refine done_ (done_of HT_.out (by kernel_rfl)) ?_
       try go_wp2
       go_ret
       exact ⟨by first | rfl | (simp [errW_none, errW_some] <;> rfl) | (simp [*, errW_none, errW_some] <;> rfl), by repeat (first | (with_reducible first | exact HB.out | apply below_alloc | apply pw_below_drewN | apply below_drew1 | refine below_set ?_ GE703.out | refine below_set ?_ GE713.out | refine below_set ?_ GE744.out | refine below_set ?_ GE750.out) | exact HB.out)⟩

end Go.Proofs.Ytmfkedeaifdfdaa.X
