-- written by xprint.py, a program of this session over the kit's print
import Derived.Test.YtmfkedeaifdfdaaX0
import Derived.Test.YtmfkedeaifdfdaaX10
import Derived.Test.YtmfkedeaifdfdaaX16
import Derived.Test.YtmfkedeaifdfdaaX18
import Derived.Test.YtmfkedeaifdfdaaX22
import Derived.Test.YtmfkedeaifdfdaaX25
namespace Go.Proofs.Ytmfkedeaifdfdaa.X
open Go.RowKit Go.Proofs.YtmfkedeaifdfdaaW.PrintWords Go.Proofs.YtmfkedeaifdfdaaW.PrintLast Go.Proofs.YtmfkedeaifdfdaaW.PrintMore
attribute [local go_sem] max2_int min2_int max_two min_two max_three min_three max_four min_four   -- for this text's walks alone
set_option linter.unusedVariables false
set_option linter.unusedSimpArgs false

/-! ### spigotlaw03_BucketMore: function 7 -/
mutual
def spigotlaw03_BucketMore.j0 : Nat → List Int → List Int → Bool → Int → Int → Int → Int → Int → Int → Int → Int → Int → Int → Int → Int → Option (Bool)
  | 0, _, _, _, _, _, _, _, _, _, _, _, _, _, _, _ => none
  | k + 1, x2, x3, x51, x587000, x587001, x587002, x587003, x587004, x587005, x588000, x588001, x588002, x588003, x588004, x588005 => if x51 = true then ((spigotlaw03_alive.f k).bind fun t591 => (some t591)) else (spigotlaw03_BucketMore.l0 k x2 x3 0 x587000 x587001 x587002 x587003 x587004 x587005 x588000 x588001 x588002 x588003 x588004 x588005)
def spigotlaw03_BucketMore.l0 : Nat → List Int → List Int → Int → Int → Int → Int → Int → Int → Int → Int → Int → Int → Int → Int → Int → Option (Bool)
  | 0, _, _, _, _, _, _, _, _, _, _, _, _, _, _, _ => none
  | k + 1, x2, x3, x9, x587000, x587001, x587002, x587003, x587004, x587005, x588000, x588001, x588002, x588003, x588004, x588005 => if x9 < (x2.length : Int) then (if 0 ≤ x9 then ((bucket_Refill.f k x587000 x587001 x587002 x587003 x587004 x587005 (rd x2 x9)).bind fun bt594 => ((bucket_Refill.f k x588000 x588001 x588002 x588003 x588004 x588005 (rd x2 x9)).bind fun bt603 => (if bt594.2.2.2.2.2.2 = 0 then (if bt603.2.2.2.2.2.2 = 0 then ((spigotlaw03_more.f bt603.1 bt603.2.1 bt603.2.2.1 bt603.2.2.2.1 bt603.2.2.2.2.1 bt603.2.2.2.2.2.1 bt594.1 bt594.2.1 bt594.2.2.1 bt594.2.2.2.1 bt594.2.2.2.2.1 bt594.2.2.2.2.2.1).bind fun t611 => (if t611 = true then (if bt594.2.2.2.2.2.1 = bt603.2.2.2.2.2.1 then (if x9 < (x3.length : Int) then ((bucket_Charge.f bt594.1 bt594.2.1 bt594.2.2.1 bt594.2.2.2.1 bt594.2.2.2.2.1 bt594.2.2.2.2.2.1 (rd x3 x9)).bind fun bt613 => ((bucket_Charge.f bt603.1 bt603.2.1 bt603.2.2.1 bt603.2.2.2.1 bt603.2.2.2.2.1 bt603.2.2.2.2.2.1 (rd x3 x9)).bind fun bt621 => (if bt613.2.2.2.2.2.2 = 0 then (if bt621.2.2.2.2.2.2 = 0 then ((spigotlaw03_more.f bt621.1 bt621.2.1 bt621.2.2.1 bt621.2.2.2.1 bt621.2.2.2.2.1 bt621.2.2.2.2.2.1 bt613.1 bt613.2.1 bt613.2.2.1 bt613.2.2.2.1 bt613.2.2.2.2.1 bt613.2.2.2.2.2.1).bind fun t628 => (if t628 = true then (spigotlaw03_BucketMore.j2 k x2 x3 x9 bt613.1 bt613.2.1 bt613.2.2.1 bt613.2.2.2.1 bt613.2.2.2.2.1 bt613.2.2.2.2.2.1 bt621.1 bt621.2.1 bt621.2.2.1 bt621.2.2.2.1 bt621.2.2.2.2.1 bt621.2.2.2.2.2.1) else (none))) else (none)) else (spigotlaw03_BucketMore.j2 k x2 x3 x9 bt594.1 bt594.2.1 bt594.2.2.1 bt594.2.2.2.1 bt594.2.2.2.2.1 bt594.2.2.2.2.2.1 bt603.1 bt603.2.1 bt603.2.2.1 bt603.2.2.2.1 bt603.2.2.2.2.1 bt603.2.2.2.2.2.1)))) else (none)) else (none)) else (none))) else (none)) else (none)))) else (none)) else ((spigotlaw03_alive.f k).bind fun t592 => (some t592))
def spigotlaw03_BucketMore.j2 : Nat → List Int → List Int → Int → Int → Int → Int → Int → Int → Int → Int → Int → Int → Int → Int → Int → Option (Bool)
  | 0, _, _, _, _, _, _, _, _, _, _, _, _, _, _, _ => none
  | k + 1, x2, x3, x9, x587000, x587001, x587002, x587003, x587004, x587005, x588000, x588001, x588002, x588003, x588004, x588005 => if 0 ≤ x9 then (if x9 < (x3.length : Int) then ((bucket_Wait.f k x587000 x587001 x587002 x587003 x587004 x587005 (rd x3 x9)).bind fun bt630 => ((bucket_Wait.f k x588000 x588001 x588002 x588003 x588004 x588005 (rd x3 x9)).bind fun bt633 => (if bt630.2 = bt633.2 then (if bt633.1 > bt630.1 then (none) else (spigotlaw03_BucketMore.l0 k x2 x3 (wrap64 (x9 + 1)) x587000 x587001 x587002 x587003 x587004 x587005 x588000 x588001 x588002 x588003 x588004 x588005)) else (none)))) else (none)) else (none)
end
def spigotlaw03_BucketMore.f (k : Nat) (a0_0 : Int) (a0_1 : Int) (a0_2 : Int) (a0_3 : Int) (a0_4 : Int) (a0_5 : Int) (a1_0 : Int) (a1_1 : Int) (a1_2 : Int) (a1_3 : Int) (a1_4 : Int) (a1_5 : Int) (l2 : List Int) (l3 : List Int) : Option (Bool) := (spigotref03_Check.f a0_0 a0_1 a0_2 a0_3 a0_4 a0_5).bind fun t588 => (if t588 = 0 then ((spigotref03_Check.f a0_0 a0_1 a0_2 a1_3 a1_4 a0_5).bind fun t589 => (if t589 = 0 then ((spigotlaw03_more.f a0_0 a0_1 a0_2 a1_3 a1_4 a0_5 a0_0 a0_1 a0_2 a0_3 a0_4 a0_5).bind fun t590 => (if t590 = true then (if (l2.length : Int) > 30 then (spigotlaw03_BucketMore.j0 k l2 l3 true a0_0 a0_1 a0_2 a0_3 a0_4 a0_5 a0_0 a0_1 a0_2 a1_3 a1_4 a0_5) else (spigotlaw03_BucketMore.j0 k l2 l3 (decide ((l3.length : Int) < (l2.length : Int))) a0_0 a0_1 a0_2 a0_3 a0_4 a0_5 a0_0 a0_1 a0_2 a1_3 a1_4 a0_5)) else (spigotlaw03_BucketMore.j0 k l2 l3 true a0_0 a0_1 a0_2 a0_3 a0_4 a0_5 a0_0 a0_1 a0_2 a1_3 a1_4 a0_5))) else (spigotlaw03_BucketMore.j0 k l2 l3 true a0_0 a0_1 a0_2 a0_3 a0_4 a0_5 a0_0 a0_1 a0_2 a1_3 a1_4 a0_5))) else (spigotlaw03_BucketMore.j0 k l2 l3 true a0_0 a0_1 a0_2 a0_3 a0_4 a0_5 a0_0 a0_1 a0_2 a1_3 a1_4 a0_5))
theorem spigotlaw03_BucketMore.mono_l : ∀ k, (∀ y0 y1 y2 y3 y4 y5 y6 y7 y8 y9 y10 y11 y12 y13 y14, LeO (spigotlaw03_BucketMore.j0 k y0 y1 y2 y3 y4 y5 y6 y7 y8 y9 y10 y11 y12 y13 y14) (spigotlaw03_BucketMore.j0 (k + 1) y0 y1 y2 y3 y4 y5 y6 y7 y8 y9 y10 y11 y12 y13 y14)) ∧ (∀ y0 y1 y2 y3 y4 y5 y6 y7 y8 y9 y10 y11 y12 y13 y14, LeO (spigotlaw03_BucketMore.l0 k y0 y1 y2 y3 y4 y5 y6 y7 y8 y9 y10 y11 y12 y13 y14) (spigotlaw03_BucketMore.l0 (k + 1) y0 y1 y2 y3 y4 y5 y6 y7 y8 y9 y10 y11 y12 y13 y14)) ∧ (∀ y0 y1 y2 y3 y4 y5 y6 y7 y8 y9 y10 y11 y12 y13 y14, LeO (spigotlaw03_BucketMore.j2 k y0 y1 y2 y3 y4 y5 y6 y7 y8 y9 y10 y11 y12 y13 y14) (spigotlaw03_BucketMore.j2 (k + 1) y0 y1 y2 y3 y4 y5 y6 y7 y8 y9 y10 y11 y12 y13 y14))
  | 0 => ⟨fun _ _ _ _ _ _ _ _ _ _ _ _ _ _ _ r h => by simp [spigotlaw03_BucketMore.j0] at h, fun _ _ _ _ _ _ _ _ _ _ _ _ _ _ _ r h => by simp [spigotlaw03_BucketMore.l0] at h, fun _ _ _ _ _ _ _ _ _ _ _ _ _ _ _ r h => by simp [spigotlaw03_BucketMore.j2] at h⟩
  | k + 1 => by
    obtain ⟨ih0, ih1, ih2⟩ := spigotlaw03_BucketMore.mono_l k
    refine ⟨?_, ?_, ?_⟩
    · intro y0 y1 y2 y3 y4 y5 y6 y7 y8 y9 y10 y11 y12 y13 y14
      unfold spigotlaw03_BucketMore.j0
      repeat' first
      | (with_reducible exact ih0 _ _ _ _ _ _ _ _ _ _ _ _ _ _ _)
      | (with_reducible exact ih1 _ _ _ _ _ _ _ _ _ _ _ _ _ _ _)
      | (with_reducible exact ih2 _ _ _ _ _ _ _ _ _ _ _ _ _ _ _)
      | (with_reducible exact bucket_Refill.mono _ _ _ _ _ _ _ _)
      | (with_reducible exact bucket_Wait.mono _ _ _ _ _ _ _ _)
      | (with_reducible exact spigotlaw03_alive.mono _)
      | (with_reducible exact LeO.refl _)
      | (with_reducible exact LeO.none _)
      | (with_reducible refine LeO.ite ?_ ?_)
      | (with_reducible refine LeO.bind ?_ (fun _ => ?_))
      | exact ih0 _ _ _ _ _ _ _ _ _ _ _ _ _ _ _
      | exact ih1 _ _ _ _ _ _ _ _ _ _ _ _ _ _ _
      | exact ih2 _ _ _ _ _ _ _ _ _ _ _ _ _ _ _
      | exact bucket_Refill.mono _ _ _ _ _ _ _ _
      | exact bucket_Wait.mono _ _ _ _ _ _ _ _
      | exact spigotlaw03_alive.mono _
      | exact LeO.none _
      | refine LeO.ite ?_ ?_
      | refine LeO.bind ?_ (fun _ => ?_)
    · intro y0 y1 y2 y3 y4 y5 y6 y7 y8 y9 y10 y11 y12 y13 y14
      unfold spigotlaw03_BucketMore.l0
      repeat' first
      | (with_reducible exact ih0 _ _ _ _ _ _ _ _ _ _ _ _ _ _ _)
      | (with_reducible exact ih1 _ _ _ _ _ _ _ _ _ _ _ _ _ _ _)
      | (with_reducible exact ih2 _ _ _ _ _ _ _ _ _ _ _ _ _ _ _)
      | (with_reducible exact bucket_Refill.mono _ _ _ _ _ _ _ _)
      | (with_reducible exact bucket_Wait.mono _ _ _ _ _ _ _ _)
      | (with_reducible exact spigotlaw03_alive.mono _)
      | (with_reducible exact LeO.refl _)
      | (with_reducible exact LeO.none _)
      | (with_reducible refine LeO.ite ?_ ?_)
      | (with_reducible refine LeO.bind ?_ (fun _ => ?_))
      | exact ih0 _ _ _ _ _ _ _ _ _ _ _ _ _ _ _
      | exact ih1 _ _ _ _ _ _ _ _ _ _ _ _ _ _ _
      | exact ih2 _ _ _ _ _ _ _ _ _ _ _ _ _ _ _
      | exact bucket_Refill.mono _ _ _ _ _ _ _ _
      | exact bucket_Wait.mono _ _ _ _ _ _ _ _
      | exact spigotlaw03_alive.mono _
      | exact LeO.none _
      | refine LeO.ite ?_ ?_
      | refine LeO.bind ?_ (fun _ => ?_)
    · intro y0 y1 y2 y3 y4 y5 y6 y7 y8 y9 y10 y11 y12 y13 y14
      unfold spigotlaw03_BucketMore.j2
      repeat' first
      | (with_reducible exact ih0 _ _ _ _ _ _ _ _ _ _ _ _ _ _ _)
      | (with_reducible exact ih1 _ _ _ _ _ _ _ _ _ _ _ _ _ _ _)
      | (with_reducible exact ih2 _ _ _ _ _ _ _ _ _ _ _ _ _ _ _)
      | (with_reducible exact bucket_Refill.mono _ _ _ _ _ _ _ _)
      | (with_reducible exact bucket_Wait.mono _ _ _ _ _ _ _ _)
      | (with_reducible exact spigotlaw03_alive.mono _)
      | (with_reducible exact LeO.refl _)
      | (with_reducible exact LeO.none _)
      | (with_reducible refine LeO.ite ?_ ?_)
      | (with_reducible refine LeO.bind ?_ (fun _ => ?_))
      | exact ih0 _ _ _ _ _ _ _ _ _ _ _ _ _ _ _
      | exact ih1 _ _ _ _ _ _ _ _ _ _ _ _ _ _ _
      | exact ih2 _ _ _ _ _ _ _ _ _ _ _ _ _ _ _
      | exact bucket_Refill.mono _ _ _ _ _ _ _ _
      | exact bucket_Wait.mono _ _ _ _ _ _ _ _
      | exact spigotlaw03_alive.mono _
      | exact LeO.none _
      | refine LeO.ite ?_ ?_
      | refine LeO.bind ?_ (fun _ => ?_)
theorem spigotlaw03_BucketMore.mono : ∀ a0 a1 a2 a3 a4 a5 a6 a7 a8 a9 a10 a11 a12 a13 k, LeO (spigotlaw03_BucketMore.f k a0 a1 a2 a3 a4 a5 a6 a7 a8 a9 a10 a11 a12 a13) (spigotlaw03_BucketMore.f (k + 1) a0 a1 a2 a3 a4 a5 a6 a7 a8 a9 a10 a11 a12 a13) := by
  intro a0 a1 a2 a3 a4 a5 a6 a7 a8 a9 a10 a11 a12 a13 k
  obtain ⟨ih0, ih1, ih2⟩ := spigotlaw03_BucketMore.mono_l k
  unfold spigotlaw03_BucketMore.f
  repeat' first
      | (with_reducible exact ih0 _ _ _ _ _ _ _ _ _ _ _ _ _ _ _)
      | (with_reducible exact ih1 _ _ _ _ _ _ _ _ _ _ _ _ _ _ _)
      | (with_reducible exact ih2 _ _ _ _ _ _ _ _ _ _ _ _ _ _ _)
      | (with_reducible exact bucket_Refill.mono _ _ _ _ _ _ _ _)
      | (with_reducible exact bucket_Wait.mono _ _ _ _ _ _ _ _)
      | (with_reducible exact spigotlaw03_alive.mono _)
      | (with_reducible exact LeO.refl _)
      | (with_reducible exact LeO.none _)
      | (with_reducible refine LeO.ite ?_ ?_)
      | (with_reducible refine LeO.bind ?_ (fun _ => ?_))
      | exact ih0 _ _ _ _ _ _ _ _ _ _ _ _ _ _ _
      | exact ih1 _ _ _ _ _ _ _ _ _ _ _ _ _ _ _
      | exact ih2 _ _ _ _ _ _ _ _ _ _ _ _ _ _ _
      | exact bucket_Refill.mono _ _ _ _ _ _ _ _
      | exact bucket_Wait.mono _ _ _ _ _ _ _ _
      | exact spigotlaw03_alive.mono _
      | exact LeO.none _
      | refine LeO.ite ?_ ?_
      | refine LeO.bind ?_ (fun _ => ?_)
def spigotlaw03_BucketMore.T1 : Bool × List (List Nat × List Nat) := (true, [([], []), ([0], [0]), ([], []), ([2], [2]), ([0, 1], []), ([4, 1, 0, 1], [1, 4]), ([0, 1, 2, 3, 4, 5], []), ([6, 3, 5, 0, 1, 2, 3, 4, 5], [3, 6])])
def spigotlaw03_BucketMore.B1 : List Nat := [0, 1, 0, 4, 3, 19, 63, 127]
theorem spigotlaw03_BucketMore.tab1 : rtab .any (opsOf Try.f7 1) = spigotlaw03_BucketMore.T1 := by kernel_rfl
theorem spigotlaw03_BucketMore.bits1 : waitsOk spigotlaw03_BucketMore.T1.2 spigotlaw03_BucketMore.B1 = true := by kernel_rfl
def spigotlaw03_BucketMore.T7 : Bool × List (List Nat × List Nat) := (true, [([], []), ([], []), ([], []), ([1, 2], [1, 2]), ([3], [3]), ([0, 4], [0, 4]), ([5], [5]), ([6], [6]), ([6], [6]), ([], []), ([9, 7, 5, 0, 1, 2, 3, 4, 5, 6, 7, 9], [7, 9]), ([8, 10, 0, 1, 2, 3, 4, 5, 6, 7, 8, 9, 10], [8])])
def spigotlaw03_BucketMore.B7 : List Nat := [0, 0, 0, 6, 14, 31, 63, 127, 127, 0, 767, 2047]
theorem spigotlaw03_BucketMore.tab7 : rtab .any (opsOf Try.f7 7) = spigotlaw03_BucketMore.T7 := by kernel_rfl
theorem spigotlaw03_BucketMore.bits7 : waitsOk spigotlaw03_BucketMore.T7.2 spigotlaw03_BucketMore.B7 = true := by kernel_rfl
def spigotlaw03_BucketMore.T8 : Bool × List (List Nat × List Nat) := (true, [([], []), ([], []), ([], []), ([1, 2], [1, 2]), ([3], [3]), ([0, 4], [0, 4]), ([5], [5]), ([6], [6]), ([6], [6]), ([], []), ([9, 7, 5, 0, 1, 2, 3, 4, 5, 6, 7, 9], [7, 9]), ([8, 10, 0, 1, 2, 3, 4, 5, 6, 7, 8, 9, 10], [8])])
def spigotlaw03_BucketMore.B8 : List Nat := [0, 0, 0, 6, 14, 31, 63, 127, 127, 0, 767, 2047]
theorem spigotlaw03_BucketMore.tab8 : rtab .any (opsOf Try.f7 8) = spigotlaw03_BucketMore.T8 := by kernel_rfl
theorem spigotlaw03_BucketMore.bits8 : waitsOk spigotlaw03_BucketMore.T8.2 spigotlaw03_BucketMore.B8 = true := by kernel_rfl
def spigotlaw03_BucketMore.T12 : Bool × List (List Nat × List Nat) := (true, [([], []), ([], []), ([], []), ([1, 2], [1, 2]), ([3], [3]), ([0, 4], [0, 4]), ([5], [5]), ([6], [6]), ([6], [6]), ([7, 5, 0, 1, 2, 3, 4, 5, 6, 7], [7]), ([8, 9, 0, 1, 2, 3, 4, 5, 6, 7, 8, 9], [8])])
def spigotlaw03_BucketMore.B12 : List Nat := [0, 0, 0, 6, 14, 31, 63, 127, 127, 255, 1023]
theorem spigotlaw03_BucketMore.tab12 : rtab .any (opsOf Try.f7 12) = spigotlaw03_BucketMore.T12 := by kernel_rfl
theorem spigotlaw03_BucketMore.bits12 : waitsOk spigotlaw03_BucketMore.T12.2 spigotlaw03_BucketMore.B12 = true := by kernel_rfl
def spigotlaw03_BucketMore.T13 : Bool × List (List Nat × List Nat) := (true, [([], []), ([], []), ([], []), ([1, 2], [1, 2]), ([3], [3]), ([0, 4], [0, 4]), ([5], [5]), ([6], [6]), ([6], [6]), ([7, 5, 0, 1, 2, 3, 4, 5, 6, 7], [7]), ([8, 9, 0, 1, 2, 3, 4, 5, 6, 7, 8, 9], [8])])
def spigotlaw03_BucketMore.B13 : List Nat := [0, 0, 0, 6, 14, 31, 63, 127, 127, 255, 1023]
theorem spigotlaw03_BucketMore.tab13 : rtab .any (opsOf Try.f7 13) = spigotlaw03_BucketMore.T13 := by kernel_rfl
theorem spigotlaw03_BucketMore.bits13 : waitsOk spigotlaw03_BucketMore.T13.2 spigotlaw03_BucketMore.B13 = true := by kernel_rfl
def spigotlaw03_BucketMore.T18 : Bool × List (List Nat × List Nat) := (true, [([], []), ([], []), ([], []), ([1, 2], [1, 2]), ([3], [3]), ([0, 4], [0, 4]), ([5], [5]), ([6], [6]), ([6], [6]), ([7, 5, 0, 1, 2, 3, 4, 5, 6, 7], [7]), ([8, 9, 0, 1, 2, 3, 4, 5, 6, 7, 8, 9], [8])])
def spigotlaw03_BucketMore.B18 : List Nat := [0, 0, 0, 6, 14, 31, 63, 127, 127, 255, 1023]
theorem spigotlaw03_BucketMore.tab18 : rtab .any (opsOf Try.f7 18) = spigotlaw03_BucketMore.T18 := by kernel_rfl
theorem spigotlaw03_BucketMore.bits18 : waitsOk spigotlaw03_BucketMore.T18.2 spigotlaw03_BucketMore.B18 = true := by kernel_rfl
def spigotlaw03_BucketMore.T19 : Bool × List (List Nat × List Nat) := (true, [([], []), ([], []), ([], []), ([1, 2], [1, 2]), ([3], [3]), ([0, 4], [0, 4]), ([5], [5]), ([6], [6]), ([6], [6]), ([7, 5, 0, 1, 2, 3, 4, 5, 6, 7], [7]), ([8, 9, 0, 1, 2, 3, 4, 5, 6, 7, 8, 9], [8])])
def spigotlaw03_BucketMore.B19 : List Nat := [0, 0, 0, 6, 14, 31, 63, 127, 127, 255, 1023]
theorem spigotlaw03_BucketMore.tab19 : rtab .any (opsOf Try.f7 19) = spigotlaw03_BucketMore.T19 := by kernel_rfl
theorem spigotlaw03_BucketMore.bits19 : waitsOk spigotlaw03_BucketMore.T19.2 spigotlaw03_BucketMore.B19 = true := by kernel_rfl
set_option maxHeartbeats 8000000 in
set_option maxRecDepth 100000 in
theorem spigotlaw03_BucketMore.calls (k : Nat) (a0_0 : Int) (a0_1 : Int) (a0_2 : Int) (a0_3 : Int) (a0_4 : Int) (a0_5 : Int) (a1_0 : Int) (a1_1 : Int) (a1_2 : Int) (a1_3 : Int) (a1_4 : Int) (a1_5 : Int) (A2 : Option Addr) (c2 : Nat) (l2 : List Int) (A3 : Option Addr) (c3 : Nat) (l3 : List Int) (r : Bool) (w : World) (hr2 : Kd.C (Kd.int .u64) w A2 l2.length l2) (hc2 : l2.length ≤ c2) (hr3 : Kd.C (Kd.int .i64) w A3 l3.length l3) (hc3 : l3.length ≤ c3) (h : spigotlaw03_BucketMore.f k a0_0 a0_1 a0_2 a0_3 a0_4 a0_5 a1_0 a1_1 a1_2 a1_3 a1_4 a1_5 l2 l3 = some r) :
  Calls Try.prog 7 #[.agg #[.int .i64 a0_0, .int .i64 a0_1, .int .i64 a0_2, .int .i64 a0_3, .int .i64 a0_4, .int .u64 a0_5], .agg #[.int .i64 a1_0, .int .i64 a1_1, .int .i64 a1_2, .int .i64 a1_3, .int .i64 a1_4, .int .u64 a1_5], .slice A2 l2.length c2, .slice A3 l3.length c3] w fun e w' => e = .returned (.bool r) ∧ Below w.heap.size w w' := by
 have hu26 := Try.underlying26
 have hu23 := Try.underlying23
 have HR2 := Aside0.mk hr2
 have HC2 := Aside0.mk hc2
 clear hr2 hc2
 have HR3 := Aside0.mk hr3
 have HC3 := Aside0.mk hc3
 clear hr3 hc3
 have HB := Aside0.mk (Below.refl w.heap.size w)
 have H : ((spigotref03_Check.f a0_0 a0_1 a0_2 a0_3 a0_4 a0_5).bind fun t588 => (if t588 = 0 then ((spigotref03_Check.f a0_0 a0_1 a0_2 a1_3 a1_4 a0_5).bind fun t589 => (if t589 = 0 then ((spigotlaw03_more.f a0_0 a0_1 a0_2 a1_3 a1_4 a0_5 a0_0 a0_1 a0_2 a0_3 a0_4 a0_5).bind fun t590 => (if t590 = true then (if (l2.length : Int) > 30 then (spigotlaw03_BucketMore.j0 k l2 l3 true a0_0 a0_1 a0_2 a0_3 a0_4 a0_5 a0_0 a0_1 a0_2 a1_3 a1_4 a0_5) else (spigotlaw03_BucketMore.j0 k l2 l3 (decide ((l3.length : Int) < (l2.length : Int))) a0_0 a0_1 a0_2 a0_3 a0_4 a0_5 a0_0 a0_1 a0_2 a1_3 a1_4 a0_5)) else (spigotlaw03_BucketMore.j0 k l2 l3 true a0_0 a0_1 a0_2 a0_3 a0_4 a0_5 a0_0 a0_1 a0_2 a1_3 a1_4 a0_5))) else (spigotlaw03_BucketMore.j0 k l2 l3 true a0_0 a0_1 a0_2 a0_3 a0_4 a0_5 a0_0 a0_1 a0_2 a1_3 a1_4 a0_5))) else (spigotlaw03_BucketMore.j0 k l2 l3 true a0_0 a0_1 a0_2 a0_3 a0_4 a0_5 a0_0 a0_1 a0_2 a1_3 a1_4 a0_5))) = some r := h
 clear h
 have HC5 := Aside0.mk H
 clear H
 go_enter Try.func7, Try.ntmps7
 try go_wp2_with (first | ((with_reducible refine gate_dst (N := 4) rfl ?_); refine box_event ?hg (N := 4) ?hd (cs := #[.int .i64 a0_0, .int .i64 a0_1, .int .i64 a0_2, .int .i64 a0_3, .int .i64 a0_4, .int .u64 a0_5]) (t := 26) ?hr ?_; (case hd => rfl); (case hg => rfl); (case hr => first | (go_simp; done) | (go_simp; rfl)); intro gb586 hg w6 hbox hb; have BK586 := Aside0.mk (hbox); have GW586 := bz_ w hg; have GE586 := GW586; replace HB := bs_ w hb; clear hb hbox hg) | ((with_reducible refine gate_dst (N := 5) rfl ?_); refine box_event ?hg (N := 5) ?hd (cs := #[.int .i64 a1_0, .int .i64 a1_1, .int .i64 a1_2, .int .i64 a1_3, .int .i64 a1_4, .int .u64 a1_5]) (t := 26) ?hr ?_; (case hd => rfl); (case hg => rfl); (case hr => first | (go_simp; done) | (go_simp; rfl)); intro gb587 hg w7 hbox hb; have BK587 := Aside0.mk (hbox); have GW587 := bz_ w hg; have GE587 := GW587; have NB586_587 := bn_ BK586 hg; have NB587_586 := bm_ BK586 hg; replace BK586 := bb_ BK586 hb; replace HB := bs_ w hb; clear hb hbox hg))
 replace BK586 := Aside0.mk (blk_drew BK586.out)
 replace BK587 := Aside0.mk (blk_drew BK587.out)
 replace HB := Aside0.mk (below_drew1 HB.out)
 refine start_ (n := 8) (S := fun w' => w'.cell? ⟨gb586, 0, none⟩ = some (.int .i64 a0_0) ∧ w'.cell? ⟨gb586, 1, none⟩ = some (.int .i64 a0_1) ∧ w'.cell? ⟨gb586, 2, none⟩ = some (.int .i64 a0_2) ∧ w'.cell? ⟨gb586, 3, none⟩ = some (.int .i64 a0_3) ∧ w'.cell? ⟨gb586, 4, none⟩ = some (.int .i64 a0_4) ∧ w'.cell? ⟨gb586, 5, none⟩ = some (.int .u64 a0_5)) (ds := []) #[false, false, false, false, false, false, false, false] (by kernel_rfl) rfl rfl ⟨(blk_cell BK586.out 0).trans rfl, (blk_cell BK586.out 1).trans rfl, (blk_cell BK586.out 2).trans rfl, (blk_cell BK586.out 3).trans rfl, (blk_cell BK586.out 4).trans rfl, (blk_cell BK586.out 5).trans rfl⟩ (fun hHeld => ?_); refine with_tabW spigotlaw03_BucketMore.tab1 spigotlaw03_BucketMore.bits1 (fun HT_ HW_ => ?_)
 generalize w7.drew = w8 at BK586 BK587 HB hHeld ⊢
 refine pure_ (i := 0) (N := some 20) (v := ?_) (a' := ?_) #[true, false, false, false, false, false, false, false] rfl rfl (any_of HT_.out (by kernel_rfl)) (fun _ _ _ h => h) (Or.inl ⟨by rfl, ?_⟩) ?_ ?_
 rotate_left
 ·intro w'
  go_simp
  with_reducible rfl
 rotate_left
 ·simp only [Act.put, List.setIfInBounds_toArray, List.set_cons_zero, List.set_cons_succ, i64_w, i32_w]
  rfl
 refine pure_ (i := 2) (N := some 22) (v := ?_) (a' := ?_) #[true, false, true, false, false, false, false, false] rfl rfl (any_of HT_.out (by kernel_rfl)) (fun _ _ _ h => h) (Or.inl ⟨by rfl, ?_⟩) ?_ ?_
 rotate_left
 ·intro w'
  go_simp
  with_reducible rfl
 rotate_left
 ·simp only [Act.put, List.setIfInBounds_toArray, List.set_cons_zero, List.set_cons_succ, i64_w, i32_w]
  rfl
 refine take_ (i := 1) (N := some 21) (v := ?_) (a' := ?_) #[true, true, true, false, false, false, false, false] rfl rfl (take_ofW HT_.out HW_.out (by kernel_rfl)) (fun _ _ _ h => h) (Or.inl ⟨by rfl, ?_⟩) hHeld ?_ ?_
 rotate_left
 ·rintro w' ⟨s0, s1, s2, s3, s4, s5⟩
  go_simp
  with_reducible rfl
 rotate_left
 ·simp only [Act.put, List.setIfInBounds_toArray, List.set_cons_zero, List.set_cons_succ, i64_w, i32_w]
  rfl
 refine pure_ (i := 4) (N := some 24) (v := ?_) (a' := ?_) #[true, true, true, false, true, false, false, false] rfl rfl (any_of HT_.out (by kernel_rfl)) (fun _ _ _ h => h) (Or.inl ⟨by rfl, ?_⟩) ?_ ?_
 rotate_left
 ·intro w'
  go_simp
  with_reducible rfl
 rotate_left
 ·simp only [Act.put, List.setIfInBounds_toArray, List.set_cons_zero, List.set_cons_succ, i64_w, i32_w]
  rfl
 refine take_ (i := 3) (N := some 23) (v := ?_) (a' := ?_) #[true, true, true, true, true, false, false, false] rfl rfl (take_ofW HT_.out HW_.out (by kernel_rfl)) (fun _ _ _ h => h) (Or.inl ⟨by rfl, ?_⟩) hHeld ?_ ?_
 rotate_left
 ·rintro w' ⟨s0, s1, s2, s3, s4, s5⟩
  go_simp
  with_reducible rfl
 rotate_left
 ·simp only [Act.put, List.setIfInBounds_toArray, List.set_cons_zero, List.set_cons_succ, i64_w, i32_w]
  rfl
 refine one_ (i := 5) (N := none) #[true, true, true, true, true, true, false, false] rfl rfl (one_of HT_.out (by kernel_rfl)) (by decide) (fun K hK => ?_)
 have hs9 : w8.cell? ⟨gb587, 0, none⟩ = some (.int .i64 a1_0) := (blk_cell BK587.out 0).trans rfl
 have hfs9 := blk_frozen BK587.out 0
 have hns9_0 := NB586_587.out
 have hms9_0 := NB587_586.out
 have hs10 : w8.cell? ⟨gb587, 1, none⟩ = some (.int .i64 a1_1) := (blk_cell BK587.out 1).trans rfl
 have hfs10 := blk_frozen BK587.out 1
 have hns10_0 := NB586_587.out
 have hms10_0 := NB587_586.out
 have hs11 : w8.cell? ⟨gb587, 2, none⟩ = some (.int .i64 a1_2) := (blk_cell BK587.out 2).trans rfl
 have hfs11 := blk_frozen BK587.out 2
 have hns11_0 := NB586_587.out
 have hms11_0 := NB587_586.out
 refine skip_ (w1 := ?_) (by rfl) rfl ?_ ?_
 rotate_left
 ·go_simp
  rfl
 refine hK.out _ _ ⟨((cell_far (p := ⟨gb587, _, none⟩) NB586_587.out _).trans (((cell_far (p := ⟨gb587, _, none⟩) NB586_587.out _).trans (((cell_far (p := ⟨gb587, _, none⟩) NB586_587.out _).trans (hHeld.1)))))), ((cell_far (p := ⟨gb587, _, none⟩) NB586_587.out _).trans (((cell_far (p := ⟨gb587, _, none⟩) NB586_587.out _).trans (((cell_far (p := ⟨gb587, _, none⟩) NB586_587.out _).trans (hHeld.2.1)))))), ((cell_far (p := ⟨gb587, _, none⟩) NB586_587.out _).trans (((cell_far (p := ⟨gb587, _, none⟩) NB586_587.out _).trans (((cell_far (p := ⟨gb587, _, none⟩) NB586_587.out _).trans (hHeld.2.2.1)))))), ((cell_far (p := ⟨gb587, _, none⟩) NB586_587.out _).trans (((cell_far (p := ⟨gb587, _, none⟩) NB586_587.out _).trans (((cell_far (p := ⟨gb587, _, none⟩) NB586_587.out _).trans (hHeld.2.2.2.1)))))), ((cell_far (p := ⟨gb587, _, none⟩) NB586_587.out _).trans (((cell_far (p := ⟨gb587, _, none⟩) NB586_587.out _).trans (((cell_far (p := ⟨gb587, _, none⟩) NB586_587.out _).trans (hHeld.2.2.2.2.1)))))), ((cell_far (p := ⟨gb587, _, none⟩) NB586_587.out _).trans (((cell_far (p := ⟨gb587, _, none⟩) NB586_587.out _).trans (((cell_far (p := ⟨gb587, _, none⟩) NB586_587.out _).trans (hHeld.2.2.2.2.2))))))⟩ (fun hHeld => ?_)
 clear hK K
 refine pure_ (i := 6) (N := some 25) (v := ?_) (a' := ?_) #[true, true, true, true, true, true, true, false] rfl rfl (any_of HT_.out (by kernel_rfl)) (fun _ _ _ h => h) (Or.inl ⟨by rfl, ?_⟩) ?_ ?_
 rotate_left
 ·intro w'
  go_simp
  with_reducible rfl
 rotate_left
 ·simp only [Act.put, List.setIfInBounds_toArray, List.set_cons_zero, List.set_cons_succ, i64_w, i32_w]
  rfl
 refine one_ (i := 7) (N := none) #[true, true, true, true, true, true, true, true] rfl rfl (one_of HT_.out (by kernel_rfl)) (by decide) (fun K hK => ?_)
 have hs12 : w8.cell? ⟨gb587, 5, none⟩ = some (.int .u64 a1_5) := (blk_cell BK587.out 5).trans rfl
 have hfs12 := blk_frozen BK587.out 5
 have hns12_0 := NB586_587.out
 have hms12_0 := NB587_586.out
 refine skip_ (w1 := ?_) (by rfl) rfl ?_ ?_
 rotate_left
 ·go_simp
  rfl
 refine hK.out _ _ ⟨((cell_far (p := ⟨gb587, _, none⟩) NB586_587.out _).trans (hHeld.1)), ((cell_far (p := ⟨gb587, _, none⟩) NB586_587.out _).trans (hHeld.2.1)), ((cell_far (p := ⟨gb587, _, none⟩) NB586_587.out _).trans (hHeld.2.2.1)), ((cell_far (p := ⟨gb587, _, none⟩) NB586_587.out _).trans (hHeld.2.2.2.1)), ((cell_far (p := ⟨gb587, _, none⟩) NB586_587.out _).trans (hHeld.2.2.2.2.1)), ((cell_far (p := ⟨gb587, _, none⟩) NB586_587.out _).trans (hHeld.2.2.2.2.2))⟩ (fun hHeld => ?_)
 clear hK K
 refine done_ (done_of HT_.out (by kernel_rfl)) ?_
 go_upto_region 2 with (fail)
 go_cut [51] (fun v51 wc => ∃ (kq : Nat) (x51_4 : Bool), v51 = .bool x51_4 ∧ Aside0 (spigotlaw03_BucketMore.j0 kq l2 l3 x51_4 a0_0 a0_1 a0_2 a0_3 a0_4 a0_5 a0_0 a0_1 a0_2 a1_3 a1_4 a0_5 = some r) ∧ Aside0 (kq ≤ k) ∧ Aside0 (wc.heap[gb586]? = some (.cells #[.int .i64 a0_0, .int .i64 a0_1, .int .i64 a0_2, .int .i64 a0_3, .int .i64 a0_4, .int .u64 a0_5] 26 (0, 0))) ∧ Aside0 (wc.heap[gb587]? = some (.cells #[.int .i64 a0_0, .int .i64 a0_1, .int .i64 a0_2, .int .i64 a1_3, .int .i64 a1_4, .int .u64 a0_5] 26 (0, 0))) ∧ Aside0 (Below w.heap.size w wc))
 case first =>
  have H := HC5.out
  clear HC5
  replace H := Option.bind_eq_some_iff.mp H
  obtain ⟨t588, A130, H⟩ := H
  try dsimp only at H
  have A13 := Aside0.mk A130
  clear A130
  by_cases c14 : t588 = 0
  ·rw [if_pos c14] at H
   have c14b0 : (t588 == 0) = true := beq_iff_eq.mpr c14
   have c14b1 : (t588 != 0) = false := bne_eq_false_iff_eq.mpr c14
   clear c14
   (first | rw [c14b0] | (simp only [i64_w, i32_w]; rw [c14b0]) | skip)
   replace H := Option.bind_eq_some_iff.mp H
   obtain ⟨t589, A150, H⟩ := H
   try dsimp only at H
   have A15 := Aside0.mk A150
   clear A150
   by_cases c16 : t589 = 0
   ·rw [if_pos c16] at H
    have c16b0 : (t589 == 0) = true := beq_iff_eq.mpr c16
    have c16b1 : (t589 != 0) = false := bne_eq_false_iff_eq.mpr c16
    clear c16
    replace H := Option.bind_eq_some_iff.mp H
    obtain ⟨t590, A170, H⟩ := H
    try dsimp only at H
    have A17 := Aside0.mk A170
    clear A170
    by_cases c18 : t590 = true
    ·subst c18
     have H1 : (if (l2.length : Int) > 30 then (spigotlaw03_BucketMore.j0 k l2 l3 true a0_0 a0_1 a0_2 a0_3 a0_4 a0_5 a0_0 a0_1 a0_2 a1_3 a1_4 a0_5) else (spigotlaw03_BucketMore.j0 k l2 l3 (decide ((l3.length : Int) < (l2.length : Int))) a0_0 a0_1 a0_2 a0_3 a0_4 a0_5 a0_0 a0_1 a0_2 a1_3 a1_4 a0_5)) = some r := by rw [if_pos rfl] at H; exact H
     clear H
     have H := H1
     clear H1
     by_cases c19 : (l2.length : Int) > 30
     ·rw [if_pos c19] at H
      have c19b0 : decide (30 < (l2.length : Int)) = true := decide_eq_true c19
      have c19b1 : decide (30 < l2.length) = true := decide_eq_true (by omega)
      clear c19
      have H' := Aside0.mk H
      clear H
      have hnb20 := NB586_587.out
      have hnc20 := NB587_586.out
      have hcz21_0 : w8.cell? ⟨gb586, 0, none⟩ = some (.int .i64 a0_0) := (blk_cell BK586.out 0).trans rfl
      have hcz21_1 : w8.cell? ⟨gb586, 1, none⟩ = some (.int .i64 a0_1) := (blk_cell BK586.out 1).trans rfl
      have hcz21_2 : w8.cell? ⟨gb586, 2, none⟩ = some (.int .i64 a0_2) := (blk_cell BK586.out 2).trans rfl
      have hcz21_3 : w8.cell? ⟨gb586, 3, none⟩ = some (.int .i64 a0_3) := (blk_cell BK586.out 3).trans rfl
      have hcz21_4 : w8.cell? ⟨gb586, 4, none⟩ = some (.int .i64 a0_4) := (blk_cell BK586.out 4).trans rfl
      have hcz21_5 : w8.cell? ⟨gb586, 5, none⟩ = some (.int .u64 a0_5) := (blk_cell BK586.out 5).trans rfl
      have hfz21_0 := blk_frozen BK586.out 0
      have hfz21_1 := blk_frozen BK586.out 1
      have hfz21_2 := blk_frozen BK586.out 2
      have hfz21_3 := blk_frozen BK586.out 3
      have hfz21_4 := blk_frozen BK586.out 4
      have hfz21_5 := blk_frozen BK586.out 5
      go_wp2_with (first | ((with_reducible refine gate_callee (f := 17) rfl ?_); refine goesL_ (some 27) rfl rfl Try.func17 (by kernel_rfl) rfl #[.agg #[.int .i64 a0_0, .int .i64 a0_1, .int .i64 a0_2, .int .i64 a0_3, .int .i64 a0_4, .int .u64 a0_5]] rfl (by (try simp only [List.map_toArray, List.map_cons, List.map_nil]); first | done | rfl | (simp only [List.length_drop, List.length_take]; rfl)) ?_; (with_reducible refine (spigotref03_Check.calls a0_0 a0_1 a0_2 a0_3 a0_4 a0_5 t588 _ A13.out).mono ?_); rintro e w22 ⟨rfl, hb⟩; refine ⟨_, rfl, ?_⟩; replace BK586 := bf_ BK586 hb; replace BK587 := Aside0.mk (blk_below (g := gb587) (o := .cells #[.int .i64 a0_0, .int .i64 a0_1, .int .i64 a0_2, .int .i64 a1_3, .int .i64 a1_4, .int .u64 a0_5] 26 (0, 0)) (blk_put (cs := #[.int .i64 a0_0, .int .i64 a0_1, .int .i64 a0_2, .int .i64 a1_3, .int .i64 a1_4, .int .u64 a1_5]) (blk_put (cs := #[.int .i64 a0_0, .int .i64 a0_1, .int .i64 a1_2, .int .i64 a1_3, .int .i64 a1_4, .int .u64 a1_5]) (blk_put (cs := #[.int .i64 a0_0, .int .i64 a1_1, .int .i64 a1_2, .int .i64 a1_3, .int .i64 a1_4, .int .u64 a1_5]) (blk_put (cs := #[.int .i64 a1_0, .int .i64 a1_1, .int .i64 a1_2, .int .i64 a1_3, .int .i64 a1_4, .int .u64 a1_5]) (bq_ BK587) 0 _ rfl) 1 _ rfl) 2 _ rfl) 5 _ rfl) hb); replace HB := bs_ w hb; (try clear hb); (try clear hb2); (try clear hk); (try clear hi); have hcz23_0 : w22.cell? ⟨gb587, 0, none⟩ = some (.int .i64 a0_0) := (blk_cell BK587.out 0).trans rfl; have hcz23_1 : w22.cell? ⟨gb587, 1, none⟩ = some (.int .i64 a0_1) := (blk_cell BK587.out 1).trans rfl; have hcz23_2 : w22.cell? ⟨gb587, 2, none⟩ = some (.int .i64 a0_2) := (blk_cell BK587.out 2).trans rfl; have hcz23_3 : w22.cell? ⟨gb587, 3, none⟩ = some (.int .i64 a1_3) := (blk_cell BK587.out 3).trans rfl; have hcz23_4 : w22.cell? ⟨gb587, 4, none⟩ = some (.int .i64 a1_4) := (blk_cell BK587.out 4).trans rfl; have hcz23_5 : w22.cell? ⟨gb587, 5, none⟩ = some (.int .u64 a0_5) := (blk_cell BK587.out 5).trans rfl; have hfz23_0 := blk_frozen BK587.out 0; have hfz23_1 := blk_frozen BK587.out 1; have hfz23_2 := blk_frozen BK587.out 2; have hfz23_3 := blk_frozen BK587.out 3; have hfz23_4 := blk_frozen BK587.out 4; have hfz23_5 := blk_frozen BK587.out 5) | (go_at_call 17; (with_reducible refine (spigotref03_Check.calls a0_0 a0_1 a0_2 a1_3 a1_4 a0_5 t589 _ A15.out).mono ?_); rintro e w24 ⟨rfl, hb⟩; replace BK586 := bb_ BK586 hb; replace BK587 := bb_ BK587 hb; replace HB := bs_ w hb; (try clear hb); (try clear hb2); (try clear hk); (try clear hi); have hcz25_0 : w24.cell? ⟨gb587, 0, none⟩ = some (.int .i64 a0_0) := (blk_cell BK587.out 0).trans rfl; have hcz25_1 : w24.cell? ⟨gb587, 1, none⟩ = some (.int .i64 a0_1) := (blk_cell BK587.out 1).trans rfl; have hcz25_2 : w24.cell? ⟨gb587, 2, none⟩ = some (.int .i64 a0_2) := (blk_cell BK587.out 2).trans rfl; have hcz25_3 : w24.cell? ⟨gb587, 3, none⟩ = some (.int .i64 a1_3) := (blk_cell BK587.out 3).trans rfl; have hcz25_4 : w24.cell? ⟨gb587, 4, none⟩ = some (.int .i64 a1_4) := (blk_cell BK587.out 4).trans rfl; have hcz25_5 : w24.cell? ⟨gb587, 5, none⟩ = some (.int .u64 a0_5) := (blk_cell BK587.out 5).trans rfl; have hfz25_0 := blk_frozen BK587.out 0; have hfz25_1 := blk_frozen BK587.out 1; have hfz25_2 := blk_frozen BK587.out 2; have hfz25_3 := blk_frozen BK587.out 3; have hfz25_4 := blk_frozen BK587.out 4; have hfz25_5 := blk_frozen BK587.out 5; have hcz26_0 : w24.cell? ⟨gb586, 0, none⟩ = some (.int .i64 a0_0) := (blk_cell BK586.out 0).trans rfl; have hcz26_1 : w24.cell? ⟨gb586, 1, none⟩ = some (.int .i64 a0_1) := (blk_cell BK586.out 1).trans rfl; have hcz26_2 : w24.cell? ⟨gb586, 2, none⟩ = some (.int .i64 a0_2) := (blk_cell BK586.out 2).trans rfl; have hcz26_3 : w24.cell? ⟨gb586, 3, none⟩ = some (.int .i64 a0_3) := (blk_cell BK586.out 3).trans rfl; have hcz26_4 : w24.cell? ⟨gb586, 4, none⟩ = some (.int .i64 a0_4) := (blk_cell BK586.out 4).trans rfl; have hcz26_5 : w24.cell? ⟨gb586, 5, none⟩ = some (.int .u64 a0_5) := (blk_cell BK586.out 5).trans rfl; have hfz26_0 := blk_frozen BK586.out 0; have hfz26_1 := blk_frozen BK586.out 1; have hfz26_2 := blk_frozen BK586.out 2; have hfz26_3 := blk_frozen BK586.out 3; have hfz26_4 := blk_frozen BK586.out 4; have hfz26_5 := blk_frozen BK586.out 5) | (go_at_call 28; (with_reducible refine (spigotlaw03_more.calls a0_0 a0_1 a0_2 a1_3 a1_4 a0_5 a0_0 a0_1 a0_2 a0_3 a0_4 a0_5 true _ A17.out).mono ?_); rintro e w27 ⟨rfl, hb⟩; replace BK586 := bb_ BK586 hb; replace BK587 := bb_ BK587 hb; replace HB := bs_ w hb; (try clear hb); (try clear hb2); (try clear hk); (try clear hi)))
      go_meet
      case rel => exact ⟨_, (true), (by first | rfl | (simp; done) | (simp [*]; done)), H', ⟨by first | omega | exact Nat.le_refl _⟩, ⟨bq_ BK586⟩, ⟨bq_ BK587⟩, ⟨by repeat (first | (with_reducible first | exact HB.out | apply below_alloc | apply pw_below_drewN | apply below_drew1 | refine below_set ?_ GE586.out | refine below_set ?_ GE587.out) | exact HB.out)⟩⟩
     ·rw [if_neg c19] at H
      have c19b0 : decide (30 < (l2.length : Int)) = false := decide_eq_false c19
      have c19b1 : decide (30 < l2.length) = false := decide_eq_false (by omega)
      clear c19
      have H' := Aside0.mk H
      clear H
      have hnb28 := NB586_587.out
      have hnc28 := NB587_586.out
      have hcz29_0 : w8.cell? ⟨gb586, 0, none⟩ = some (.int .i64 a0_0) := (blk_cell BK586.out 0).trans rfl
      have hcz29_1 : w8.cell? ⟨gb586, 1, none⟩ = some (.int .i64 a0_1) := (blk_cell BK586.out 1).trans rfl
      have hcz29_2 : w8.cell? ⟨gb586, 2, none⟩ = some (.int .i64 a0_2) := (blk_cell BK586.out 2).trans rfl
      have hcz29_3 : w8.cell? ⟨gb586, 3, none⟩ = some (.int .i64 a0_3) := (blk_cell BK586.out 3).trans rfl
      have hcz29_4 : w8.cell? ⟨gb586, 4, none⟩ = some (.int .i64 a0_4) := (blk_cell BK586.out 4).trans rfl
      have hcz29_5 : w8.cell? ⟨gb586, 5, none⟩ = some (.int .u64 a0_5) := (blk_cell BK586.out 5).trans rfl
      have hfz29_0 := blk_frozen BK586.out 0
      have hfz29_1 := blk_frozen BK586.out 1
      have hfz29_2 := blk_frozen BK586.out 2
      have hfz29_3 := blk_frozen BK586.out 3
      have hfz29_4 := blk_frozen BK586.out 4
      have hfz29_5 := blk_frozen BK586.out 5
      go_wp2_with (first | ((with_reducible refine gate_callee (f := 17) rfl ?_); refine goesL_ (some 27) rfl rfl Try.func17 (by kernel_rfl) rfl #[.agg #[.int .i64 a0_0, .int .i64 a0_1, .int .i64 a0_2, .int .i64 a0_3, .int .i64 a0_4, .int .u64 a0_5]] rfl (by (try simp only [List.map_toArray, List.map_cons, List.map_nil]); first | done | rfl | (simp only [List.length_drop, List.length_take]; rfl)) ?_; (with_reducible refine (spigotref03_Check.calls a0_0 a0_1 a0_2 a0_3 a0_4 a0_5 t588 _ A13.out).mono ?_); rintro e w30 ⟨rfl, hb⟩; refine ⟨_, rfl, ?_⟩; replace BK586 := bf_ BK586 hb; replace BK587 := Aside0.mk (blk_below (g := gb587) (o := .cells #[.int .i64 a0_0, .int .i64 a0_1, .int .i64 a0_2, .int .i64 a1_3, .int .i64 a1_4, .int .u64 a0_5] 26 (0, 0)) (blk_put (cs := #[.int .i64 a0_0, .int .i64 a0_1, .int .i64 a0_2, .int .i64 a1_3, .int .i64 a1_4, .int .u64 a1_5]) (blk_put (cs := #[.int .i64 a0_0, .int .i64 a0_1, .int .i64 a1_2, .int .i64 a1_3, .int .i64 a1_4, .int .u64 a1_5]) (blk_put (cs := #[.int .i64 a0_0, .int .i64 a1_1, .int .i64 a1_2, .int .i64 a1_3, .int .i64 a1_4, .int .u64 a1_5]) (blk_put (cs := #[.int .i64 a1_0, .int .i64 a1_1, .int .i64 a1_2, .int .i64 a1_3, .int .i64 a1_4, .int .u64 a1_5]) (bq_ BK587) 0 _ rfl) 1 _ rfl) 2 _ rfl) 5 _ rfl) hb); replace HB := bs_ w hb; (try clear hb); (try clear hb2); (try clear hk); (try clear hi); have hcz31_0 : w30.cell? ⟨gb587, 0, none⟩ = some (.int .i64 a0_0) := (blk_cell BK587.out 0).trans rfl; have hcz31_1 : w30.cell? ⟨gb587, 1, none⟩ = some (.int .i64 a0_1) := (blk_cell BK587.out 1).trans rfl; have hcz31_2 : w30.cell? ⟨gb587, 2, none⟩ = some (.int .i64 a0_2) := (blk_cell BK587.out 2).trans rfl; have hcz31_3 : w30.cell? ⟨gb587, 3, none⟩ = some (.int .i64 a1_3) := (blk_cell BK587.out 3).trans rfl; have hcz31_4 : w30.cell? ⟨gb587, 4, none⟩ = some (.int .i64 a1_4) := (blk_cell BK587.out 4).trans rfl; have hcz31_5 : w30.cell? ⟨gb587, 5, none⟩ = some (.int .u64 a0_5) := (blk_cell BK587.out 5).trans rfl; have hfz31_0 := blk_frozen BK587.out 0; have hfz31_1 := blk_frozen BK587.out 1; have hfz31_2 := blk_frozen BK587.out 2; have hfz31_3 := blk_frozen BK587.out 3; have hfz31_4 := blk_frozen BK587.out 4; have hfz31_5 := blk_frozen BK587.out 5) | (go_at_call 17; (with_reducible refine (spigotref03_Check.calls a0_0 a0_1 a0_2 a1_3 a1_4 a0_5 t589 _ A15.out).mono ?_); rintro e w32 ⟨rfl, hb⟩; replace BK586 := bb_ BK586 hb; replace BK587 := bb_ BK587 hb; replace HB := bs_ w hb; (try clear hb); (try clear hb2); (try clear hk); (try clear hi); have hcz33_0 : w32.cell? ⟨gb587, 0, none⟩ = some (.int .i64 a0_0) := (blk_cell BK587.out 0).trans rfl; have hcz33_1 : w32.cell? ⟨gb587, 1, none⟩ = some (.int .i64 a0_1) := (blk_cell BK587.out 1).trans rfl; have hcz33_2 : w32.cell? ⟨gb587, 2, none⟩ = some (.int .i64 a0_2) := (blk_cell BK587.out 2).trans rfl; have hcz33_3 : w32.cell? ⟨gb587, 3, none⟩ = some (.int .i64 a1_3) := (blk_cell BK587.out 3).trans rfl; have hcz33_4 : w32.cell? ⟨gb587, 4, none⟩ = some (.int .i64 a1_4) := (blk_cell BK587.out 4).trans rfl; have hcz33_5 : w32.cell? ⟨gb587, 5, none⟩ = some (.int .u64 a0_5) := (blk_cell BK587.out 5).trans rfl; have hfz33_0 := blk_frozen BK587.out 0; have hfz33_1 := blk_frozen BK587.out 1; have hfz33_2 := blk_frozen BK587.out 2; have hfz33_3 := blk_frozen BK587.out 3; have hfz33_4 := blk_frozen BK587.out 4; have hfz33_5 := blk_frozen BK587.out 5; have hcz34_0 : w32.cell? ⟨gb586, 0, none⟩ = some (.int .i64 a0_0) := (blk_cell BK586.out 0).trans rfl; have hcz34_1 : w32.cell? ⟨gb586, 1, none⟩ = some (.int .i64 a0_1) := (blk_cell BK586.out 1).trans rfl; have hcz34_2 : w32.cell? ⟨gb586, 2, none⟩ = some (.int .i64 a0_2) := (blk_cell BK586.out 2).trans rfl; have hcz34_3 : w32.cell? ⟨gb586, 3, none⟩ = some (.int .i64 a0_3) := (blk_cell BK586.out 3).trans rfl; have hcz34_4 : w32.cell? ⟨gb586, 4, none⟩ = some (.int .i64 a0_4) := (blk_cell BK586.out 4).trans rfl; have hcz34_5 : w32.cell? ⟨gb586, 5, none⟩ = some (.int .u64 a0_5) := (blk_cell BK586.out 5).trans rfl; have hfz34_0 := blk_frozen BK586.out 0; have hfz34_1 := blk_frozen BK586.out 1; have hfz34_2 := blk_frozen BK586.out 2; have hfz34_3 := blk_frozen BK586.out 3; have hfz34_4 := blk_frozen BK586.out 4; have hfz34_5 := blk_frozen BK586.out 5) | (go_at_call 28; (with_reducible refine (spigotlaw03_more.calls a0_0 a0_1 a0_2 a1_3 a1_4 a0_5 a0_0 a0_1 a0_2 a0_3 a0_4 a0_5 true _ A17.out).mono ?_); rintro e w35 ⟨rfl, hb⟩; replace BK586 := bb_ BK586 hb; replace BK587 := bb_ BK587 hb; replace HB := bs_ w hb; (try clear hb); (try clear hb2); (try clear hk); (try clear hi)))
      go_meet
      case rel => exact ⟨_, (decide ((l3.length : Int) < (l2.length : Int))), (by first | rfl | (simp; done) | (simp [*]; done)), H', ⟨by first | omega | exact Nat.le_refl _⟩, ⟨bq_ BK586⟩, ⟨bq_ BK587⟩, ⟨by repeat (first | (with_reducible first | exact HB.out | apply below_alloc | apply pw_below_drewN | apply below_drew1 | refine below_set ?_ GE586.out | refine below_set ?_ GE587.out) | exact HB.out)⟩⟩
    ·replace c18 := Bool.eq_false_iff.mpr c18
     subst c18
     have H1 : (spigotlaw03_BucketMore.j0 k l2 l3 true a0_0 a0_1 a0_2 a0_3 a0_4 a0_5 a0_0 a0_1 a0_2 a1_3 a1_4 a0_5) = some r := by rw [if_neg (show ¬ (false = true) by decide)] at H; exact H
     clear H
     have H := H1
     clear H1
     have H' := Aside0.mk H
     clear H
     have hnb36 := NB586_587.out
     have hnc36 := NB587_586.out
     have hcz37_0 : w8.cell? ⟨gb586, 0, none⟩ = some (.int .i64 a0_0) := (blk_cell BK586.out 0).trans rfl
     have hcz37_1 : w8.cell? ⟨gb586, 1, none⟩ = some (.int .i64 a0_1) := (blk_cell BK586.out 1).trans rfl
     have hcz37_2 : w8.cell? ⟨gb586, 2, none⟩ = some (.int .i64 a0_2) := (blk_cell BK586.out 2).trans rfl
     have hcz37_3 : w8.cell? ⟨gb586, 3, none⟩ = some (.int .i64 a0_3) := (blk_cell BK586.out 3).trans rfl
     have hcz37_4 : w8.cell? ⟨gb586, 4, none⟩ = some (.int .i64 a0_4) := (blk_cell BK586.out 4).trans rfl
     have hcz37_5 : w8.cell? ⟨gb586, 5, none⟩ = some (.int .u64 a0_5) := (blk_cell BK586.out 5).trans rfl
     have hfz37_0 := blk_frozen BK586.out 0
     have hfz37_1 := blk_frozen BK586.out 1
     have hfz37_2 := blk_frozen BK586.out 2
     have hfz37_3 := blk_frozen BK586.out 3
     have hfz37_4 := blk_frozen BK586.out 4
     have hfz37_5 := blk_frozen BK586.out 5
     go_wp2_with (first | ((with_reducible refine gate_callee (f := 17) rfl ?_); refine goesL_ (some 27) rfl rfl Try.func17 (by kernel_rfl) rfl #[.agg #[.int .i64 a0_0, .int .i64 a0_1, .int .i64 a0_2, .int .i64 a0_3, .int .i64 a0_4, .int .u64 a0_5]] rfl (by (try simp only [List.map_toArray, List.map_cons, List.map_nil]); first | done | rfl | (simp only [List.length_drop, List.length_take]; rfl)) ?_; (with_reducible refine (spigotref03_Check.calls a0_0 a0_1 a0_2 a0_3 a0_4 a0_5 t588 _ A13.out).mono ?_); rintro e w38 ⟨rfl, hb⟩; refine ⟨_, rfl, ?_⟩; replace BK586 := bf_ BK586 hb; replace BK587 := Aside0.mk (blk_below (g := gb587) (o := .cells #[.int .i64 a0_0, .int .i64 a0_1, .int .i64 a0_2, .int .i64 a1_3, .int .i64 a1_4, .int .u64 a0_5] 26 (0, 0)) (blk_put (cs := #[.int .i64 a0_0, .int .i64 a0_1, .int .i64 a0_2, .int .i64 a1_3, .int .i64 a1_4, .int .u64 a1_5]) (blk_put (cs := #[.int .i64 a0_0, .int .i64 a0_1, .int .i64 a1_2, .int .i64 a1_3, .int .i64 a1_4, .int .u64 a1_5]) (blk_put (cs := #[.int .i64 a0_0, .int .i64 a1_1, .int .i64 a1_2, .int .i64 a1_3, .int .i64 a1_4, .int .u64 a1_5]) (blk_put (cs := #[.int .i64 a1_0, .int .i64 a1_1, .int .i64 a1_2, .int .i64 a1_3, .int .i64 a1_4, .int .u64 a1_5]) (bq_ BK587) 0 _ rfl) 1 _ rfl) 2 _ rfl) 5 _ rfl) hb); replace HB := bs_ w hb; (try clear hb); (try clear hb2); (try clear hk); (try clear hi); have hcz39_0 : w38.cell? ⟨gb587, 0, none⟩ = some (.int .i64 a0_0) := (blk_cell BK587.out 0).trans rfl; have hcz39_1 : w38.cell? ⟨gb587, 1, none⟩ = some (.int .i64 a0_1) := (blk_cell BK587.out 1).trans rfl; have hcz39_2 : w38.cell? ⟨gb587, 2, none⟩ = some (.int .i64 a0_2) := (blk_cell BK587.out 2).trans rfl; have hcz39_3 : w38.cell? ⟨gb587, 3, none⟩ = some (.int .i64 a1_3) := (blk_cell BK587.out 3).trans rfl; have hcz39_4 : w38.cell? ⟨gb587, 4, none⟩ = some (.int .i64 a1_4) := (blk_cell BK587.out 4).trans rfl; have hcz39_5 : w38.cell? ⟨gb587, 5, none⟩ = some (.int .u64 a0_5) := (blk_cell BK587.out 5).trans rfl; have hfz39_0 := blk_frozen BK587.out 0; have hfz39_1 := blk_frozen BK587.out 1; have hfz39_2 := blk_frozen BK587.out 2; have hfz39_3 := blk_frozen BK587.out 3; have hfz39_4 := blk_frozen BK587.out 4; have hfz39_5 := blk_frozen BK587.out 5) | (go_at_call 17; (with_reducible refine (spigotref03_Check.calls a0_0 a0_1 a0_2 a1_3 a1_4 a0_5 t589 _ A15.out).mono ?_); rintro e w40 ⟨rfl, hb⟩; replace BK586 := bb_ BK586 hb; replace BK587 := bb_ BK587 hb; replace HB := bs_ w hb; (try clear hb); (try clear hb2); (try clear hk); (try clear hi); have hcz41_0 : w40.cell? ⟨gb587, 0, none⟩ = some (.int .i64 a0_0) := (blk_cell BK587.out 0).trans rfl; have hcz41_1 : w40.cell? ⟨gb587, 1, none⟩ = some (.int .i64 a0_1) := (blk_cell BK587.out 1).trans rfl; have hcz41_2 : w40.cell? ⟨gb587, 2, none⟩ = some (.int .i64 a0_2) := (blk_cell BK587.out 2).trans rfl; have hcz41_3 : w40.cell? ⟨gb587, 3, none⟩ = some (.int .i64 a1_3) := (blk_cell BK587.out 3).trans rfl; have hcz41_4 : w40.cell? ⟨gb587, 4, none⟩ = some (.int .i64 a1_4) := (blk_cell BK587.out 4).trans rfl; have hcz41_5 : w40.cell? ⟨gb587, 5, none⟩ = some (.int .u64 a0_5) := (blk_cell BK587.out 5).trans rfl; have hfz41_0 := blk_frozen BK587.out 0; have hfz41_1 := blk_frozen BK587.out 1; have hfz41_2 := blk_frozen BK587.out 2; have hfz41_3 := blk_frozen BK587.out 3; have hfz41_4 := blk_frozen BK587.out 4; have hfz41_5 := blk_frozen BK587.out 5; have hcz42_0 : w40.cell? ⟨gb586, 0, none⟩ = some (.int .i64 a0_0) := (blk_cell BK586.out 0).trans rfl; have hcz42_1 : w40.cell? ⟨gb586, 1, none⟩ = some (.int .i64 a0_1) := (blk_cell BK586.out 1).trans rfl; have hcz42_2 : w40.cell? ⟨gb586, 2, none⟩ = some (.int .i64 a0_2) := (blk_cell BK586.out 2).trans rfl; have hcz42_3 : w40.cell? ⟨gb586, 3, none⟩ = some (.int .i64 a0_3) := (blk_cell BK586.out 3).trans rfl; have hcz42_4 : w40.cell? ⟨gb586, 4, none⟩ = some (.int .i64 a0_4) := (blk_cell BK586.out 4).trans rfl; have hcz42_5 : w40.cell? ⟨gb586, 5, none⟩ = some (.int .u64 a0_5) := (blk_cell BK586.out 5).trans rfl; have hfz42_0 := blk_frozen BK586.out 0; have hfz42_1 := blk_frozen BK586.out 1; have hfz42_2 := blk_frozen BK586.out 2; have hfz42_3 := blk_frozen BK586.out 3; have hfz42_4 := blk_frozen BK586.out 4; have hfz42_5 := blk_frozen BK586.out 5) | (go_at_call 28; (with_reducible refine (spigotlaw03_more.calls a0_0 a0_1 a0_2 a1_3 a1_4 a0_5 a0_0 a0_1 a0_2 a0_3 a0_4 a0_5 false _ A17.out).mono ?_); rintro e w43 ⟨rfl, hb⟩; replace BK586 := bb_ BK586 hb; replace BK587 := bb_ BK587 hb; replace HB := bs_ w hb; (try clear hb); (try clear hb2); (try clear hk); (try clear hi)))
     go_meet
     case rel => exact ⟨_, (true), (by first | rfl | (simp; done) | (simp [*]; done)), H', ⟨by first | omega | exact Nat.le_refl _⟩, ⟨bq_ BK586⟩, ⟨bq_ BK587⟩, ⟨by repeat (first | (with_reducible first | exact HB.out | apply below_alloc | apply pw_below_drewN | apply below_drew1 | refine below_set ?_ GE586.out | refine below_set ?_ GE587.out) | exact HB.out)⟩⟩
   ·rw [if_neg c16] at H
    have c16b0 : (t589 == 0) = false := beq_eq_false_iff_ne.mpr c16
    have c16b1 : (t589 != 0) = true := bne_iff_ne.mpr c16
    have H' := Aside0.mk H
    clear H
    have hnb44 := NB586_587.out
    have hnc44 := NB587_586.out
    have hcz45_0 : w8.cell? ⟨gb586, 0, none⟩ = some (.int .i64 a0_0) := (blk_cell BK586.out 0).trans rfl
    have hcz45_1 : w8.cell? ⟨gb586, 1, none⟩ = some (.int .i64 a0_1) := (blk_cell BK586.out 1).trans rfl
    have hcz45_2 : w8.cell? ⟨gb586, 2, none⟩ = some (.int .i64 a0_2) := (blk_cell BK586.out 2).trans rfl
    have hcz45_3 : w8.cell? ⟨gb586, 3, none⟩ = some (.int .i64 a0_3) := (blk_cell BK586.out 3).trans rfl
    have hcz45_4 : w8.cell? ⟨gb586, 4, none⟩ = some (.int .i64 a0_4) := (blk_cell BK586.out 4).trans rfl
    have hcz45_5 : w8.cell? ⟨gb586, 5, none⟩ = some (.int .u64 a0_5) := (blk_cell BK586.out 5).trans rfl
    have hfz45_0 := blk_frozen BK586.out 0
    have hfz45_1 := blk_frozen BK586.out 1
    have hfz45_2 := blk_frozen BK586.out 2
    have hfz45_3 := blk_frozen BK586.out 3
    have hfz45_4 := blk_frozen BK586.out 4
    have hfz45_5 := blk_frozen BK586.out 5
    go_wp2_with (first | ((with_reducible refine gate_callee (f := 17) rfl ?_); refine goesL_ (some 27) rfl rfl Try.func17 (by kernel_rfl) rfl #[.agg #[.int .i64 a0_0, .int .i64 a0_1, .int .i64 a0_2, .int .i64 a0_3, .int .i64 a0_4, .int .u64 a0_5]] rfl (by (try simp only [List.map_toArray, List.map_cons, List.map_nil]); first | done | rfl | (simp only [List.length_drop, List.length_take]; rfl)) ?_; (with_reducible refine (spigotref03_Check.calls a0_0 a0_1 a0_2 a0_3 a0_4 a0_5 t588 _ A13.out).mono ?_); rintro e w46 ⟨rfl, hb⟩; refine ⟨_, rfl, ?_⟩; replace BK586 := bf_ BK586 hb; replace BK587 := Aside0.mk (blk_below (g := gb587) (o := .cells #[.int .i64 a0_0, .int .i64 a0_1, .int .i64 a0_2, .int .i64 a1_3, .int .i64 a1_4, .int .u64 a0_5] 26 (0, 0)) (blk_put (cs := #[.int .i64 a0_0, .int .i64 a0_1, .int .i64 a0_2, .int .i64 a1_3, .int .i64 a1_4, .int .u64 a1_5]) (blk_put (cs := #[.int .i64 a0_0, .int .i64 a0_1, .int .i64 a1_2, .int .i64 a1_3, .int .i64 a1_4, .int .u64 a1_5]) (blk_put (cs := #[.int .i64 a0_0, .int .i64 a1_1, .int .i64 a1_2, .int .i64 a1_3, .int .i64 a1_4, .int .u64 a1_5]) (blk_put (cs := #[.int .i64 a1_0, .int .i64 a1_1, .int .i64 a1_2, .int .i64 a1_3, .int .i64 a1_4, .int .u64 a1_5]) (bq_ BK587) 0 _ rfl) 1 _ rfl) 2 _ rfl) 5 _ rfl) hb); replace HB := bs_ w hb; (try clear hb); (try clear hb2); (try clear hk); (try clear hi); have hcz47_0 : w46.cell? ⟨gb587, 0, none⟩ = some (.int .i64 a0_0) := (blk_cell BK587.out 0).trans rfl; have hcz47_1 : w46.cell? ⟨gb587, 1, none⟩ = some (.int .i64 a0_1) := (blk_cell BK587.out 1).trans rfl; have hcz47_2 : w46.cell? ⟨gb587, 2, none⟩ = some (.int .i64 a0_2) := (blk_cell BK587.out 2).trans rfl; have hcz47_3 : w46.cell? ⟨gb587, 3, none⟩ = some (.int .i64 a1_3) := (blk_cell BK587.out 3).trans rfl; have hcz47_4 : w46.cell? ⟨gb587, 4, none⟩ = some (.int .i64 a1_4) := (blk_cell BK587.out 4).trans rfl; have hcz47_5 : w46.cell? ⟨gb587, 5, none⟩ = some (.int .u64 a0_5) := (blk_cell BK587.out 5).trans rfl; have hfz47_0 := blk_frozen BK587.out 0; have hfz47_1 := blk_frozen BK587.out 1; have hfz47_2 := blk_frozen BK587.out 2; have hfz47_3 := blk_frozen BK587.out 3; have hfz47_4 := blk_frozen BK587.out 4; have hfz47_5 := blk_frozen BK587.out 5) | (go_at_call 17; (with_reducible refine (spigotref03_Check.calls a0_0 a0_1 a0_2 a1_3 a1_4 a0_5 t589 _ A15.out).mono ?_); rintro e w48 ⟨rfl, hb⟩; replace BK586 := bb_ BK586 hb; replace BK587 := bb_ BK587 hb; replace HB := bs_ w hb; (try clear hb); (try clear hb2); (try clear hk); (try clear hi)))
    go_meet
    case rel => exact ⟨_, (true), (by first | rfl | (simp; done) | (simp [*]; done)), H', ⟨by first | omega | exact Nat.le_refl _⟩, ⟨bq_ BK586⟩, ⟨bq_ BK587⟩, ⟨by repeat (first | (with_reducible first | exact HB.out | apply below_alloc | apply pw_below_drewN | apply below_drew1 | refine below_set ?_ GE586.out | refine below_set ?_ GE587.out) | exact HB.out)⟩⟩
  ·rw [if_neg c14] at H
   have c14b0 : (t588 == 0) = false := beq_eq_false_iff_ne.mpr c14
   have c14b1 : (t588 != 0) = true := bne_iff_ne.mpr c14
   (first | rw [c14b0] | (simp only [i64_w, i32_w]; rw [c14b0]) | skip)
   have H' := Aside0.mk H
   clear H
   have hnb49 := NB586_587.out
   have hnc49 := NB587_586.out
   have hcz50_0 : w8.cell? ⟨gb586, 0, none⟩ = some (.int .i64 a0_0) := (blk_cell BK586.out 0).trans rfl
   have hcz50_1 : w8.cell? ⟨gb586, 1, none⟩ = some (.int .i64 a0_1) := (blk_cell BK586.out 1).trans rfl
   have hcz50_2 : w8.cell? ⟨gb586, 2, none⟩ = some (.int .i64 a0_2) := (blk_cell BK586.out 2).trans rfl
   have hcz50_3 : w8.cell? ⟨gb586, 3, none⟩ = some (.int .i64 a0_3) := (blk_cell BK586.out 3).trans rfl
   have hcz50_4 : w8.cell? ⟨gb586, 4, none⟩ = some (.int .i64 a0_4) := (blk_cell BK586.out 4).trans rfl
   have hcz50_5 : w8.cell? ⟨gb586, 5, none⟩ = some (.int .u64 a0_5) := (blk_cell BK586.out 5).trans rfl
   have hfz50_0 := blk_frozen BK586.out 0
   have hfz50_1 := blk_frozen BK586.out 1
   have hfz50_2 := blk_frozen BK586.out 2
   have hfz50_3 := blk_frozen BK586.out 3
   have hfz50_4 := blk_frozen BK586.out 4
   have hfz50_5 := blk_frozen BK586.out 5
   go_wp2_with (first | ((with_reducible refine gate_callee (f := 17) rfl ?_); refine goesL_ (some 27) rfl rfl Try.func17 (by kernel_rfl) rfl #[.agg #[.int .i64 a0_0, .int .i64 a0_1, .int .i64 a0_2, .int .i64 a0_3, .int .i64 a0_4, .int .u64 a0_5]] rfl (by (try simp only [List.map_toArray, List.map_cons, List.map_nil]); first | done | rfl | (simp only [List.length_drop, List.length_take]; rfl)) ?_; (with_reducible refine (spigotref03_Check.calls a0_0 a0_1 a0_2 a0_3 a0_4 a0_5 t588 _ A13.out).mono ?_); rintro e w51 ⟨rfl, hb⟩; refine ⟨_, rfl, ?_⟩; replace BK586 := bf_ BK586 hb; replace BK587 := Aside0.mk (blk_below (g := gb587) (o := .cells #[.int .i64 a0_0, .int .i64 a0_1, .int .i64 a0_2, .int .i64 a1_3, .int .i64 a1_4, .int .u64 a0_5] 26 (0, 0)) (blk_put (cs := #[.int .i64 a0_0, .int .i64 a0_1, .int .i64 a0_2, .int .i64 a1_3, .int .i64 a1_4, .int .u64 a1_5]) (blk_put (cs := #[.int .i64 a0_0, .int .i64 a0_1, .int .i64 a1_2, .int .i64 a1_3, .int .i64 a1_4, .int .u64 a1_5]) (blk_put (cs := #[.int .i64 a0_0, .int .i64 a1_1, .int .i64 a1_2, .int .i64 a1_3, .int .i64 a1_4, .int .u64 a1_5]) (blk_put (cs := #[.int .i64 a1_0, .int .i64 a1_1, .int .i64 a1_2, .int .i64 a1_3, .int .i64 a1_4, .int .u64 a1_5]) (bq_ BK587) 0 _ rfl) 1 _ rfl) 2 _ rfl) 5 _ rfl) hb); replace HB := bs_ w hb; (try clear hb); (try clear hb2); (try clear hk); (try clear hi)))
   go_meet
   case rel => exact ⟨_, (true), (by first | rfl | (simp; done) | (simp [*]; done)), H', ⟨by first | omega | exact Nat.le_refl _⟩, ⟨bq_ BK586⟩, ⟨bq_ BK587⟩, ⟨by repeat (first | (with_reducible first | exact HB.out | apply below_alloc | apply pw_below_drewN | apply below_drew1 | refine below_set ?_ GE586.out | refine below_set ?_ GE587.out) | exact HB.out)⟩⟩
 case rest =>
  clear HC5
  try clear c1
  try clear c2
  try clear p2
  try clear c3
  try clear c4
  try clear c7
  try clear c14
  try clear c14b0
  try clear c14b1
  try clear c16
  try clear c16b0
  try clear c16b1
  try clear c17
  try clear c18
  try clear c19
  try clear c19b0
  try clear c19b1
  try clear c20
  try clear c28
  try clear c36
  try clear c44
  try clear c49
  try clear hcz21_0
  try clear hcz21_1
  try clear hcz21_2
  try clear hcz21_3
  try clear hcz21_4
  try clear hcz21_5
  try clear hcz23_0
  try clear hcz23_1
  try clear hcz23_2
  try clear hcz23_3
  try clear hcz23_4
  try clear hcz23_5
  try clear hcz25_0
  try clear hcz25_1
  try clear hcz25_2
  try clear hcz25_3
  try clear hcz25_4
  try clear hcz25_5
  try clear hcz26_0
  try clear hcz26_1
  try clear hcz26_2
  try clear hcz26_3
  try clear hcz26_4
  try clear hcz26_5
  try clear hcz29_0
  try clear hcz29_1
  try clear hcz29_2
  try clear hcz29_3
  try clear hcz29_4
  try clear hcz29_5
  try clear hcz31_0
  try clear hcz31_1
  try clear hcz31_2
  try clear hcz31_3
  try clear hcz31_4
  try clear hcz31_5
  try clear hcz33_0
  try clear hcz33_1
  try clear hcz33_2
  try clear hcz33_3
  try clear hcz33_4
  try clear hcz33_5
  try clear hcz34_0
  try clear hcz34_1
  try clear hcz34_2
  try clear hcz34_3
  try clear hcz34_4
  try clear hcz34_5
  try clear hcz37_0
  try clear hcz37_1
  try clear hcz37_2
  try clear hcz37_3
  try clear hcz37_4
  try clear hcz37_5
  try clear hcz39_0
  try clear hcz39_1
  try clear hcz39_2
  try clear hcz39_3
  try clear hcz39_4
  try clear hcz39_5
  try clear hcz41_0
  try clear hcz41_1
  try clear hcz41_2
  try clear hcz41_3
  try clear hcz41_4
  try clear hcz41_5
  try clear hcz42_0
  try clear hcz42_1
  try clear hcz42_2
  try clear hcz42_3
  try clear hcz42_4
  try clear hcz42_5
  try clear hcz45_0
  try clear hcz45_1
  try clear hcz45_2
  try clear hcz45_3
  try clear hcz45_4
  try clear hcz45_5
  try clear hcz47_0
  try clear hcz47_1
  try clear hcz47_2
  try clear hcz47_3
  try clear hcz47_4
  try clear hcz47_5
  try clear hcz50_0
  try clear hcz50_1
  try clear hcz50_2
  try clear hcz50_3
  try clear hcz50_4
  try clear hcz50_5
  try clear hfz21_0
  try clear hfz21_1
  try clear hfz21_2
  try clear hfz21_3
  try clear hfz21_4
  try clear hfz21_5
  try clear hfz23_0
  try clear hfz23_1
  try clear hfz23_2
  try clear hfz23_3
  try clear hfz23_4
  try clear hfz23_5
  try clear hfz25_0
  try clear hfz25_1
  try clear hfz25_2
  try clear hfz25_3
  try clear hfz25_4
  try clear hfz25_5
  try clear hfz26_0
  try clear hfz26_1
  try clear hfz26_2
  try clear hfz26_3
  try clear hfz26_4
  try clear hfz26_5
  try clear hfz29_0
  try clear hfz29_1
  try clear hfz29_2
  try clear hfz29_3
  try clear hfz29_4
  try clear hfz29_5
  try clear hfz31_0
  try clear hfz31_1
  try clear hfz31_2
  try clear hfz31_3
  try clear hfz31_4
  try clear hfz31_5
  try clear hfz33_0
  try clear hfz33_1
  try clear hfz33_2
  try clear hfz33_3
  try clear hfz33_4
  try clear hfz33_5
  try clear hfz34_0
  try clear hfz34_1
  try clear hfz34_2
  try clear hfz34_3
  try clear hfz34_4
  try clear hfz34_5
  try clear hfz37_0
  try clear hfz37_1
  try clear hfz37_2
  try clear hfz37_3
  try clear hfz37_4
  try clear hfz37_5
  try clear hfz39_0
  try clear hfz39_1
  try clear hfz39_2
  try clear hfz39_3
  try clear hfz39_4
  try clear hfz39_5
  try clear hfz41_0
  try clear hfz41_1
  try clear hfz41_2
  try clear hfz41_3
  try clear hfz41_4
  try clear hfz41_5
  try clear hfz42_0
  try clear hfz42_1
  try clear hfz42_2
  try clear hfz42_3
  try clear hfz42_4
  try clear hfz42_5
  try clear hfz45_0
  try clear hfz45_1
  try clear hfz45_2
  try clear hfz45_3
  try clear hfz45_4
  try clear hfz45_5
  try clear hfz47_0
  try clear hfz47_1
  try clear hfz47_2
  try clear hfz47_3
  try clear hfz47_4
  try clear hfz47_5
  try clear hfz50_0
  try clear hfz50_1
  try clear hfz50_2
  try clear hfz50_3
  try clear hfz50_4
  try clear hfz50_5
  obtain ⟨kq, x51_4, rfl, HA, HJ4, BK586, BK587, HB⟩ := hcut
  cases kq with
  | zero => exact absurd HA.out (by simp [spigotlaw03_BucketMore.j0])
  | succ kj4 =>
   have H := HA.out
   clear HA
   simp only [spigotlaw03_BucketMore.j0] at H
   by_cases c52 : x51_4 = true
   ·subst c52
    have H1 : ((spigotlaw03_alive.f kj4).bind fun t591 => (some t591)) = some r := by rw [if_pos rfl] at H; exact H
    clear H
    have H := H1
    clear H1
    replace H := Option.bind_eq_some_iff.mp H
    obtain ⟨t591, A530, H⟩ := H
    replace H : (some t591) = some r := H
    have A53 := Aside0.mk A530
    clear A530
    obtain rfl := Option.some.inj H
    go_wp2_with (first | ((with_reducible refine gate_callee (f := 27) rfl ?_); refine goesL_ (some 52) rfl rfl Try.func27 (by kernel_rfl) rfl #[] rfl (by (try simp only [List.map_toArray, List.map_cons, List.map_nil]); first | done | rfl | (simp only [List.length_drop, List.length_take]; rfl)) ?_; (with_reducible refine (spigotlaw03_alive.calls kj4  t591 _ A53.out).mono ?_); rintro e w54 ⟨rfl, hb⟩; refine ⟨_, rfl, ?_⟩; replace BK586 := bb_ BK586 hb; replace BK587 := bb_ BK587 hb; replace HB := bs_ w hb; (try clear hb); (try clear hb2); (try clear hk); (try clear hi)))
    go_ret
    exact ⟨by first | rfl | (simp [errW_none, errW_some] <;> rfl) | (simp [*, errW_none, errW_some] <;> rfl), by repeat (first | (with_reducible first | exact HB.out | apply below_alloc | apply pw_below_drewN | apply below_drew1 | refine below_set ?_ GE586.out | refine below_set ?_ GE587.out) | exact HB.out)⟩
   ·replace c52 := Bool.eq_false_iff.mpr c52
    subst c52
    have H1 : (spigotlaw03_BucketMore.l0 kj4 l2 l3 0 a0_0 a0_1 a0_2 a0_3 a0_4 a0_5 a0_0 a0_1 a0_2 a1_3 a1_4 a0_5) = some r := by rw [if_neg (show ¬ (false = true) by decide)] at H; exact H
    clear H
    have H := H1
    clear H1
    have H' := Aside0.mk H
    clear H
    go_wp2
    go_loopg [9] kj4 (fun kq v9 w' => ∃ (x9_2 : Int) (x587000_2 : Int) (x587001_2 : Int) (x587002_2 : Int) (x587003_2 : Int) (x587004_2 : Int) (x587005_2 : Int) (x588000_2 : Int) (x588001_2 : Int) (x588002_2 : Int) (x588003_2 : Int) (x588004_2 : Int) (x588005_2 : Int), v9 = .int .i64 x9_2 ∧ Aside0 (spigotlaw03_BucketMore.l0 kq l2 l3 x9_2 x587000_2 x587001_2 x587002_2 x587003_2 x587004_2 x587005_2 x588000_2 x588001_2 x588002_2 x588003_2 x588004_2 x588005_2 = some r) ∧ Aside0 (kq ≤ kj4) ∧ Aside0 (w'.heap[gb586]? = some (.cells #[.int .i64 x587000_2, .int .i64 x587001_2, .int .i64 x587002_2, .int .i64 x587003_2, .int .i64 x587004_2, .int .u64 x587005_2] 26 (0, 0))) ∧ Aside0 (w'.heap[gb587]? = some (.cells #[.int .i64 x588000_2, .int .i64 x588001_2, .int .i64 x588002_2, .int .i64 x588003_2, .int .i64 x588004_2, .int .u64 x588005_2] 26 (0, 0))) ∧ Aside0 (Below w.heap.size w w'))
    case atStart => exact ⟨(0), (a0_0), (a0_1), (a0_2), (a0_3), (a0_4), (a0_5), (a0_0), (a0_1), (a0_2), (a1_3), (a1_4), (a0_5), (by first | rfl | (simp; done) | (simp [*]; done)), H', ⟨Nat.le_refl _⟩, ⟨bq_ BK586⟩, ⟨bq_ BK587⟩, ⟨by repeat (first | (with_reducible first | exact HB.out | apply below_alloc | apply pw_below_drewN | apply below_drew1 | refine below_set ?_ GE586.out | refine below_set ?_ GE587.out) | exact HB.out)⟩⟩
    case round =>
     clear H'
     try clear c1
     try clear c2
     try clear p2
     try clear c3
     try clear c4
     try clear c5
     try clear c7
     try clear c14
     try clear c14b0
     try clear c14b1
     try clear c16
     try clear c16b0
     try clear c16b1
     try clear c17
     try clear c18
     try clear c19
     try clear c19b0
     try clear c19b1
     try clear c20
     try clear c27
     try clear c28
     try clear c36
     try clear c44
     try clear c49
     try clear c52
     try clear hcz21_0
     try clear hcz21_1
     try clear hcz21_2
     try clear hcz21_3
     try clear hcz21_4
     try clear hcz21_5
     try clear hcz23_0
     try clear hcz23_1
     try clear hcz23_2
     try clear hcz23_3
     try clear hcz23_4
     try clear hcz23_5
     try clear hcz25_0
     try clear hcz25_1
     try clear hcz25_2
     try clear hcz25_3
     try clear hcz25_4
     try clear hcz25_5
     try clear hcz26_0
     try clear hcz26_1
     try clear hcz26_2
     try clear hcz26_3
     try clear hcz26_4
     try clear hcz26_5
     try clear hcz29_0
     try clear hcz29_1
     try clear hcz29_2
     try clear hcz29_3
     try clear hcz29_4
     try clear hcz29_5
     try clear hcz31_0
     try clear hcz31_1
     try clear hcz31_2
     try clear hcz31_3
     try clear hcz31_4
     try clear hcz31_5
     try clear hcz33_0
     try clear hcz33_1
     try clear hcz33_2
     try clear hcz33_3
     try clear hcz33_4
     try clear hcz33_5
     try clear hcz34_0
     try clear hcz34_1
     try clear hcz34_2
     try clear hcz34_3
     try clear hcz34_4
     try clear hcz34_5
     try clear hcz37_0
     try clear hcz37_1
     try clear hcz37_2
     try clear hcz37_3
     try clear hcz37_4
     try clear hcz37_5
     try clear hcz39_0
     try clear hcz39_1
     try clear hcz39_2
     try clear hcz39_3
     try clear hcz39_4
     try clear hcz39_5
     try clear hcz41_0
     try clear hcz41_1
     try clear hcz41_2
     try clear hcz41_3
     try clear hcz41_4
     try clear hcz41_5
     try clear hcz42_0
     try clear hcz42_1
     try clear hcz42_2
     try clear hcz42_3
     try clear hcz42_4
     try clear hcz42_5
     try clear hcz45_0
     try clear hcz45_1
     try clear hcz45_2
     try clear hcz45_3
     try clear hcz45_4
     try clear hcz45_5
     try clear hcz47_0
     try clear hcz47_1
     try clear hcz47_2
     try clear hcz47_3
     try clear hcz47_4
     try clear hcz47_5
     try clear hcz50_0
     try clear hcz50_1
     try clear hcz50_2
     try clear hcz50_3
     try clear hcz50_4
     try clear hcz50_5
     try clear hfz21_0
     try clear hfz21_1
     try clear hfz21_2
     try clear hfz21_3
     try clear hfz21_4
     try clear hfz21_5
     try clear hfz23_0
     try clear hfz23_1
     try clear hfz23_2
     try clear hfz23_3
     try clear hfz23_4
     try clear hfz23_5
     try clear hfz25_0
     try clear hfz25_1
     try clear hfz25_2
     try clear hfz25_3
     try clear hfz25_4
     try clear hfz25_5
     try clear hfz26_0
     try clear hfz26_1
     try clear hfz26_2
     try clear hfz26_3
     try clear hfz26_4
     try clear hfz26_5
     try clear hfz29_0
     try clear hfz29_1
     try clear hfz29_2
     try clear hfz29_3
     try clear hfz29_4
     try clear hfz29_5
     try clear hfz31_0
     try clear hfz31_1
     try clear hfz31_2
     try clear hfz31_3
     try clear hfz31_4
     try clear hfz31_5
     try clear hfz33_0
     try clear hfz33_1
     try clear hfz33_2
     try clear hfz33_3
     try clear hfz33_4
     try clear hfz33_5
     try clear hfz34_0
     try clear hfz34_1
     try clear hfz34_2
     try clear hfz34_3
     try clear hfz34_4
     try clear hfz34_5
     try clear hfz37_0
     try clear hfz37_1
     try clear hfz37_2
     try clear hfz37_3
     try clear hfz37_4
     try clear hfz37_5
     try clear hfz39_0
     try clear hfz39_1
     try clear hfz39_2
     try clear hfz39_3
     try clear hfz39_4
     try clear hfz39_5
     try clear hfz41_0
     try clear hfz41_1
     try clear hfz41_2
     try clear hfz41_3
     try clear hfz41_4
     try clear hfz41_5
     try clear hfz42_0
     try clear hfz42_1
     try clear hfz42_2
     try clear hfz42_3
     try clear hfz42_4
     try clear hfz42_5
     try clear hfz45_0
     try clear hfz45_1
     try clear hfz45_2
     try clear hfz45_3
     try clear hfz45_4
     try clear hfz45_5
     try clear hfz47_0
     try clear hfz47_1
     try clear hfz47_2
     try clear hfz47_3
     try clear hfz47_4
     try clear hfz47_5
     try clear hfz50_0
     try clear hfz50_1
     try clear hfz50_2
     try clear hfz50_3
     try clear hfz50_4
     try clear hfz50_5
     try clear p2
     obtain ⟨x9_2, x587000_2, x587001_2, x587002_2, x587003_2, x587004_2, x587005_2, x588000_2, x588001_2, x588002_2, x588003_2, x588004_2, x588005_2, rfl, HA, HK2, BK586, BK587, HB⟩ := hrel
     cases gk with
     | zero => exact absurd HA.out (by simp [spigotlaw03_BucketMore.l0])
     | succ k2 =>
      have H := HA.out
      clear HA
      simp only [spigotlaw03_BucketMore.l0] at H
      by_cases c55 : x9_2 < (l2.length : Int)
      ·rw [if_pos c55] at H
       have c55b0 : decide (x9_2 < (l2.length : Int)) = true := decide_eq_true c55
       clear c55
       by_cases c56 : 0 ≤ x9_2
       rotate_left
       ·rw [if_neg c56] at H; exact absurd H (by simp)
       rw [if_pos c56] at H
       have c56b0 : decide (0 ≤ x9_2) = true := decide_eq_true c56
       clear c56
       replace H := Option.bind_eq_some_iff.mp H
       obtain ⟨⟨t594, t595, t596, t597, t598, t599, t600⟩, A570, H⟩ := H
       try dsimp only at H
       have A57 := Aside0.mk A570
       clear A570
       replace H := Option.bind_eq_some_iff.mp H
       obtain ⟨⟨t603, t604, t605, t606, t607, t608, t609⟩, A580, H⟩ := H
       try dsimp only at H
       have A58 := Aside0.mk A580
       clear A580
       by_cases c59 : t600 = 0
       rotate_left
       ·rw [if_neg c59] at H; exact absurd H (by simp)
       rw [if_pos c59] at H
       have c59b0 : (t600 == 0) = true := beq_iff_eq.mpr c59
       have c59b1 : (t600 != 0) = false := bne_eq_false_iff_eq.mpr c59
       clear c59
       by_cases c60 : t609 = 0
       rotate_left
       ·rw [if_neg c60] at H; exact absurd H (by simp)
       rw [if_pos c60] at H
       have c60b0 : (t609 == 0) = true := beq_iff_eq.mpr c60
       have c60b1 : (t609 != 0) = false := bne_eq_false_iff_eq.mpr c60
       clear c60
       replace H := Option.bind_eq_some_iff.mp H
       obtain ⟨t611, A610, H⟩ := H
       try dsimp only at H
       have A61 := Aside0.mk A610
       clear A610
       by_cases c62 : t611 = true
       ·subst c62
        have H1 : (if t599 = t608 then (if x9_2 < (l3.length : Int) then ((bucket_Charge.f t594 t595 t596 t597 t598 t599 (rd l3 x9_2)).bind fun bt613 => ((bucket_Charge.f t603 t604 t605 t606 t607 t608 (rd l3 x9_2)).bind fun bt621 => (if bt613.2.2.2.2.2.2 = 0 then (if bt621.2.2.2.2.2.2 = 0 then ((spigotlaw03_more.f bt621.1 bt621.2.1 bt621.2.2.1 bt621.2.2.2.1 bt621.2.2.2.2.1 bt621.2.2.2.2.2.1 bt613.1 bt613.2.1 bt613.2.2.1 bt613.2.2.2.1 bt613.2.2.2.2.1 bt613.2.2.2.2.2.1).bind fun t628 => (if t628 = true then (spigotlaw03_BucketMore.j2 k2 l2 l3 x9_2 bt613.1 bt613.2.1 bt613.2.2.1 bt613.2.2.2.1 bt613.2.2.2.2.1 bt613.2.2.2.2.2.1 bt621.1 bt621.2.1 bt621.2.2.1 bt621.2.2.2.1 bt621.2.2.2.2.1 bt621.2.2.2.2.2.1) else (none))) else (none)) else (spigotlaw03_BucketMore.j2 k2 l2 l3 x9_2 t594 t595 t596 t597 t598 t599 t603 t604 t605 t606 t607 t608)))) else (none)) else (none)) = some r := by rw [if_pos rfl] at H; exact H
        clear H
        have H := H1
        clear H1
        by_cases c63 : t599 = t608
        rotate_left
        ·rw [if_neg c63] at H; exact absurd H (by simp)
        rw [if_pos c63] at H
        have c63b0 : (t599 == t608) = true := beq_iff_eq.mpr c63
        have c63b1 : (t599 != t608) = false := bne_eq_false_iff_eq.mpr c63
        clear c63
        by_cases c64 : x9_2 < (l3.length : Int)
        rotate_left
        ·rw [if_neg c64] at H; exact absurd H (by simp)
        rw [if_pos c64] at H
        have c64b0 : decide (x9_2 < (l3.length : Int)) = true := decide_eq_true c64
        clear c64
        replace H := Option.bind_eq_some_iff.mp H
        obtain ⟨⟨t613, t614, t615, t616, t617, t618, t619⟩, A650, H⟩ := H
        try dsimp only at H
        have A65 := Aside0.mk A650
        clear A650
        replace H := Option.bind_eq_some_iff.mp H
        obtain ⟨⟨t621, t622, t623, t624, t625, t626, t627⟩, A660, H⟩ := H
        try dsimp only at H
        have A66 := Aside0.mk A660
        clear A660
        have HC67 := Aside0.mk H
        clear H
        try go_wp2
        replace BK586 := Aside0.mk (blk_drew BK586.out)
        replace BK587 := Aside0.mk (blk_drew BK587.out)
        replace HB := Aside0.mk (below_drew1 HB.out)
        have p593 : 0 ≤ (x9_2 : Int) := of_decide_eq_true (by first | (with_reducible assumption) | assumption)
        have q593 : x9_2 < (l2.length : Int) := of_decide_eq_true (by first | (with_reducible assumption) | assumption)
        obtain ⟨ad593, e593, hx593_0⟩ := Kd.at_int HR2.out x9_2 p593 q593
        have hw593_0 := hx593_0
        cases e593
        replace hx593_0 := (HB.out.cell (World.block_lt_of_cell? w _ hx593_0)).trans hx593_0
        replace p593 := eq_true p593
        replace q593 := eq_true q593
        refine start_ (n := 12) (S := fun w' => w'.cell? ⟨gb586, 0, none⟩ = some (.int .i64 x587000_2) ∧ w'.cell? ⟨gb586, 1, none⟩ = some (.int .i64 x587001_2) ∧ w'.cell? ⟨gb586, 2, none⟩ = some (.int .i64 x587002_2) ∧ w'.cell? ⟨gb586, 3, none⟩ = some (.int .i64 x587003_2) ∧ w'.cell? ⟨gb586, 4, none⟩ = some (.int .i64 x587004_2) ∧ w'.cell? ⟨gb586, 5, none⟩ = some (.int .u64 x587005_2) ∧ w'.cell? (ad593.add (x9_2).toNat) = some (.int .u64 (rd l2 x9_2))) (ds := []) #[false, false, false, false, false, false, false, false, false, false, false, false] (by kernel_rfl) rfl rfl ⟨(blk_cell BK586.out 0).trans rfl, (blk_cell BK586.out 1).trans rfl, (blk_cell BK586.out 2).trans rfl, (blk_cell BK586.out 3).trans rfl, (blk_cell BK586.out 4).trans rfl, (blk_cell BK586.out 5).trans rfl, ((HB.out.cell (World.block_lt_of_cell? w _ hw593_0)).trans hw593_0)⟩ (fun hHeld => ?_); refine with_tabW spigotlaw03_BucketMore.tab7 spigotlaw03_BucketMore.bits7 (fun HT_ HW_ => ?_)
        generalize wr.drew = w68 at BK586 BK587 HB hx593_0 hHeld ⊢
        refine pure_ (i := 1) (N := some 61) (v := ?_) (a' := ?_) #[false, true, false, false, false, false, false, false, false, false, false, false] rfl rfl (any_of HT_.out (by kernel_rfl)) (fun _ _ _ h => h) (Or.inl ⟨by rfl, ?_⟩) ?_ ?_
        rotate_left
        ·intro w'
         go_simp
         with_reducible rfl
        rotate_left
        ·simp only [Act.put, List.setIfInBounds_toArray, List.set_cons_zero, List.set_cons_succ, i64_w, i32_w]
         rfl
        refine pure_ (i := 2) (N := some 62) (v := ?_) (a' := ?_) #[false, true, true, false, false, false, false, false, false, false, false, false] rfl rfl (any_of HT_.out (by kernel_rfl)) (fun _ _ _ h => h) (Or.inl ⟨by rfl, ?_⟩) ?_ ?_
        rotate_left
        ·intro w'
         go_simp
         with_reducible rfl
        rotate_left
        ·simp only [Act.put, List.setIfInBounds_toArray, List.set_cons_zero, List.set_cons_succ, i64_w, i32_w]
         rfl
        refine pure_ (i := 3) (N := some 63) (v := ?_) (a' := ?_) #[false, true, true, true, false, false, false, false, false, false, false, false] rfl rfl (any_of HT_.out (by kernel_rfl)) (fun _ _ _ h => h) (Or.inl ⟨by rfl, ?_⟩) ?_ ?_
        rotate_left
        ·intro w'
         go_simp
         with_reducible rfl
        rotate_left
        ·simp only [Act.put, List.setIfInBounds_toArray, List.set_cons_zero, List.set_cons_succ, i64_w, i32_w]
         rfl
        refine take_ (i := 0) (N := some 60) (v := ?_) (a' := ?_) #[true, true, true, true, false, false, false, false, false, false, false, false] rfl rfl (take_ofW HT_.out HW_.out (by kernel_rfl)) (fun _ _ _ h => h) (Or.inl ⟨by rfl, ?_⟩) hHeld ?_ ?_
        rotate_left
        ·rintro w' ⟨s0, s1, s2, s3, s4, s5, s6⟩
         go_simp
         with_reducible rfl
        rotate_left
        ·simp only [Act.put, List.setIfInBounds_toArray, List.set_cons_zero, List.set_cons_succ, i64_w, i32_w]
         rfl
        refine take_ (i := 4) (N := some 64) (v := ?_) (a' := ?_) #[true, true, true, true, true, false, false, false, false, false, false, false] rfl rfl (take_ofW HT_.out HW_.out (by kernel_rfl)) (fun _ _ _ h => h) (Or.inl ⟨by rfl, ?_⟩) hHeld ?_ ?_
        rotate_left
        ·rintro w' ⟨s0, s1, s2, s3, s4, s5, s6⟩
         go_simp
         with_reducible rfl
        rotate_left
        ·simp only [Act.put, List.setIfInBounds_toArray, List.set_cons_zero, List.set_cons_succ, i64_w, i32_w]
         rfl
        refine join_ (σ := Nat) 2 #[true, true, true, true, true, true, true, true, true, true, false, false] (fun s_ => [(65, .tuple #[.agg #[.int .i64 t594, .int .i64 t595, .int .i64 t596, .int .i64 t597, .int .i64 t598, .int .u64 t599], .int .i64 t600]), (10, .pointer (some ⟨s_, 0, none⟩)), (59, .tuple #[.agg #[.int .i64 t594, .int .i64 t595, .int .i64 t596, .int .i64 t597, .int .i64 t598, .int .u64 t599], .int .i64 t600]), (66, .agg #[.int .i64 t594, .int .i64 t595, .int .i64 t596, .int .i64 t597, .int .i64 t598, .int .u64 t599]), (67, .int .i64 t600)]) (fun s_ w' => (w'.cell? ⟨gb586, 0, none⟩ = some (.int .i64 x587000_2) ∧ w'.cell? ⟨gb586, 1, none⟩ = some (.int .i64 x587001_2) ∧ w'.cell? ⟨gb586, 2, none⟩ = some (.int .i64 x587002_2) ∧ w'.cell? ⟨gb586, 3, none⟩ = some (.int .i64 x587003_2) ∧ w'.cell? ⟨gb586, 4, none⟩ = some (.int .i64 x587004_2) ∧ w'.cell? ⟨gb586, 5, none⟩ = some (.int .u64 x587005_2) ∧ w'.cell? (ad593.add (x9_2).toNat) = some (.int .u64 (rd l2 x9_2))) ∧ (w'.heap[gb586]? = some (.cells #[.int .i64 x587000_2, .int .i64 x587001_2, .int .i64 x587002_2, .int .i64 x587003_2, .int .i64 x587004_2, .int .u64 x587005_2] 26 (0, 0))) ∧ (w'.heap[gb587]? = some (.cells #[.int .i64 x588000_2, .int .i64 x588001_2, .int .i64 x588002_2, .int .i64 x588003_2, .int .i64 x588004_2, .int .u64 x588005_2] 26 (0, 0))) ∧ (w'.heap[s_]? = some (.cells #[.int .i64 0, .int .i64 0, .int .i64 0, .int .i64 0, .int .i64 0, .int .u64 0] 26 (0, 0))) ∧ (w.heap.size ≤ s_) ∧ (w.heap.size ≤ s_) ∧ (gb586 ≠ s_) ∧ (s_ ≠ gb586) ∧ (gb587 ≠ s_) ∧ (s_ ≠ gb587) ∧ (Below w.heap.size w w')) ?_ ?_
        rotate_left
        ·intro hCont
         refine two_ (i := 5) (j := 9) (Ni := some 65) (Nj := some 10) #[true, true, true, true, true, true, false, false, false, false, false, false] #[true, true, true, true, true, false, false, false, false, true, false, false] rfl rfl rfl rfl (two_of HT_.out (by kernel_rfl)) (by decide) (by decide) (fun K hK => ?_) (fun K hK => ?_)
         ·skip
          refine goes_ Try.func12 (by kernel_rfl) rfl #[.agg #[.int .i64 x587000_2, .int .i64 x587001_2, .int .i64 x587002_2, .int .i64 x587003_2, .int .i64 x587004_2, .int .u64 x587005_2], .int .u64 (rd l2 x9_2)] (by rfl) rfl rfl (by (try simp only [List.map_toArray, List.map_cons, List.map_nil]); first | done | rfl | (simp only [List.length_drop, List.length_take]; rfl)) ?_
          with_reducible refine (bucket_Refill.calls k2 x587000_2 x587001_2 x587002_2 x587003_2 x587004_2 x587005_2 (rd l2 x9_2) t594 t595 t596 t597 t598 t599 t600 _ A57.out).mono ?_
          rintro e w69 ⟨rfl, hb⟩
          refine ⟨_, rfl, ?_⟩
          replace BK586 := bb_ BK586 hb
          replace BK587 := bb_ BK587 hb
          replace HB := bs_ w hb
          (try clear hb)
          (try clear hb2)
          (try clear hk)
          (try clear hi)
          refine hK.out _ _ ⟨(blk_cell BK586.out 0).trans rfl, (blk_cell BK586.out 1).trans rfl, (blk_cell BK586.out 2).trans rfl, (blk_cell BK586.out 3).trans rfl, (blk_cell BK586.out 4).trans rfl, (blk_cell BK586.out 5).trans rfl, ((HB.out.cell (World.block_lt_of_cell? w _ hw593_0)).trans hw593_0)⟩ (fun hHeld => ?_)
          clear hK K
          refine norm_ (a' := ?_) ?_ ?_
          rotate_left
          ·show Act.put _ (some 65) _ = _
           simp only [Act.put, List.setIfInBounds_toArray, List.set_cons_zero, List.set_cons_succ, i64_w, i32_w]
           rfl
          refine pure_ (i := 6) (N := some 59) (v := ?_) (a' := ?_) #[true, true, true, true, true, true, true, false, false, false, false, false] rfl rfl (any_of HT_.out (by kernel_rfl)) (fun _ _ _ h => h) (Or.inl ⟨by rfl, ?_⟩) ?_ ?_
          rotate_left
          ·intro w'
           go_simp
           with_reducible rfl
          rotate_left
          ·simp only [Act.put, List.setIfInBounds_toArray, List.set_cons_zero, List.set_cons_succ, i64_w, i32_w]
           rfl
          refine pure_ (i := 7) (N := some 66) (v := ?_) (a' := ?_) #[true, true, true, true, true, true, true, true, false, false, false, false] rfl rfl (any_of HT_.out (by kernel_rfl)) (fun _ _ _ h => h) (Or.inl ⟨by rfl, ?_⟩) ?_ ?_
          rotate_left
          ·intro w'
           go_simp
           with_reducible rfl
          rotate_left
          ·simp only [Act.put, List.setIfInBounds_toArray, List.set_cons_zero, List.set_cons_succ, i64_w, i32_w]
           rfl
          refine pure_ (i := 8) (N := some 67) (v := ?_) (a' := ?_) #[true, true, true, true, true, true, true, true, true, false, false, false] rfl rfl (any_of HT_.out (by kernel_rfl)) (fun _ _ _ h => h) (Or.inl ⟨by rfl, ?_⟩) ?_ ?_
          rotate_left
          ·intro w'
           go_simp
           with_reducible rfl
          rotate_left
          ·simp only [Act.put, List.setIfInBounds_toArray, List.set_cons_zero, List.set_cons_succ, i64_w, i32_w]
           rfl
          refine one_ (i := 9) (N := some 10) #[true, true, true, true, true, true, true, true, true, true, false, false] rfl rfl (one_of HT_.out (by kernel_rfl)) (by decide) (fun K hK => ?_)
          refine box_step ?hg (N := 10) ?hd (cs := #[.int .i64 0, .int .i64 0, .int .i64 0, .int .i64 0, .int .i64 0, .int .u64 0]) (t := 26) ?hr ?_; (case hd => rfl); (case hg => rfl); (case hr => first | (go_simp; done) | (go_simp; rfl))
          intro gb601 hg w70 hbox hb
          have BK601 := Aside0.mk (hbox)
          have GW601 := bz_ w hg
          have GE601 := GW601
          have NB586_601 := bn_ BK586 hg
          have NB601_586 := bm_ BK586 hg
          have NB587_601 := bn_ BK587 hg
          have NB601_587 := bm_ BK587 hg
          replace BK586 := bb_ BK586 hb
          replace BK587 := bb_ BK587 hb
          replace HB := bs_ w hb
          clear hb hbox hg
          refine hK.out _ _ ⟨(blk_cell BK586.out 0).trans rfl, (blk_cell BK586.out 1).trans rfl, (blk_cell BK586.out 2).trans rfl, (blk_cell BK586.out 3).trans rfl, (blk_cell BK586.out 4).trans rfl, (blk_cell BK586.out 5).trans rfl, ((HB.out.cell (World.block_lt_of_cell? w _ hw593_0)).trans hw593_0)⟩ (fun hHeld => ?_)
          clear hK K
          refine norm_ (a' := ?_) ?_ ?_
          rotate_left
          ·show Act.put _ (some 10) _ = _
           simp only [Act.put, List.setIfInBounds_toArray, List.set_cons_zero, List.set_cons_succ, i64_w, i32_w]
           rfl
          exact norm_ (by simp only [putAll, Act.put, List.setIfInBounds_toArray, List.set_cons_zero, List.set_cons_succ]) (hCont (gb601) _ ⟨hHeld, (bq_ BK586), (bq_ BK587), (bq_ BK601), GW601.out, GE601.out, NB586_601.out, NB601_586.out, NB587_601.out, NB601_587.out, (by repeat (first | (with_reducible first | exact HB.out | apply below_alloc | apply pw_below_drewN | apply below_drew1 | refine below_set ?_ (Aside0.out (by assumption))) | exact HB.out))⟩)
         ·skip
          refine box_step ?hg (N := 10) ?hd (cs := #[.int .i64 0, .int .i64 0, .int .i64 0, .int .i64 0, .int .i64 0, .int .u64 0]) (t := 26) ?hr ?_; (case hd => rfl); (case hg => rfl); (case hr => first | (go_simp; done) | (go_simp; rfl))
          intro gb601 hg w69 hbox hb
          have BK601 := Aside0.mk (hbox)
          have GW601 := bz_ w hg
          have GE601 := GW601
          have NB586_601 := bn_ BK586 hg
          have NB601_586 := bm_ BK586 hg
          have NB587_601 := bn_ BK587 hg
          have NB601_587 := bm_ BK587 hg
          replace BK586 := bb_ BK586 hb
          replace BK587 := bb_ BK587 hb
          replace HB := bs_ w hb
          clear hb hbox hg
          refine hK.out _ _ ⟨(blk_cell BK586.out 0).trans rfl, (blk_cell BK586.out 1).trans rfl, (blk_cell BK586.out 2).trans rfl, (blk_cell BK586.out 3).trans rfl, (blk_cell BK586.out 4).trans rfl, (blk_cell BK586.out 5).trans rfl, ((HB.out.cell (World.block_lt_of_cell? w _ hw593_0)).trans hw593_0)⟩ (fun hHeld => ?_)
          clear hK K
          refine norm_ (a' := ?_) ?_ ?_
          rotate_left
          ·show Act.put _ (some 10) _ = _
           simp only [Act.put, List.setIfInBounds_toArray, List.set_cons_zero, List.set_cons_succ, i64_w, i32_w]
           rfl
          refine one_ (i := 5) (N := some 65) #[true, true, true, true, true, true, false, false, false, true, false, false] rfl rfl (one_of HT_.out (by kernel_rfl)) (by decide) (fun K hK => ?_)
          refine goes_ Try.func12 (by kernel_rfl) rfl #[.agg #[.int .i64 x587000_2, .int .i64 x587001_2, .int .i64 x587002_2, .int .i64 x587003_2, .int .i64 x587004_2, .int .u64 x587005_2], .int .u64 (rd l2 x9_2)] (by rfl) rfl rfl (by (try simp only [List.map_toArray, List.map_cons, List.map_nil]); first | done | rfl | (simp only [List.length_drop, List.length_take]; rfl)) ?_
          with_reducible refine (bucket_Refill.calls k2 x587000_2 x587001_2 x587002_2 x587003_2 x587004_2 x587005_2 (rd l2 x9_2) t594 t595 t596 t597 t598 t599 t600 _ A57.out).mono ?_
          rintro e w70 ⟨rfl, hb⟩
          refine ⟨_, rfl, ?_⟩
          replace BK586 := bb_ BK586 hb
          replace BK587 := bb_ BK587 hb
          replace BK601 := bb_ BK601 hb
          replace HB := bs_ w hb
          (try clear hb)
          (try clear hb2)
          (try clear hk)
          (try clear hi)
          refine hK.out _ _ ⟨(blk_cell BK586.out 0).trans rfl, (blk_cell BK586.out 1).trans rfl, (blk_cell BK586.out 2).trans rfl, (blk_cell BK586.out 3).trans rfl, (blk_cell BK586.out 4).trans rfl, (blk_cell BK586.out 5).trans rfl, ((HB.out.cell (World.block_lt_of_cell? w _ hw593_0)).trans hw593_0)⟩ (fun hHeld => ?_)
          clear hK K
          refine norm_ (a' := ?_) ?_ ?_
          rotate_left
          ·show Act.put _ (some 65) _ = _
           simp only [Act.put, List.setIfInBounds_toArray, List.set_cons_zero, List.set_cons_succ, i64_w, i32_w]
           rfl
          refine pure_ (i := 6) (N := some 59) (v := ?_) (a' := ?_) #[true, true, true, true, true, true, true, false, false, true, false, false] rfl rfl (any_of HT_.out (by kernel_rfl)) (fun _ _ _ h => h) (Or.inl ⟨by rfl, ?_⟩) ?_ ?_
          rotate_left
          ·intro w'
           go_simp
           with_reducible rfl
          rotate_left
          ·simp only [Act.put, List.setIfInBounds_toArray, List.set_cons_zero, List.set_cons_succ, i64_w, i32_w]
           rfl
          refine pure_ (i := 7) (N := some 66) (v := ?_) (a' := ?_) #[true, true, true, true, true, true, true, true, false, true, false, false] rfl rfl (any_of HT_.out (by kernel_rfl)) (fun _ _ _ h => h) (Or.inl ⟨by rfl, ?_⟩) ?_ ?_
          rotate_left
          ·intro w'
           go_simp
           with_reducible rfl
          rotate_left
          ·simp only [Act.put, List.setIfInBounds_toArray, List.set_cons_zero, List.set_cons_succ, i64_w, i32_w]
           rfl
          refine pure_ (i := 8) (N := some 67) (v := ?_) (a' := ?_) #[true, true, true, true, true, true, true, true, true, true, false, false] rfl rfl (any_of HT_.out (by kernel_rfl)) (fun _ _ _ h => h) (Or.inl ⟨by rfl, ?_⟩) ?_ ?_
          rotate_left
          ·intro w'
           go_simp
           with_reducible rfl
          rotate_left
          ·simp only [Act.put, List.setIfInBounds_toArray, List.set_cons_zero, List.set_cons_succ, i64_w, i32_w]
           rfl
          exact norm_ (by simp only [putAll, Act.put, List.setIfInBounds_toArray, List.set_cons_zero, List.set_cons_succ]) (hCont (gb601) _ ⟨hHeld, (bq_ BK586), (bq_ BK587), (bq_ BK601), GW601.out, GE601.out, NB586_601.out, NB601_586.out, NB587_601.out, NB601_587.out, (by repeat (first | (with_reducible first | exact HB.out | apply below_alloc | apply pw_below_drewN | apply below_drew1 | refine below_set ?_ (Aside0.out (by assumption))) | exact HB.out))⟩)
        rintro gb601 w71 ⟨hS_, h0_, h1_, h2_, h3_, h4_, h5_, h6_, h7_, h8_, h9_⟩
        have BK601 : Aside0 (w71.heap[gb601]? = some (.cells #[.int .i64 0, .int .i64 0, .int .i64 0, .int .i64 0, .int .i64 0, .int .u64 0] 26 (0, 0))) := ⟨h2_⟩
        have GW601 : Aside0 (w.heap.size ≤ gb601) := ⟨h3_⟩
        have GE601 : Aside0 (w.heap.size ≤ gb601) := ⟨h4_⟩
        have NB586_601 : Aside0 (gb586 ≠ gb601) := ⟨h5_⟩
        have NB601_586 : Aside0 (gb601 ≠ gb586) := ⟨h6_⟩
        have NB587_601 : Aside0 (gb587 ≠ gb601) := ⟨h7_⟩
        have NB601_587 : Aside0 (gb601 ≠ gb587) := ⟨h8_⟩
        replace BK586 : Aside0 (w71.heap[gb586]? = some (.cells #[.int .i64 x587000_2, .int .i64 x587001_2, .int .i64 x587002_2, .int .i64 x587003_2, .int .i64 x587004_2, .int .u64 x587005_2] 26 (0, 0))) := ⟨h0_⟩
        replace BK587 : Aside0 (w71.heap[gb587]? = some (.cells #[.int .i64 x588000_2, .int .i64 x588001_2, .int .i64 x588002_2, .int .i64 x588003_2, .int .i64 x588004_2, .int .u64 x588005_2] 26 (0, 0))) := ⟨h1_⟩
        replace HB : Aside0 (Below w.heap.size w w71) := ⟨h9_⟩
        clear h0_ h1_ h2_ h3_ h4_ h5_ h6_ h7_ h8_ h9_
        have hHeld : w71.cell? ⟨gb586, 0, none⟩ = some (.int .i64 x587000_2) ∧ w71.cell? ⟨gb586, 1, none⟩ = some (.int .i64 x587001_2) ∧ w71.cell? ⟨gb586, 2, none⟩ = some (.int .i64 x587002_2) ∧ w71.cell? ⟨gb586, 3, none⟩ = some (.int .i64 x587003_2) ∧ w71.cell? ⟨gb586, 4, none⟩ = some (.int .i64 x587004_2) ∧ w71.cell? ⟨gb586, 5, none⟩ = some (.int .u64 x587005_2) ∧ w71.cell? (ad593.add (x9_2).toNat) = some (.int .u64 (rd l2 x9_2)) := hS_
        refine norm_ (a' := ?_) ?_ ?_
        rotate_left
        ·simp only [putAll, Act.put, List.setIfInBounds_toArray, List.set_cons_zero, List.set_cons_succ]
         rfl
        refine one_ (i := 10) (N := none) #[true, true, true, true, true, true, true, true, true, true, true, false] rfl rfl (one_of HT_.out (by kernel_rfl)) (by decide) (fun K hK => ?_)
        have hs72 : w71.cell? ⟨gb601, 0, none⟩ = some (.int .i64 0) := (blk_cell BK601.out 0).trans rfl
        have hfs72 := blk_frozen BK601.out 0
        have hns72_0 := NB586_601.out
        have hns72_1 := NB587_601.out
        have hms72_0 := NB601_586.out
        have hms72_1 := NB601_587.out
        have hs73 : w71.cell? ⟨gb601, 1, none⟩ = some (.int .i64 0) := (blk_cell BK601.out 1).trans rfl
        have hfs73 := blk_frozen BK601.out 1
        have hns73_0 := NB586_601.out
        have hns73_1 := NB587_601.out
        have hms73_0 := NB601_586.out
        have hms73_1 := NB601_587.out
        have hs74 : w71.cell? ⟨gb601, 2, none⟩ = some (.int .i64 0) := (blk_cell BK601.out 2).trans rfl
        have hfs74 := blk_frozen BK601.out 2
        have hns74_0 := NB586_601.out
        have hns74_1 := NB587_601.out
        have hms74_0 := NB601_586.out
        have hms74_1 := NB601_587.out
        have hs75 : w71.cell? ⟨gb601, 3, none⟩ = some (.int .i64 0) := (blk_cell BK601.out 3).trans rfl
        have hfs75 := blk_frozen BK601.out 3
        have hns75_0 := NB586_601.out
        have hns75_1 := NB587_601.out
        have hms75_0 := NB601_586.out
        have hms75_1 := NB601_587.out
        have hs76 : w71.cell? ⟨gb601, 4, none⟩ = some (.int .i64 0) := (blk_cell BK601.out 4).trans rfl
        have hfs76 := blk_frozen BK601.out 4
        have hns76_0 := NB586_601.out
        have hns76_1 := NB587_601.out
        have hms76_0 := NB601_586.out
        have hms76_1 := NB601_587.out
        have hs77 : w71.cell? ⟨gb601, 5, none⟩ = some (.int .u64 0) := (blk_cell BK601.out 5).trans rfl
        have hfs77 := blk_frozen BK601.out 5
        have hns77_0 := NB586_601.out
        have hns77_1 := NB587_601.out
        have hms77_0 := NB601_586.out
        have hms77_1 := NB601_587.out
        refine skip_ (w1 := ?_) (by rfl) rfl ?_ ?_
        rotate_left
        ·go_simp
         rfl
        refine hK.out _ _ ⟨((cell_far (p := ⟨gb601, _, none⟩) NB586_601.out _).trans (((cell_far (p := ⟨gb601, _, none⟩) NB586_601.out _).trans (((cell_far (p := ⟨gb601, _, none⟩) NB586_601.out _).trans (((cell_far (p := ⟨gb601, _, none⟩) NB586_601.out _).trans (((cell_far (p := ⟨gb601, _, none⟩) NB586_601.out _).trans (((cell_far (p := ⟨gb601, _, none⟩) NB586_601.out _).trans (hHeld.1)))))))))))), ((cell_far (p := ⟨gb601, _, none⟩) NB586_601.out _).trans (((cell_far (p := ⟨gb601, _, none⟩) NB586_601.out _).trans (((cell_far (p := ⟨gb601, _, none⟩) NB586_601.out _).trans (((cell_far (p := ⟨gb601, _, none⟩) NB586_601.out _).trans (((cell_far (p := ⟨gb601, _, none⟩) NB586_601.out _).trans (((cell_far (p := ⟨gb601, _, none⟩) NB586_601.out _).trans (hHeld.2.1)))))))))))), ((cell_far (p := ⟨gb601, _, none⟩) NB586_601.out _).trans (((cell_far (p := ⟨gb601, _, none⟩) NB586_601.out _).trans (((cell_far (p := ⟨gb601, _, none⟩) NB586_601.out _).trans (((cell_far (p := ⟨gb601, _, none⟩) NB586_601.out _).trans (((cell_far (p := ⟨gb601, _, none⟩) NB586_601.out _).trans (((cell_far (p := ⟨gb601, _, none⟩) NB586_601.out _).trans (hHeld.2.2.1)))))))))))), ((cell_far (p := ⟨gb601, _, none⟩) NB586_601.out _).trans (((cell_far (p := ⟨gb601, _, none⟩) NB586_601.out _).trans (((cell_far (p := ⟨gb601, _, none⟩) NB586_601.out _).trans (((cell_far (p := ⟨gb601, _, none⟩) NB586_601.out _).trans (((cell_far (p := ⟨gb601, _, none⟩) NB586_601.out _).trans (((cell_far (p := ⟨gb601, _, none⟩) NB586_601.out _).trans (hHeld.2.2.2.1)))))))))))), ((cell_far (p := ⟨gb601, _, none⟩) NB586_601.out _).trans (((cell_far (p := ⟨gb601, _, none⟩) NB586_601.out _).trans (((cell_far (p := ⟨gb601, _, none⟩) NB586_601.out _).trans (((cell_far (p := ⟨gb601, _, none⟩) NB586_601.out _).trans (((cell_far (p := ⟨gb601, _, none⟩) NB586_601.out _).trans (((cell_far (p := ⟨gb601, _, none⟩) NB586_601.out _).trans (hHeld.2.2.2.2.1)))))))))))), ((cell_far (p := ⟨gb601, _, none⟩) NB586_601.out _).trans (((cell_far (p := ⟨gb601, _, none⟩) NB586_601.out _).trans (((cell_far (p := ⟨gb601, _, none⟩) NB586_601.out _).trans (((cell_far (p := ⟨gb601, _, none⟩) NB586_601.out _).trans (((cell_far (p := ⟨gb601, _, none⟩) NB586_601.out _).trans (((cell_far (p := ⟨gb601, _, none⟩) NB586_601.out _).trans (hHeld.2.2.2.2.2.1)))))))))))), ((cell_far (p := ⟨gb601, _, none⟩) (by first | exact Nat.ne_of_lt (Nat.lt_of_lt_of_le (by have := World.block_lt_of_cell? _ _ hw593_0; first | rwa [add_block] at this | exact this) GW601.out) | (rw [add_block]; exact Nat.ne_of_lt (Nat.lt_of_lt_of_le (by have := World.block_lt_of_cell? _ _ hw593_0; first | rwa [add_block] at this | exact this) GW601.out)) | (show (Addr.add _ _).block ≠ _; rw [add_block]; exact Nat.ne_of_lt (Nat.lt_of_lt_of_le (by have := World.block_lt_of_cell? _ _ hw593_0; first | rwa [add_block] at this | exact this) GW601.out)) | (dsimp only; exact Nat.ne_of_lt (Nat.lt_of_lt_of_le (by have := World.block_lt_of_cell? _ _ hw593_0; first | rwa [add_block] at this | exact this) GW601.out))) _).trans (((cell_far (p := ⟨gb601, _, none⟩) (by first | exact Nat.ne_of_lt (Nat.lt_of_lt_of_le (by have := World.block_lt_of_cell? _ _ hw593_0; first | rwa [add_block] at this | exact this) GW601.out) | (rw [add_block]; exact Nat.ne_of_lt (Nat.lt_of_lt_of_le (by have := World.block_lt_of_cell? _ _ hw593_0; first | rwa [add_block] at this | exact this) GW601.out)) | (show (Addr.add _ _).block ≠ _; rw [add_block]; exact Nat.ne_of_lt (Nat.lt_of_lt_of_le (by have := World.block_lt_of_cell? _ _ hw593_0; first | rwa [add_block] at this | exact this) GW601.out)) | (dsimp only; exact Nat.ne_of_lt (Nat.lt_of_lt_of_le (by have := World.block_lt_of_cell? _ _ hw593_0; first | rwa [add_block] at this | exact this) GW601.out))) _).trans (((cell_far (p := ⟨gb601, _, none⟩) (by first | exact Nat.ne_of_lt (Nat.lt_of_lt_of_le (by have := World.block_lt_of_cell? _ _ hw593_0; first | rwa [add_block] at this | exact this) GW601.out) | (rw [add_block]; exact Nat.ne_of_lt (Nat.lt_of_lt_of_le (by have := World.block_lt_of_cell? _ _ hw593_0; first | rwa [add_block] at this | exact this) GW601.out)) | (show (Addr.add _ _).block ≠ _; rw [add_block]; exact Nat.ne_of_lt (Nat.lt_of_lt_of_le (by have := World.block_lt_of_cell? _ _ hw593_0; first | rwa [add_block] at this | exact this) GW601.out)) | (dsimp only; exact Nat.ne_of_lt (Nat.lt_of_lt_of_le (by have := World.block_lt_of_cell? _ _ hw593_0; first | rwa [add_block] at this | exact this) GW601.out))) _).trans (((cell_far (p := ⟨gb601, _, none⟩) (by first | exact Nat.ne_of_lt (Nat.lt_of_lt_of_le (by have := World.block_lt_of_cell? _ _ hw593_0; first | rwa [add_block] at this | exact this) GW601.out) | (rw [add_block]; exact Nat.ne_of_lt (Nat.lt_of_lt_of_le (by have := World.block_lt_of_cell? _ _ hw593_0; first | rwa [add_block] at this | exact this) GW601.out)) | (show (Addr.add _ _).block ≠ _; rw [add_block]; exact Nat.ne_of_lt (Nat.lt_of_lt_of_le (by have := World.block_lt_of_cell? _ _ hw593_0; first | rwa [add_block] at this | exact this) GW601.out)) | (dsimp only; exact Nat.ne_of_lt (Nat.lt_of_lt_of_le (by have := World.block_lt_of_cell? _ _ hw593_0; first | rwa [add_block] at this | exact this) GW601.out))) _).trans (((cell_far (p := ⟨gb601, _, none⟩) (by first | exact Nat.ne_of_lt (Nat.lt_of_lt_of_le (by have := World.block_lt_of_cell? _ _ hw593_0; first | rwa [add_block] at this | exact this) GW601.out) | (rw [add_block]; exact Nat.ne_of_lt (Nat.lt_of_lt_of_le (by have := World.block_lt_of_cell? _ _ hw593_0; first | rwa [add_block] at this | exact this) GW601.out)) | (show (Addr.add _ _).block ≠ _; rw [add_block]; exact Nat.ne_of_lt (Nat.lt_of_lt_of_le (by have := World.block_lt_of_cell? _ _ hw593_0; first | rwa [add_block] at this | exact this) GW601.out)) | (dsimp only; exact Nat.ne_of_lt (Nat.lt_of_lt_of_le (by have := World.block_lt_of_cell? _ _ hw593_0; first | rwa [add_block] at this | exact this) GW601.out))) _).trans (((cell_far (p := ⟨gb601, _, none⟩) (by first | exact Nat.ne_of_lt (Nat.lt_of_lt_of_le (by have := World.block_lt_of_cell? _ _ hw593_0; first | rwa [add_block] at this | exact this) GW601.out) | (rw [add_block]; exact Nat.ne_of_lt (Nat.lt_of_lt_of_le (by have := World.block_lt_of_cell? _ _ hw593_0; first | rwa [add_block] at this | exact this) GW601.out)) | (show (Addr.add _ _).block ≠ _; rw [add_block]; exact Nat.ne_of_lt (Nat.lt_of_lt_of_le (by have := World.block_lt_of_cell? _ _ hw593_0; first | rwa [add_block] at this | exact this) GW601.out)) | (dsimp only; exact Nat.ne_of_lt (Nat.lt_of_lt_of_le (by have := World.block_lt_of_cell? _ _ hw593_0; first | rwa [add_block] at this | exact this) GW601.out))) _).trans (hHeld.2.2.2.2.2.2))))))))))))⟩ (fun hHeld => ?_)
        clear hK K
        refine pure_ (i := 11) (N := some 11) (v := ?_) (a' := ?_) #[true, true, true, true, true, true, true, true, true, true, true, true] rfl rfl (any_of HT_.out (by kernel_rfl)) (fun _ _ _ h => h) (Or.inl ⟨by rfl, ?_⟩) ?_ ?_
        rotate_left
        ·intro w'
         go_simp
         with_reducible rfl
        rotate_left
        ·simp only [Act.put, List.setIfInBounds_toArray, List.set_cons_zero, List.set_cons_succ, i64_w, i32_w]
         rfl
        refine done_ (done_of HT_.out (by kernel_rfl)) ?_
        try go_wp2
        have n0_ : Aside0 (((((((w71.setCell ⟨gb601, 0, none⟩ (.int .i64 t594)).setCell ⟨gb601, 1, none⟩ (.int .i64 t595)).setCell ⟨gb601, 2, none⟩ (.int .i64 t596)).setCell ⟨gb601, 3, none⟩ (.int .i64 t597)).setCell ⟨gb601, 4, none⟩ (.int .i64 t598)).setCell ⟨gb601, 5, none⟩ (.int .u64 t599)).heap[gb586]? = some (.cells #[.int .i64 x587000_2, .int .i64 x587001_2, .int .i64 x587002_2, .int .i64 x587003_2, .int .i64 x587004_2, .int .u64 x587005_2] 26 (0, 0))) := ⟨(blk_far (blk_far (blk_far (blk_far (blk_far (blk_far (bq_ BK586) NB586_601.out _) NB586_601.out _) NB586_601.out _) NB586_601.out _) NB586_601.out _) NB586_601.out _)⟩
        have n1_ : Aside0 (((((((w71.setCell ⟨gb601, 0, none⟩ (.int .i64 t594)).setCell ⟨gb601, 1, none⟩ (.int .i64 t595)).setCell ⟨gb601, 2, none⟩ (.int .i64 t596)).setCell ⟨gb601, 3, none⟩ (.int .i64 t597)).setCell ⟨gb601, 4, none⟩ (.int .i64 t598)).setCell ⟨gb601, 5, none⟩ (.int .u64 t599)).heap[gb587]? = some (.cells #[.int .i64 x588000_2, .int .i64 x588001_2, .int .i64 x588002_2, .int .i64 x588003_2, .int .i64 x588004_2, .int .u64 x588005_2] 26 (0, 0))) := ⟨(blk_far (blk_far (blk_far (blk_far (blk_far (blk_far (bq_ BK587) NB587_601.out _) NB587_601.out _) NB587_601.out _) NB587_601.out _) NB587_601.out _) NB587_601.out _)⟩
        have n2_ : Aside0 (((((((w71.setCell ⟨gb601, 0, none⟩ (.int .i64 t594)).setCell ⟨gb601, 1, none⟩ (.int .i64 t595)).setCell ⟨gb601, 2, none⟩ (.int .i64 t596)).setCell ⟨gb601, 3, none⟩ (.int .i64 t597)).setCell ⟨gb601, 4, none⟩ (.int .i64 t598)).setCell ⟨gb601, 5, none⟩ (.int .u64 t599)).heap[gb601]? = some (.cells #[.int .i64 t594, .int .i64 t595, .int .i64 t596, .int .i64 t597, .int .i64 t598, .int .u64 t599] 26 (0, 0))) := ⟨(blk_put (cs := #[.int .i64 t594, .int .i64 t595, .int .i64 t596, .int .i64 t597, .int .i64 t598, .int .u64 0]) (blk_put (cs := #[.int .i64 t594, .int .i64 t595, .int .i64 t596, .int .i64 t597, .int .i64 0, .int .u64 0]) (blk_put (cs := #[.int .i64 t594, .int .i64 t595, .int .i64 t596, .int .i64 0, .int .i64 0, .int .u64 0]) (blk_put (cs := #[.int .i64 t594, .int .i64 t595, .int .i64 0, .int .i64 0, .int .i64 0, .int .u64 0]) (blk_put (cs := #[.int .i64 t594, .int .i64 0, .int .i64 0, .int .i64 0, .int .i64 0, .int .u64 0]) (blk_put (cs := #[.int .i64 0, .int .i64 0, .int .i64 0, .int .i64 0, .int .i64 0, .int .u64 0]) (bq_ BK601) 0 _ rfl) 1 _ rfl) 2 _ rfl) 3 _ rfl) 4 _ rfl) 5 _ rfl)⟩
        have n3_ : Aside0 (Below w.heap.size w ((((((w71.setCell ⟨gb601, 0, none⟩ (.int .i64 t594)).setCell ⟨gb601, 1, none⟩ (.int .i64 t595)).setCell ⟨gb601, 2, none⟩ (.int .i64 t596)).setCell ⟨gb601, 3, none⟩ (.int .i64 t597)).setCell ⟨gb601, 4, none⟩ (.int .i64 t598)).setCell ⟨gb601, 5, none⟩ (.int .u64 t599))) := ⟨by repeat (first | (with_reducible first | exact HB.out | apply below_alloc | apply pw_below_drewN | apply below_drew1 | refine below_set ?_ GE586.out | refine below_set ?_ GE587.out | refine below_set ?_ GE601.out) | exact HB.out)⟩
        (try clear BK586)
        (try clear BK587)
        (try clear BK601)
        (try clear HB)
        generalize ((((((w71.setCell ⟨gb601, 0, none⟩ (.int .i64 t594)).setCell ⟨gb601, 1, none⟩ (.int .i64 t595)).setCell ⟨gb601, 2, none⟩ (.int .i64 t596)).setCell ⟨gb601, 3, none⟩ (.int .i64 t597)).setCell ⟨gb601, 4, none⟩ (.int .i64 t598)).setCell ⟨gb601, 5, none⟩ (.int .u64 t599)) = w78 at n0_ n1_ n2_ n3_ ⊢
        have BK586 := n0_
        have BK587 := n1_
        have BK601 := n2_
        have HB := n3_
        clear n0_ n1_ n2_ n3_
        replace BK586 := Aside0.mk (blk_drew BK586.out)
        replace BK587 := Aside0.mk (blk_drew BK587.out)
        replace BK601 := Aside0.mk (blk_drew BK601.out)
        replace HB := Aside0.mk (below_drew1 HB.out)
        have p602 : 0 ≤ (x9_2 : Int) := of_decide_eq_true (by first | (with_reducible assumption) | assumption)
        have q602 : x9_2 < (l2.length : Int) := of_decide_eq_true (by first | (with_reducible assumption) | assumption)
        obtain ⟨ad602, e602, hx602_0⟩ := Kd.at_int HR2.out x9_2 p602 q602
        have hw602_0 := hx602_0
        obtain rfl : ad593 = ad602 := (by injection e602)
        replace hx602_0 := (HB.out.cell (World.block_lt_of_cell? w _ hx602_0)).trans hx602_0
        replace p602 := eq_true p602
        replace q602 := eq_true q602
        refine start_ (n := 12) (S := fun w' => w'.cell? ⟨gb587, 0, none⟩ = some (.int .i64 x588000_2) ∧ w'.cell? ⟨gb587, 1, none⟩ = some (.int .i64 x588001_2) ∧ w'.cell? ⟨gb587, 2, none⟩ = some (.int .i64 x588002_2) ∧ w'.cell? ⟨gb587, 3, none⟩ = some (.int .i64 x588003_2) ∧ w'.cell? ⟨gb587, 4, none⟩ = some (.int .i64 x588004_2) ∧ w'.cell? ⟨gb587, 5, none⟩ = some (.int .u64 x588005_2) ∧ w'.cell? (ad593.add (x9_2).toNat) = some (.int .u64 (rd l2 x9_2))) (ds := []) #[false, false, false, false, false, false, false, false, false, false, false, false] (by kernel_rfl) rfl rfl ⟨(blk_cell BK587.out 0).trans rfl, (blk_cell BK587.out 1).trans rfl, (blk_cell BK587.out 2).trans rfl, (blk_cell BK587.out 3).trans rfl, (blk_cell BK587.out 4).trans rfl, (blk_cell BK587.out 5).trans rfl, ((HB.out.cell (World.block_lt_of_cell? w _ hw602_0)).trans hw602_0)⟩ (fun hHeld => ?_); refine with_tabW spigotlaw03_BucketMore.tab8 spigotlaw03_BucketMore.bits8 (fun HT_ HW_ => ?_)
        generalize w78.drew = w79 at BK586 BK587 BK601 HB hx602_0 hHeld ⊢
        refine pure_ (i := 1) (N := some 70) (v := ?_) (a' := ?_) #[false, true, false, false, false, false, false, false, false, false, false, false] rfl rfl (any_of HT_.out (by kernel_rfl)) (fun _ _ _ h => h) (Or.inl ⟨by rfl, ?_⟩) ?_ ?_
        rotate_left
        ·intro w'
         go_simp
         with_reducible rfl
        rotate_left
        ·simp only [Act.put, List.setIfInBounds_toArray, List.set_cons_zero, List.set_cons_succ, i64_w, i32_w]
         rfl
        refine pure_ (i := 2) (N := some 71) (v := ?_) (a' := ?_) #[false, true, true, false, false, false, false, false, false, false, false, false] rfl rfl (any_of HT_.out (by kernel_rfl)) (fun _ _ _ h => h) (Or.inl ⟨by rfl, ?_⟩) ?_ ?_
        rotate_left
        ·intro w'
         go_simp
         with_reducible rfl
        rotate_left
        ·simp only [Act.put, List.setIfInBounds_toArray, List.set_cons_zero, List.set_cons_succ, i64_w, i32_w]
         rfl
        refine pure_ (i := 3) (N := some 72) (v := ?_) (a' := ?_) #[false, true, true, true, false, false, false, false, false, false, false, false] rfl rfl (any_of HT_.out (by kernel_rfl)) (fun _ _ _ h => h) (Or.inl ⟨by rfl, ?_⟩) ?_ ?_
        rotate_left
        ·intro w'
         go_simp
         with_reducible rfl
        rotate_left
        ·simp only [Act.put, List.setIfInBounds_toArray, List.set_cons_zero, List.set_cons_succ, i64_w, i32_w]
         rfl
        refine take_ (i := 0) (N := some 69) (v := ?_) (a' := ?_) #[true, true, true, true, false, false, false, false, false, false, false, false] rfl rfl (take_ofW HT_.out HW_.out (by kernel_rfl)) (fun _ _ _ h => h) (Or.inl ⟨by rfl, ?_⟩) hHeld ?_ ?_
        rotate_left
        ·rintro w' ⟨s0, s1, s2, s3, s4, s5, s6⟩
         go_simp
         with_reducible rfl
        rotate_left
        ·simp only [Act.put, List.setIfInBounds_toArray, List.set_cons_zero, List.set_cons_succ, i64_w, i32_w]
         rfl
        refine take_ (i := 4) (N := some 73) (v := ?_) (a' := ?_) #[true, true, true, true, true, false, false, false, false, false, false, false] rfl rfl (take_ofW HT_.out HW_.out (by kernel_rfl)) (fun _ _ _ h => h) (Or.inl ⟨by rfl, ?_⟩) hHeld ?_ ?_
        rotate_left
        ·rintro w' ⟨s0, s1, s2, s3, s4, s5, s6⟩
         go_simp
         with_reducible rfl
        rotate_left
        ·simp only [Act.put, List.setIfInBounds_toArray, List.set_cons_zero, List.set_cons_succ, i64_w, i32_w]
         rfl
        refine join_ (σ := Nat) 2 #[true, true, true, true, true, true, true, true, true, true, false, false] (fun s_ => [(74, .tuple #[.agg #[.int .i64 t603, .int .i64 t604, .int .i64 t605, .int .i64 t606, .int .i64 t607, .int .u64 t608], .int .i64 t609]), (12, .pointer (some ⟨s_, 0, none⟩)), (68, .tuple #[.agg #[.int .i64 t603, .int .i64 t604, .int .i64 t605, .int .i64 t606, .int .i64 t607, .int .u64 t608], .int .i64 t609]), (75, .agg #[.int .i64 t603, .int .i64 t604, .int .i64 t605, .int .i64 t606, .int .i64 t607, .int .u64 t608]), (76, .int .i64 t609)]) (fun s_ w' => (w'.cell? ⟨gb587, 0, none⟩ = some (.int .i64 x588000_2) ∧ w'.cell? ⟨gb587, 1, none⟩ = some (.int .i64 x588001_2) ∧ w'.cell? ⟨gb587, 2, none⟩ = some (.int .i64 x588002_2) ∧ w'.cell? ⟨gb587, 3, none⟩ = some (.int .i64 x588003_2) ∧ w'.cell? ⟨gb587, 4, none⟩ = some (.int .i64 x588004_2) ∧ w'.cell? ⟨gb587, 5, none⟩ = some (.int .u64 x588005_2) ∧ w'.cell? (ad593.add (x9_2).toNat) = some (.int .u64 (rd l2 x9_2))) ∧ (w'.heap[gb586]? = some (.cells #[.int .i64 x587000_2, .int .i64 x587001_2, .int .i64 x587002_2, .int .i64 x587003_2, .int .i64 x587004_2, .int .u64 x587005_2] 26 (0, 0))) ∧ (w'.heap[gb587]? = some (.cells #[.int .i64 x588000_2, .int .i64 x588001_2, .int .i64 x588002_2, .int .i64 x588003_2, .int .i64 x588004_2, .int .u64 x588005_2] 26 (0, 0))) ∧ (w'.heap[gb601]? = some (.cells #[.int .i64 t594, .int .i64 t595, .int .i64 t596, .int .i64 t597, .int .i64 t598, .int .u64 t599] 26 (0, 0))) ∧ (w'.heap[s_]? = some (.cells #[.int .i64 0, .int .i64 0, .int .i64 0, .int .i64 0, .int .i64 0, .int .u64 0] 26 (0, 0))) ∧ (w.heap.size ≤ s_) ∧ (w.heap.size ≤ s_) ∧ (gb586 ≠ s_) ∧ (s_ ≠ gb586) ∧ (gb587 ≠ s_) ∧ (s_ ≠ gb587) ∧ (gb601 ≠ s_) ∧ (s_ ≠ gb601) ∧ (Below w.heap.size w w')) ?_ ?_
        rotate_left
        ·intro hCont
         refine two_ (i := 5) (j := 9) (Ni := some 74) (Nj := some 12) #[true, true, true, true, true, true, false, false, false, false, false, false] #[true, true, true, true, true, false, false, false, false, true, false, false] rfl rfl rfl rfl (two_of HT_.out (by kernel_rfl)) (by decide) (by decide) (fun K hK => ?_) (fun K hK => ?_)
         ·skip
          refine goes_ Try.func12 (by kernel_rfl) rfl #[.agg #[.int .i64 x588000_2, .int .i64 x588001_2, .int .i64 x588002_2, .int .i64 x588003_2, .int .i64 x588004_2, .int .u64 x588005_2], .int .u64 (rd l2 x9_2)] (by rfl) rfl rfl (by (try simp only [List.map_toArray, List.map_cons, List.map_nil]); first | done | rfl | (simp only [List.length_drop, List.length_take]; rfl)) ?_
          with_reducible refine (bucket_Refill.calls k2 x588000_2 x588001_2 x588002_2 x588003_2 x588004_2 x588005_2 (rd l2 x9_2) t603 t604 t605 t606 t607 t608 t609 _ A58.out).mono ?_
          rintro e w80 ⟨rfl, hb⟩
          refine ⟨_, rfl, ?_⟩
          replace BK586 := bb_ BK586 hb
          replace BK587 := bb_ BK587 hb
          replace BK601 := bb_ BK601 hb
          replace HB := bs_ w hb
          (try clear hb)
          (try clear hb2)
          (try clear hk)
          (try clear hi)
          refine hK.out _ _ ⟨(blk_cell BK587.out 0).trans rfl, (blk_cell BK587.out 1).trans rfl, (blk_cell BK587.out 2).trans rfl, (blk_cell BK587.out 3).trans rfl, (blk_cell BK587.out 4).trans rfl, (blk_cell BK587.out 5).trans rfl, ((HB.out.cell (World.block_lt_of_cell? w _ hw602_0)).trans hw602_0)⟩ (fun hHeld => ?_)
          clear hK K
          refine norm_ (a' := ?_) ?_ ?_
          rotate_left
          ·show Act.put _ (some 74) _ = _
           simp only [Act.put, List.setIfInBounds_toArray, List.set_cons_zero, List.set_cons_succ, i64_w, i32_w]
           rfl
          refine pure_ (i := 6) (N := some 68) (v := ?_) (a' := ?_) #[true, true, true, true, true, true, true, false, false, false, false, false] rfl rfl (any_of HT_.out (by kernel_rfl)) (fun _ _ _ h => h) (Or.inl ⟨by rfl, ?_⟩) ?_ ?_
          rotate_left
          ·intro w'
           go_simp
           with_reducible rfl
          rotate_left
          ·simp only [Act.put, List.setIfInBounds_toArray, List.set_cons_zero, List.set_cons_succ, i64_w, i32_w]
           rfl
          refine pure_ (i := 7) (N := some 75) (v := ?_) (a' := ?_) #[true, true, true, true, true, true, true, true, false, false, false, false] rfl rfl (any_of HT_.out (by kernel_rfl)) (fun _ _ _ h => h) (Or.inl ⟨by rfl, ?_⟩) ?_ ?_
          rotate_left
          ·intro w'
           go_simp
           with_reducible rfl
          rotate_left
          ·simp only [Act.put, List.setIfInBounds_toArray, List.set_cons_zero, List.set_cons_succ, i64_w, i32_w]
           rfl
          refine pure_ (i := 8) (N := some 76) (v := ?_) (a' := ?_) #[true, true, true, true, true, true, true, true, true, false, false, false] rfl rfl (any_of HT_.out (by kernel_rfl)) (fun _ _ _ h => h) (Or.inl ⟨by rfl, ?_⟩) ?_ ?_
          rotate_left
          ·intro w'
           go_simp
           with_reducible rfl
          rotate_left
          ·simp only [Act.put, List.setIfInBounds_toArray, List.set_cons_zero, List.set_cons_succ, i64_w, i32_w]
           rfl
          refine one_ (i := 9) (N := some 12) #[true, true, true, true, true, true, true, true, true, true, false, false] rfl rfl (one_of HT_.out (by kernel_rfl)) (by decide) (fun K hK => ?_)
          refine box_step ?hg (N := 12) ?hd (cs := #[.int .i64 0, .int .i64 0, .int .i64 0, .int .i64 0, .int .i64 0, .int .u64 0]) (t := 26) ?hr ?_; (case hd => rfl); (case hg => rfl); (case hr => first | (go_simp; done) | (go_simp; rfl))
          intro gb610 hg w81 hbox hb
          have BK610 := Aside0.mk (hbox)
          have GW610 := bz_ w hg
          have GE610 := GW610
          have NB586_610 := bn_ BK586 hg
          have NB610_586 := bm_ BK586 hg
          have NB587_610 := bn_ BK587 hg
          have NB610_587 := bm_ BK587 hg
          have NB601_610 := bn_ BK601 hg
          have NB610_601 := bm_ BK601 hg
          replace BK586 := bb_ BK586 hb
          replace BK587 := bb_ BK587 hb
          replace BK601 := bb_ BK601 hb
          replace HB := bs_ w hb
          clear hb hbox hg
          refine hK.out _ _ ⟨(blk_cell BK587.out 0).trans rfl, (blk_cell BK587.out 1).trans rfl, (blk_cell BK587.out 2).trans rfl, (blk_cell BK587.out 3).trans rfl, (blk_cell BK587.out 4).trans rfl, (blk_cell BK587.out 5).trans rfl, ((HB.out.cell (World.block_lt_of_cell? w _ hw602_0)).trans hw602_0)⟩ (fun hHeld => ?_)
          clear hK K
          refine norm_ (a' := ?_) ?_ ?_
          rotate_left
          ·show Act.put _ (some 12) _ = _
           simp only [Act.put, List.setIfInBounds_toArray, List.set_cons_zero, List.set_cons_succ, i64_w, i32_w]
           rfl
          exact norm_ (by simp only [putAll, Act.put, List.setIfInBounds_toArray, List.set_cons_zero, List.set_cons_succ]) (hCont (gb610) _ ⟨hHeld, (bq_ BK586), (bq_ BK587), (bq_ BK601), (bq_ BK610), GW610.out, GE610.out, NB586_610.out, NB610_586.out, NB587_610.out, NB610_587.out, NB601_610.out, NB610_601.out, (by repeat (first | (with_reducible first | exact HB.out | apply below_alloc | apply pw_below_drewN | apply below_drew1 | refine below_set ?_ (Aside0.out (by assumption))) | exact HB.out))⟩)
         ·skip
          refine box_step ?hg (N := 12) ?hd (cs := #[.int .i64 0, .int .i64 0, .int .i64 0, .int .i64 0, .int .i64 0, .int .u64 0]) (t := 26) ?hr ?_; (case hd => rfl); (case hg => rfl); (case hr => first | (go_simp; done) | (go_simp; rfl))
          intro gb610 hg w80 hbox hb
          have BK610 := Aside0.mk (hbox)
          have GW610 := bz_ w hg
          have GE610 := GW610
          have NB586_610 := bn_ BK586 hg
          have NB610_586 := bm_ BK586 hg
          have NB587_610 := bn_ BK587 hg
          have NB610_587 := bm_ BK587 hg
          have NB601_610 := bn_ BK601 hg
          have NB610_601 := bm_ BK601 hg
          replace BK586 := bb_ BK586 hb
          replace BK587 := bb_ BK587 hb
          replace BK601 := bb_ BK601 hb
          replace HB := bs_ w hb
          clear hb hbox hg
          refine hK.out _ _ ⟨(blk_cell BK587.out 0).trans rfl, (blk_cell BK587.out 1).trans rfl, (blk_cell BK587.out 2).trans rfl, (blk_cell BK587.out 3).trans rfl, (blk_cell BK587.out 4).trans rfl, (blk_cell BK587.out 5).trans rfl, ((HB.out.cell (World.block_lt_of_cell? w _ hw602_0)).trans hw602_0)⟩ (fun hHeld => ?_)
          clear hK K
          refine norm_ (a' := ?_) ?_ ?_
          rotate_left
          ·show Act.put _ (some 12) _ = _
           simp only [Act.put, List.setIfInBounds_toArray, List.set_cons_zero, List.set_cons_succ, i64_w, i32_w]
           rfl
          refine one_ (i := 5) (N := some 74) #[true, true, true, true, true, true, false, false, false, true, false, false] rfl rfl (one_of HT_.out (by kernel_rfl)) (by decide) (fun K hK => ?_)
          refine goes_ Try.func12 (by kernel_rfl) rfl #[.agg #[.int .i64 x588000_2, .int .i64 x588001_2, .int .i64 x588002_2, .int .i64 x588003_2, .int .i64 x588004_2, .int .u64 x588005_2], .int .u64 (rd l2 x9_2)] (by rfl) rfl rfl (by (try simp only [List.map_toArray, List.map_cons, List.map_nil]); first | done | rfl | (simp only [List.length_drop, List.length_take]; rfl)) ?_
          with_reducible refine (bucket_Refill.calls k2 x588000_2 x588001_2 x588002_2 x588003_2 x588004_2 x588005_2 (rd l2 x9_2) t603 t604 t605 t606 t607 t608 t609 _ A58.out).mono ?_
          rintro e w81 ⟨rfl, hb⟩
          refine ⟨_, rfl, ?_⟩
          replace BK586 := bb_ BK586 hb
          replace BK587 := bb_ BK587 hb
          replace BK601 := bb_ BK601 hb
          replace BK610 := bb_ BK610 hb
          replace HB := bs_ w hb
          (try clear hb)
          (try clear hb2)
          (try clear hk)
          (try clear hi)
          refine hK.out _ _ ⟨(blk_cell BK587.out 0).trans rfl, (blk_cell BK587.out 1).trans rfl, (blk_cell BK587.out 2).trans rfl, (blk_cell BK587.out 3).trans rfl, (blk_cell BK587.out 4).trans rfl, (blk_cell BK587.out 5).trans rfl, ((HB.out.cell (World.block_lt_of_cell? w _ hw602_0)).trans hw602_0)⟩ (fun hHeld => ?_)
          clear hK K
          refine norm_ (a' := ?_) ?_ ?_
          rotate_left
          ·show Act.put _ (some 74) _ = _
           simp only [Act.put, List.setIfInBounds_toArray, List.set_cons_zero, List.set_cons_succ, i64_w, i32_w]
           rfl
          refine pure_ (i := 6) (N := some 68) (v := ?_) (a' := ?_) #[true, true, true, true, true, true, true, false, false, true, false, false] rfl rfl (any_of HT_.out (by kernel_rfl)) (fun _ _ _ h => h) (Or.inl ⟨by rfl, ?_⟩) ?_ ?_
          rotate_left
          ·intro w'
           go_simp
           with_reducible rfl
          rotate_left
          ·simp only [Act.put, List.setIfInBounds_toArray, List.set_cons_zero, List.set_cons_succ, i64_w, i32_w]
           rfl
          refine pure_ (i := 7) (N := some 75) (v := ?_) (a' := ?_) #[true, true, true, true, true, true, true, true, false, true, false, false] rfl rfl (any_of HT_.out (by kernel_rfl)) (fun _ _ _ h => h) (Or.inl ⟨by rfl, ?_⟩) ?_ ?_
          rotate_left
          ·intro w'
           go_simp
           with_reducible rfl
          rotate_left
          ·simp only [Act.put, List.setIfInBounds_toArray, List.set_cons_zero, List.set_cons_succ, i64_w, i32_w]
           rfl
          refine pure_ (i := 8) (N := some 76) (v := ?_) (a' := ?_) #[true, true, true, true, true, true, true, true, true, true, false, false] rfl rfl (any_of HT_.out (by kernel_rfl)) (fun _ _ _ h => h) (Or.inl ⟨by rfl, ?_⟩) ?_ ?_
          rotate_left
          ·intro w'
           go_simp
           with_reducible rfl
          rotate_left
          ·simp only [Act.put, List.setIfInBounds_toArray, List.set_cons_zero, List.set_cons_succ, i64_w, i32_w]
           rfl
          exact norm_ (by simp only [putAll, Act.put, List.setIfInBounds_toArray, List.set_cons_zero, List.set_cons_succ]) (hCont (gb610) _ ⟨hHeld, (bq_ BK586), (bq_ BK587), (bq_ BK601), (bq_ BK610), GW610.out, GE610.out, NB586_610.out, NB610_586.out, NB587_610.out, NB610_587.out, NB601_610.out, NB610_601.out, (by repeat (first | (with_reducible first | exact HB.out | apply below_alloc | apply pw_below_drewN | apply below_drew1 | refine below_set ?_ (Aside0.out (by assumption))) | exact HB.out))⟩)
        rintro gb610 w82 ⟨hS_, h0_, h1_, h2_, h3_, h4_, h5_, h6_, h7_, h8_, h9_, h10_, h11_, h12_⟩
        have BK610 : Aside0 (w82.heap[gb610]? = some (.cells #[.int .i64 0, .int .i64 0, .int .i64 0, .int .i64 0, .int .i64 0, .int .u64 0] 26 (0, 0))) := ⟨h3_⟩
        have GW610 : Aside0 (w.heap.size ≤ gb610) := ⟨h4_⟩
        have GE610 : Aside0 (w.heap.size ≤ gb610) := ⟨h5_⟩
        have NB586_610 : Aside0 (gb586 ≠ gb610) := ⟨h6_⟩
        have NB610_586 : Aside0 (gb610 ≠ gb586) := ⟨h7_⟩
        have NB587_610 : Aside0 (gb587 ≠ gb610) := ⟨h8_⟩
        have NB610_587 : Aside0 (gb610 ≠ gb587) := ⟨h9_⟩
        have NB601_610 : Aside0 (gb601 ≠ gb610) := ⟨h10_⟩
        have NB610_601 : Aside0 (gb610 ≠ gb601) := ⟨h11_⟩
        replace BK586 : Aside0 (w82.heap[gb586]? = some (.cells #[.int .i64 x587000_2, .int .i64 x587001_2, .int .i64 x587002_2, .int .i64 x587003_2, .int .i64 x587004_2, .int .u64 x587005_2] 26 (0, 0))) := ⟨h0_⟩
        replace BK587 : Aside0 (w82.heap[gb587]? = some (.cells #[.int .i64 x588000_2, .int .i64 x588001_2, .int .i64 x588002_2, .int .i64 x588003_2, .int .i64 x588004_2, .int .u64 x588005_2] 26 (0, 0))) := ⟨h1_⟩
        replace BK601 : Aside0 (w82.heap[gb601]? = some (.cells #[.int .i64 t594, .int .i64 t595, .int .i64 t596, .int .i64 t597, .int .i64 t598, .int .u64 t599] 26 (0, 0))) := ⟨h2_⟩
        replace HB : Aside0 (Below w.heap.size w w82) := ⟨h12_⟩
        clear h0_ h1_ h2_ h3_ h4_ h5_ h6_ h7_ h8_ h9_ h10_ h11_ h12_
        have hHeld : w82.cell? ⟨gb587, 0, none⟩ = some (.int .i64 x588000_2) ∧ w82.cell? ⟨gb587, 1, none⟩ = some (.int .i64 x588001_2) ∧ w82.cell? ⟨gb587, 2, none⟩ = some (.int .i64 x588002_2) ∧ w82.cell? ⟨gb587, 3, none⟩ = some (.int .i64 x588003_2) ∧ w82.cell? ⟨gb587, 4, none⟩ = some (.int .i64 x588004_2) ∧ w82.cell? ⟨gb587, 5, none⟩ = some (.int .u64 x588005_2) ∧ w82.cell? (ad593.add (x9_2).toNat) = some (.int .u64 (rd l2 x9_2)) := hS_
        refine norm_ (a' := ?_) ?_ ?_
        rotate_left
        ·simp only [putAll, Act.put, List.setIfInBounds_toArray, List.set_cons_zero, List.set_cons_succ]
         rfl
        refine one_ (i := 10) (N := none) #[true, true, true, true, true, true, true, true, true, true, true, false] rfl rfl (one_of HT_.out (by kernel_rfl)) (by decide) (fun K hK => ?_)
        have hs83 : w82.cell? ⟨gb610, 0, none⟩ = some (.int .i64 0) := (blk_cell BK610.out 0).trans rfl
        have hfs83 := blk_frozen BK610.out 0
        have hns83_0 := NB586_610.out
        have hns83_1 := NB587_610.out
        have hns83_2 := NB601_610.out
        have hms83_0 := NB610_586.out
        have hms83_1 := NB610_587.out
        have hms83_2 := NB610_601.out
        have hs84 : w82.cell? ⟨gb610, 1, none⟩ = some (.int .i64 0) := (blk_cell BK610.out 1).trans rfl
        have hfs84 := blk_frozen BK610.out 1
        have hns84_0 := NB586_610.out
        have hns84_1 := NB587_610.out
        have hns84_2 := NB601_610.out
        have hms84_0 := NB610_586.out
        have hms84_1 := NB610_587.out
        have hms84_2 := NB610_601.out
        have hs85 : w82.cell? ⟨gb610, 2, none⟩ = some (.int .i64 0) := (blk_cell BK610.out 2).trans rfl
        have hfs85 := blk_frozen BK610.out 2
        have hns85_0 := NB586_610.out
        have hns85_1 := NB587_610.out
        have hns85_2 := NB601_610.out
        have hms85_0 := NB610_586.out
        have hms85_1 := NB610_587.out
        have hms85_2 := NB610_601.out
        have hs86 : w82.cell? ⟨gb610, 3, none⟩ = some (.int .i64 0) := (blk_cell BK610.out 3).trans rfl
        have hfs86 := blk_frozen BK610.out 3
        have hns86_0 := NB586_610.out
        have hns86_1 := NB587_610.out
        have hns86_2 := NB601_610.out
        have hms86_0 := NB610_586.out
        have hms86_1 := NB610_587.out
        have hms86_2 := NB610_601.out
        have hs87 : w82.cell? ⟨gb610, 4, none⟩ = some (.int .i64 0) := (blk_cell BK610.out 4).trans rfl
        have hfs87 := blk_frozen BK610.out 4
        have hns87_0 := NB586_610.out
        have hns87_1 := NB587_610.out
        have hns87_2 := NB601_610.out
        have hms87_0 := NB610_586.out
        have hms87_1 := NB610_587.out
        have hms87_2 := NB610_601.out
        have hs88 : w82.cell? ⟨gb610, 5, none⟩ = some (.int .u64 0) := (blk_cell BK610.out 5).trans rfl
        have hfs88 := blk_frozen BK610.out 5
        have hns88_0 := NB586_610.out
        have hns88_1 := NB587_610.out
        have hns88_2 := NB601_610.out
        have hms88_0 := NB610_586.out
        have hms88_1 := NB610_587.out
        have hms88_2 := NB610_601.out
        refine skip_ (w1 := ?_) (by rfl) rfl ?_ ?_
        rotate_left
        ·go_simp
         rfl
        refine hK.out _ _ ⟨((cell_far (p := ⟨gb610, _, none⟩) NB587_610.out _).trans (((cell_far (p := ⟨gb610, _, none⟩) NB587_610.out _).trans (((cell_far (p := ⟨gb610, _, none⟩) NB587_610.out _).trans (((cell_far (p := ⟨gb610, _, none⟩) NB587_610.out _).trans (((cell_far (p := ⟨gb610, _, none⟩) NB587_610.out _).trans (((cell_far (p := ⟨gb610, _, none⟩) NB587_610.out _).trans (hHeld.1)))))))))))), ((cell_far (p := ⟨gb610, _, none⟩) NB587_610.out _).trans (((cell_far (p := ⟨gb610, _, none⟩) NB587_610.out _).trans (((cell_far (p := ⟨gb610, _, none⟩) NB587_610.out _).trans (((cell_far (p := ⟨gb610, _, none⟩) NB587_610.out _).trans (((cell_far (p := ⟨gb610, _, none⟩) NB587_610.out _).trans (((cell_far (p := ⟨gb610, _, none⟩) NB587_610.out _).trans (hHeld.2.1)))))))))))), ((cell_far (p := ⟨gb610, _, none⟩) NB587_610.out _).trans (((cell_far (p := ⟨gb610, _, none⟩) NB587_610.out _).trans (((cell_far (p := ⟨gb610, _, none⟩) NB587_610.out _).trans (((cell_far (p := ⟨gb610, _, none⟩) NB587_610.out _).trans (((cell_far (p := ⟨gb610, _, none⟩) NB587_610.out _).trans (((cell_far (p := ⟨gb610, _, none⟩) NB587_610.out _).trans (hHeld.2.2.1)))))))))))), ((cell_far (p := ⟨gb610, _, none⟩) NB587_610.out _).trans (((cell_far (p := ⟨gb610, _, none⟩) NB587_610.out _).trans (((cell_far (p := ⟨gb610, _, none⟩) NB587_610.out _).trans (((cell_far (p := ⟨gb610, _, none⟩) NB587_610.out _).trans (((cell_far (p := ⟨gb610, _, none⟩) NB587_610.out _).trans (((cell_far (p := ⟨gb610, _, none⟩) NB587_610.out _).trans (hHeld.2.2.2.1)))))))))))), ((cell_far (p := ⟨gb610, _, none⟩) NB587_610.out _).trans (((cell_far (p := ⟨gb610, _, none⟩) NB587_610.out _).trans (((cell_far (p := ⟨gb610, _, none⟩) NB587_610.out _).trans (((cell_far (p := ⟨gb610, _, none⟩) NB587_610.out _).trans (((cell_far (p := ⟨gb610, _, none⟩) NB587_610.out _).trans (((cell_far (p := ⟨gb610, _, none⟩) NB587_610.out _).trans (hHeld.2.2.2.2.1)))))))))))), ((cell_far (p := ⟨gb610, _, none⟩) NB587_610.out _).trans (((cell_far (p := ⟨gb610, _, none⟩) NB587_610.out _).trans (((cell_far (p := ⟨gb610, _, none⟩) NB587_610.out _).trans (((cell_far (p := ⟨gb610, _, none⟩) NB587_610.out _).trans (((cell_far (p := ⟨gb610, _, none⟩) NB587_610.out _).trans (((cell_far (p := ⟨gb610, _, none⟩) NB587_610.out _).trans (hHeld.2.2.2.2.2.1)))))))))))), ((cell_far (p := ⟨gb610, _, none⟩) (by first | exact Nat.ne_of_lt (Nat.lt_of_lt_of_le (by have := World.block_lt_of_cell? _ _ hw602_0; first | rwa [add_block] at this | exact this) GW610.out) | (rw [add_block]; exact Nat.ne_of_lt (Nat.lt_of_lt_of_le (by have := World.block_lt_of_cell? _ _ hw602_0; first | rwa [add_block] at this | exact this) GW610.out)) | (show (Addr.add _ _).block ≠ _; rw [add_block]; exact Nat.ne_of_lt (Nat.lt_of_lt_of_le (by have := World.block_lt_of_cell? _ _ hw602_0; first | rwa [add_block] at this | exact this) GW610.out)) | (dsimp only; exact Nat.ne_of_lt (Nat.lt_of_lt_of_le (by have := World.block_lt_of_cell? _ _ hw602_0; first | rwa [add_block] at this | exact this) GW610.out))) _).trans (((cell_far (p := ⟨gb610, _, none⟩) (by first | exact Nat.ne_of_lt (Nat.lt_of_lt_of_le (by have := World.block_lt_of_cell? _ _ hw602_0; first | rwa [add_block] at this | exact this) GW610.out) | (rw [add_block]; exact Nat.ne_of_lt (Nat.lt_of_lt_of_le (by have := World.block_lt_of_cell? _ _ hw602_0; first | rwa [add_block] at this | exact this) GW610.out)) | (show (Addr.add _ _).block ≠ _; rw [add_block]; exact Nat.ne_of_lt (Nat.lt_of_lt_of_le (by have := World.block_lt_of_cell? _ _ hw602_0; first | rwa [add_block] at this | exact this) GW610.out)) | (dsimp only; exact Nat.ne_of_lt (Nat.lt_of_lt_of_le (by have := World.block_lt_of_cell? _ _ hw602_0; first | rwa [add_block] at this | exact this) GW610.out))) _).trans (((cell_far (p := ⟨gb610, _, none⟩) (by first | exact Nat.ne_of_lt (Nat.lt_of_lt_of_le (by have := World.block_lt_of_cell? _ _ hw602_0; first | rwa [add_block] at this | exact this) GW610.out) | (rw [add_block]; exact Nat.ne_of_lt (Nat.lt_of_lt_of_le (by have := World.block_lt_of_cell? _ _ hw602_0; first | rwa [add_block] at this | exact this) GW610.out)) | (show (Addr.add _ _).block ≠ _; rw [add_block]; exact Nat.ne_of_lt (Nat.lt_of_lt_of_le (by have := World.block_lt_of_cell? _ _ hw602_0; first | rwa [add_block] at this | exact this) GW610.out)) | (dsimp only; exact Nat.ne_of_lt (Nat.lt_of_lt_of_le (by have := World.block_lt_of_cell? _ _ hw602_0; first | rwa [add_block] at this | exact this) GW610.out))) _).trans (((cell_far (p := ⟨gb610, _, none⟩) (by first | exact Nat.ne_of_lt (Nat.lt_of_lt_of_le (by have := World.block_lt_of_cell? _ _ hw602_0; first | rwa [add_block] at this | exact this) GW610.out) | (rw [add_block]; exact Nat.ne_of_lt (Nat.lt_of_lt_of_le (by have := World.block_lt_of_cell? _ _ hw602_0; first | rwa [add_block] at this | exact this) GW610.out)) | (show (Addr.add _ _).block ≠ _; rw [add_block]; exact Nat.ne_of_lt (Nat.lt_of_lt_of_le (by have := World.block_lt_of_cell? _ _ hw602_0; first | rwa [add_block] at this | exact this) GW610.out)) | (dsimp only; exact Nat.ne_of_lt (Nat.lt_of_lt_of_le (by have := World.block_lt_of_cell? _ _ hw602_0; first | rwa [add_block] at this | exact this) GW610.out))) _).trans (((cell_far (p := ⟨gb610, _, none⟩) (by first | exact Nat.ne_of_lt (Nat.lt_of_lt_of_le (by have := World.block_lt_of_cell? _ _ hw602_0; first | rwa [add_block] at this | exact this) GW610.out) | (rw [add_block]; exact Nat.ne_of_lt (Nat.lt_of_lt_of_le (by have := World.block_lt_of_cell? _ _ hw602_0; first | rwa [add_block] at this | exact this) GW610.out)) | (show (Addr.add _ _).block ≠ _; rw [add_block]; exact Nat.ne_of_lt (Nat.lt_of_lt_of_le (by have := World.block_lt_of_cell? _ _ hw602_0; first | rwa [add_block] at this | exact this) GW610.out)) | (dsimp only; exact Nat.ne_of_lt (Nat.lt_of_lt_of_le (by have := World.block_lt_of_cell? _ _ hw602_0; first | rwa [add_block] at this | exact this) GW610.out))) _).trans (((cell_far (p := ⟨gb610, _, none⟩) (by first | exact Nat.ne_of_lt (Nat.lt_of_lt_of_le (by have := World.block_lt_of_cell? _ _ hw602_0; first | rwa [add_block] at this | exact this) GW610.out) | (rw [add_block]; exact Nat.ne_of_lt (Nat.lt_of_lt_of_le (by have := World.block_lt_of_cell? _ _ hw602_0; first | rwa [add_block] at this | exact this) GW610.out)) | (show (Addr.add _ _).block ≠ _; rw [add_block]; exact Nat.ne_of_lt (Nat.lt_of_lt_of_le (by have := World.block_lt_of_cell? _ _ hw602_0; first | rwa [add_block] at this | exact this) GW610.out)) | (dsimp only; exact Nat.ne_of_lt (Nat.lt_of_lt_of_le (by have := World.block_lt_of_cell? _ _ hw602_0; first | rwa [add_block] at this | exact this) GW610.out))) _).trans (hHeld.2.2.2.2.2.2))))))))))))⟩ (fun hHeld => ?_)
        clear hK K
        refine pure_ (i := 11) (N := some 13) (v := ?_) (a' := ?_) #[true, true, true, true, true, true, true, true, true, true, true, true] rfl rfl (any_of HT_.out (by kernel_rfl)) (fun _ _ _ h => h) (Or.inl ⟨by rfl, ?_⟩) ?_ ?_
        rotate_left
        ·intro w'
         go_simp
         with_reducible rfl
        rotate_left
        ·simp only [Act.put, List.setIfInBounds_toArray, List.set_cons_zero, List.set_cons_succ, i64_w, i32_w]
         rfl
        refine done_ (done_of HT_.out (by kernel_rfl)) ?_
        have hnb89 := NB610_586.out
        have hnc89 := NB586_610.out
        have hnb90 := NB610_587.out
        have hnc90 := NB587_610.out
        have hnb91 := NB610_601.out
        have hnc91 := NB601_610.out
        have hcz92_0 : w82.cell? ⟨gb610, 0, none⟩ = some (.int .i64 0) := (blk_cell BK610.out 0).trans rfl
        have hcz92_1 : w82.cell? ⟨gb610, 1, none⟩ = some (.int .i64 0) := (blk_cell BK610.out 1).trans rfl
        have hcz92_2 : w82.cell? ⟨gb610, 2, none⟩ = some (.int .i64 0) := (blk_cell BK610.out 2).trans rfl
        have hcz92_3 : w82.cell? ⟨gb610, 3, none⟩ = some (.int .i64 0) := (blk_cell BK610.out 3).trans rfl
        have hcz92_4 : w82.cell? ⟨gb610, 4, none⟩ = some (.int .i64 0) := (blk_cell BK610.out 4).trans rfl
        have hcz92_5 : w82.cell? ⟨gb610, 5, none⟩ = some (.int .u64 0) := (blk_cell BK610.out 5).trans rfl
        have hfz92_0 := blk_frozen BK610.out 0
        have hfz92_1 := blk_frozen BK610.out 1
        have hfz92_2 := blk_frozen BK610.out 2
        have hfz92_3 := blk_frozen BK610.out 3
        have hfz92_4 := blk_frozen BK610.out 4
        have hfz92_5 := blk_frozen BK610.out 5
        have hnb93 := NB601_586.out
        have hnc93 := NB586_601.out
        have hnb94 := NB601_587.out
        have hnc94 := NB587_601.out
        have hcz95_0 : w82.cell? ⟨gb601, 0, none⟩ = some (.int .i64 t594) := (blk_cell BK601.out 0).trans rfl
        have hcz95_1 : w82.cell? ⟨gb601, 1, none⟩ = some (.int .i64 t595) := (blk_cell BK601.out 1).trans rfl
        have hcz95_2 : w82.cell? ⟨gb601, 2, none⟩ = some (.int .i64 t596) := (blk_cell BK601.out 2).trans rfl
        have hcz95_3 : w82.cell? ⟨gb601, 3, none⟩ = some (.int .i64 t597) := (blk_cell BK601.out 3).trans rfl
        have hcz95_4 : w82.cell? ⟨gb601, 4, none⟩ = some (.int .i64 t598) := (blk_cell BK601.out 4).trans rfl
        have hcz95_5 : w82.cell? ⟨gb601, 5, none⟩ = some (.int .u64 t599) := (blk_cell BK601.out 5).trans rfl
        have hfz95_0 := blk_frozen BK601.out 0
        have hfz95_1 := blk_frozen BK601.out 1
        have hfz95_2 := blk_frozen BK601.out 2
        have hfz95_3 := blk_frozen BK601.out 3
        have hfz95_4 := blk_frozen BK601.out 4
        have hfz95_5 := blk_frozen BK601.out 5
        try go_wp2_with (first | (go_at_call 28; (with_reducible refine (spigotlaw03_more.calls t603 t604 t605 t606 t607 t608 t594 t595 t596 t597 t598 t599 true _ A61.out).mono ?_); rintro e w96 ⟨rfl, hb⟩; replace BK586 := bf_ BK586 hb; replace BK587 := bf_ BK587 hb; replace BK601 := bf_ BK601 hb; replace BK610 := Aside0.mk (blk_below (g := gb610) (o := .cells #[.int .i64 t603, .int .i64 t604, .int .i64 t605, .int .i64 t606, .int .i64 t607, .int .u64 t608] 26 (0, 0)) (blk_put (cs := #[.int .i64 t603, .int .i64 t604, .int .i64 t605, .int .i64 t606, .int .i64 t607, .int .u64 0]) (blk_put (cs := #[.int .i64 t603, .int .i64 t604, .int .i64 t605, .int .i64 t606, .int .i64 0, .int .u64 0]) (blk_put (cs := #[.int .i64 t603, .int .i64 t604, .int .i64 t605, .int .i64 0, .int .i64 0, .int .u64 0]) (blk_put (cs := #[.int .i64 t603, .int .i64 t604, .int .i64 0, .int .i64 0, .int .i64 0, .int .u64 0]) (blk_put (cs := #[.int .i64 t603, .int .i64 0, .int .i64 0, .int .i64 0, .int .i64 0, .int .u64 0]) (blk_put (cs := #[.int .i64 0, .int .i64 0, .int .i64 0, .int .i64 0, .int .i64 0, .int .u64 0]) (bq_ BK610) 0 _ rfl) 1 _ rfl) 2 _ rfl) 3 _ rfl) 4 _ rfl) 5 _ rfl) hb); replace HB := bs_ w hb; (try clear hb); (try clear hb2); (try clear hk); (try clear hi); have hcz97_0 : w96.cell? ⟨gb601, 0, none⟩ = some (.int .i64 t594) := (blk_cell BK601.out 0).trans rfl; have hcz97_1 : w96.cell? ⟨gb601, 1, none⟩ = some (.int .i64 t595) := (blk_cell BK601.out 1).trans rfl; have hcz97_2 : w96.cell? ⟨gb601, 2, none⟩ = some (.int .i64 t596) := (blk_cell BK601.out 2).trans rfl; have hcz97_3 : w96.cell? ⟨gb601, 3, none⟩ = some (.int .i64 t597) := (blk_cell BK601.out 3).trans rfl; have hcz97_4 : w96.cell? ⟨gb601, 4, none⟩ = some (.int .i64 t598) := (blk_cell BK601.out 4).trans rfl; have hcz97_5 : w96.cell? ⟨gb601, 5, none⟩ = some (.int .u64 t599) := (blk_cell BK601.out 5).trans rfl; have hfz97_0 := blk_frozen BK601.out 0; have hfz97_1 := blk_frozen BK601.out 1; have hfz97_2 := blk_frozen BK601.out 2; have hfz97_3 := blk_frozen BK601.out 3; have hfz97_4 := blk_frozen BK601.out 4; have hfz97_5 := blk_frozen BK601.out 5; have hcz98_0 : w96.cell? ⟨gb610, 0, none⟩ = some (.int .i64 t603) := (blk_cell BK610.out 0).trans rfl; have hcz98_1 : w96.cell? ⟨gb610, 1, none⟩ = some (.int .i64 t604) := (blk_cell BK610.out 1).trans rfl; have hcz98_2 : w96.cell? ⟨gb610, 2, none⟩ = some (.int .i64 t605) := (blk_cell BK610.out 2).trans rfl; have hcz98_3 : w96.cell? ⟨gb610, 3, none⟩ = some (.int .i64 t606) := (blk_cell BK610.out 3).trans rfl; have hcz98_4 : w96.cell? ⟨gb610, 4, none⟩ = some (.int .i64 t607) := (blk_cell BK610.out 4).trans rfl; have hcz98_5 : w96.cell? ⟨gb610, 5, none⟩ = some (.int .u64 t608) := (blk_cell BK610.out 5).trans rfl; have hfz98_0 := blk_frozen BK610.out 0; have hfz98_1 := blk_frozen BK610.out 1; have hfz98_2 := blk_frozen BK610.out 2; have hfz98_3 := blk_frozen BK610.out 3; have hfz98_4 := blk_frozen BK610.out 4; have hfz98_5 := blk_frozen BK610.out 5))
        replace BK586 := Aside0.mk (blk_drew BK586.out)
        replace BK587 := Aside0.mk (blk_drew BK587.out)
        replace BK601 := Aside0.mk (blk_drew BK601.out)
        replace BK610 := Aside0.mk (blk_drew BK610.out)
        replace HB := Aside0.mk (below_drew1 HB.out)
        refine start_ (n := 4) (S := fun w' => w'.cell? ⟨gb601, 0, none⟩ = some (.int .i64 t594) ∧ w'.cell? ⟨gb601, 1, none⟩ = some (.int .i64 t595) ∧ w'.cell? ⟨gb601, 2, none⟩ = some (.int .i64 t596) ∧ w'.cell? ⟨gb601, 3, none⟩ = some (.int .i64 t597) ∧ w'.cell? ⟨gb601, 4, none⟩ = some (.int .i64 t598) ∧ w'.cell? ⟨gb601, 5, none⟩ = some (.int .u64 t599) ∧ w'.cell? ⟨gb610, 0, none⟩ = some (.int .i64 t603) ∧ w'.cell? ⟨gb610, 1, none⟩ = some (.int .i64 t604) ∧ w'.cell? ⟨gb610, 2, none⟩ = some (.int .i64 t605) ∧ w'.cell? ⟨gb610, 3, none⟩ = some (.int .i64 t606) ∧ w'.cell? ⟨gb610, 4, none⟩ = some (.int .i64 t607) ∧ w'.cell? ⟨gb610, 5, none⟩ = some (.int .u64 t608)) (ds := []) #[false, false, false, false] (by kernel_rfl) rfl rfl ⟨(blk_cell BK601.out 0).trans rfl, (blk_cell BK601.out 1).trans rfl, (blk_cell BK601.out 2).trans rfl, (blk_cell BK601.out 3).trans rfl, (blk_cell BK601.out 4).trans rfl, (blk_cell BK601.out 5).trans rfl, (blk_cell BK610.out 0).trans rfl, (blk_cell BK610.out 1).trans rfl, (blk_cell BK610.out 2).trans rfl, (blk_cell BK610.out 3).trans rfl, (blk_cell BK610.out 4).trans rfl, (blk_cell BK610.out 5).trans rfl⟩ (fun hHeld => ?_)
        generalize w96.drew = w99 at BK586 BK587 BK601 BK610 HB hHeld ⊢
        refine take_ (i := 0) (N := some 96) (v := ?_) (a' := ?_) #[true, false, false, false] rfl rfl (by kernel_rfl) (fun _ _ _ h => h) (Or.inl ⟨by rfl, ?_⟩) hHeld ?_ ?_
        rotate_left
        ·rintro w' ⟨s0, s1, s2, s3, s4, s5, s6, s7, s8, s9, s10, s11⟩
         go_simp
         with_reducible rfl
        rotate_left
        ·simp only [Act.put, List.setIfInBounds_toArray, List.set_cons_zero, List.set_cons_succ, i64_w, i32_w]
         rfl
        refine take_ (i := 1) (N := some 97) (v := ?_) (a' := ?_) #[true, true, false, false] rfl rfl (by kernel_rfl) (fun _ _ _ h => h) (Or.inl ⟨by rfl, ?_⟩) hHeld ?_ ?_
        rotate_left
        ·rintro w' ⟨s0, s1, s2, s3, s4, s5, s6, s7, s8, s9, s10, s11⟩
         go_simp
         with_reducible rfl
        rotate_left
        ·simp only [Act.put, List.setIfInBounds_toArray, List.set_cons_zero, List.set_cons_succ, i64_w, i32_w]
         rfl
        refine one_ (i := 2) (N := none) #[true, true, true, false] rfl rfl (by kernel_rfl) (by decide) (fun K hK => ?_)
        have hs100 : w99.cell? ⟨gb586, 0, none⟩ = some (.int .i64 x587000_2) := (blk_cell BK586.out 0).trans rfl
        have hfs100 := blk_frozen BK586.out 0
        have hns100_1 := NB587_586.out
        have hns100_2 := NB601_586.out
        have hns100_3 := NB610_586.out
        have hms100_1 := NB586_587.out
        have hms100_2 := NB586_601.out
        have hms100_3 := NB586_610.out
        have hs101 : w99.cell? ⟨gb586, 1, none⟩ = some (.int .i64 x587001_2) := (blk_cell BK586.out 1).trans rfl
        have hfs101 := blk_frozen BK586.out 1
        have hns101_1 := NB587_586.out
        have hns101_2 := NB601_586.out
        have hns101_3 := NB610_586.out
        have hms101_1 := NB586_587.out
        have hms101_2 := NB586_601.out
        have hms101_3 := NB586_610.out
        have hs102 : w99.cell? ⟨gb586, 2, none⟩ = some (.int .i64 x587002_2) := (blk_cell BK586.out 2).trans rfl
        have hfs102 := blk_frozen BK586.out 2
        have hns102_1 := NB587_586.out
        have hns102_2 := NB601_586.out
        have hns102_3 := NB610_586.out
        have hms102_1 := NB586_587.out
        have hms102_2 := NB586_601.out
        have hms102_3 := NB586_610.out
        have hs103 : w99.cell? ⟨gb586, 3, none⟩ = some (.int .i64 x587003_2) := (blk_cell BK586.out 3).trans rfl
        have hfs103 := blk_frozen BK586.out 3
        have hns103_1 := NB587_586.out
        have hns103_2 := NB601_586.out
        have hns103_3 := NB610_586.out
        have hms103_1 := NB586_587.out
        have hms103_2 := NB586_601.out
        have hms103_3 := NB586_610.out
        have hs104 : w99.cell? ⟨gb586, 4, none⟩ = some (.int .i64 x587004_2) := (blk_cell BK586.out 4).trans rfl
        have hfs104 := blk_frozen BK586.out 4
        have hns104_1 := NB587_586.out
        have hns104_2 := NB601_586.out
        have hns104_3 := NB610_586.out
        have hms104_1 := NB586_587.out
        have hms104_2 := NB586_601.out
        have hms104_3 := NB586_610.out
        have hs105 : w99.cell? ⟨gb586, 5, none⟩ = some (.int .u64 x587005_2) := (blk_cell BK586.out 5).trans rfl
        have hfs105 := blk_frozen BK586.out 5
        have hns105_1 := NB587_586.out
        have hns105_2 := NB601_586.out
        have hns105_3 := NB610_586.out
        have hms105_1 := NB586_587.out
        have hms105_2 := NB586_601.out
        have hms105_3 := NB586_610.out
        refine skip_ (w1 := ?_) (by rfl) rfl ?_ ?_
        rotate_left
        ·go_simp
         rfl
        refine hK.out _ _ ⟨((cell_far (p := ⟨gb586, _, none⟩) NB601_586.out _).trans (((cell_far (p := ⟨gb586, _, none⟩) NB601_586.out _).trans (((cell_far (p := ⟨gb586, _, none⟩) NB601_586.out _).trans (((cell_far (p := ⟨gb586, _, none⟩) NB601_586.out _).trans (((cell_far (p := ⟨gb586, _, none⟩) NB601_586.out _).trans (((cell_far (p := ⟨gb586, _, none⟩) NB601_586.out _).trans (hHeld.1)))))))))))), ((cell_far (p := ⟨gb586, _, none⟩) NB601_586.out _).trans (((cell_far (p := ⟨gb586, _, none⟩) NB601_586.out _).trans (((cell_far (p := ⟨gb586, _, none⟩) NB601_586.out _).trans (((cell_far (p := ⟨gb586, _, none⟩) NB601_586.out _).trans (((cell_far (p := ⟨gb586, _, none⟩) NB601_586.out _).trans (((cell_far (p := ⟨gb586, _, none⟩) NB601_586.out _).trans (hHeld.2.1)))))))))))), ((cell_far (p := ⟨gb586, _, none⟩) NB601_586.out _).trans (((cell_far (p := ⟨gb586, _, none⟩) NB601_586.out _).trans (((cell_far (p := ⟨gb586, _, none⟩) NB601_586.out _).trans (((cell_far (p := ⟨gb586, _, none⟩) NB601_586.out _).trans (((cell_far (p := ⟨gb586, _, none⟩) NB601_586.out _).trans (((cell_far (p := ⟨gb586, _, none⟩) NB601_586.out _).trans (hHeld.2.2.1)))))))))))), ((cell_far (p := ⟨gb586, _, none⟩) NB601_586.out _).trans (((cell_far (p := ⟨gb586, _, none⟩) NB601_586.out _).trans (((cell_far (p := ⟨gb586, _, none⟩) NB601_586.out _).trans (((cell_far (p := ⟨gb586, _, none⟩) NB601_586.out _).trans (((cell_far (p := ⟨gb586, _, none⟩) NB601_586.out _).trans (((cell_far (p := ⟨gb586, _, none⟩) NB601_586.out _).trans (hHeld.2.2.2.1)))))))))))), ((cell_far (p := ⟨gb586, _, none⟩) NB601_586.out _).trans (((cell_far (p := ⟨gb586, _, none⟩) NB601_586.out _).trans (((cell_far (p := ⟨gb586, _, none⟩) NB601_586.out _).trans (((cell_far (p := ⟨gb586, _, none⟩) NB601_586.out _).trans (((cell_far (p := ⟨gb586, _, none⟩) NB601_586.out _).trans (((cell_far (p := ⟨gb586, _, none⟩) NB601_586.out _).trans (hHeld.2.2.2.2.1)))))))))))), ((cell_far (p := ⟨gb586, _, none⟩) NB601_586.out _).trans (((cell_far (p := ⟨gb586, _, none⟩) NB601_586.out _).trans (((cell_far (p := ⟨gb586, _, none⟩) NB601_586.out _).trans (((cell_far (p := ⟨gb586, _, none⟩) NB601_586.out _).trans (((cell_far (p := ⟨gb586, _, none⟩) NB601_586.out _).trans (((cell_far (p := ⟨gb586, _, none⟩) NB601_586.out _).trans (hHeld.2.2.2.2.2.1)))))))))))), ((cell_far (p := ⟨gb586, _, none⟩) NB610_586.out _).trans (((cell_far (p := ⟨gb586, _, none⟩) NB610_586.out _).trans (((cell_far (p := ⟨gb586, _, none⟩) NB610_586.out _).trans (((cell_far (p := ⟨gb586, _, none⟩) NB610_586.out _).trans (((cell_far (p := ⟨gb586, _, none⟩) NB610_586.out _).trans (((cell_far (p := ⟨gb586, _, none⟩) NB610_586.out _).trans (hHeld.2.2.2.2.2.2.1)))))))))))), ((cell_far (p := ⟨gb586, _, none⟩) NB610_586.out _).trans (((cell_far (p := ⟨gb586, _, none⟩) NB610_586.out _).trans (((cell_far (p := ⟨gb586, _, none⟩) NB610_586.out _).trans (((cell_far (p := ⟨gb586, _, none⟩) NB610_586.out _).trans (((cell_far (p := ⟨gb586, _, none⟩) NB610_586.out _).trans (((cell_far (p := ⟨gb586, _, none⟩) NB610_586.out _).trans (hHeld.2.2.2.2.2.2.2.1)))))))))))), ((cell_far (p := ⟨gb586, _, none⟩) NB610_586.out _).trans (((cell_far (p := ⟨gb586, _, none⟩) NB610_586.out _).trans (((cell_far (p := ⟨gb586, _, none⟩) NB610_586.out _).trans (((cell_far (p := ⟨gb586, _, none⟩) NB610_586.out _).trans (((cell_far (p := ⟨gb586, _, none⟩) NB610_586.out _).trans (((cell_far (p := ⟨gb586, _, none⟩) NB610_586.out _).trans (hHeld.2.2.2.2.2.2.2.2.1)))))))))))), ((cell_far (p := ⟨gb586, _, none⟩) NB610_586.out _).trans (((cell_far (p := ⟨gb586, _, none⟩) NB610_586.out _).trans (((cell_far (p := ⟨gb586, _, none⟩) NB610_586.out _).trans (((cell_far (p := ⟨gb586, _, none⟩) NB610_586.out _).trans (((cell_far (p := ⟨gb586, _, none⟩) NB610_586.out _).trans (((cell_far (p := ⟨gb586, _, none⟩) NB610_586.out _).trans (hHeld.2.2.2.2.2.2.2.2.2.1)))))))))))), ((cell_far (p := ⟨gb586, _, none⟩) NB610_586.out _).trans (((cell_far (p := ⟨gb586, _, none⟩) NB610_586.out _).trans (((cell_far (p := ⟨gb586, _, none⟩) NB610_586.out _).trans (((cell_far (p := ⟨gb586, _, none⟩) NB610_586.out _).trans (((cell_far (p := ⟨gb586, _, none⟩) NB610_586.out _).trans (((cell_far (p := ⟨gb586, _, none⟩) NB610_586.out _).trans (hHeld.2.2.2.2.2.2.2.2.2.2.1)))))))))))), ((cell_far (p := ⟨gb586, _, none⟩) NB610_586.out _).trans (((cell_far (p := ⟨gb586, _, none⟩) NB610_586.out _).trans (((cell_far (p := ⟨gb586, _, none⟩) NB610_586.out _).trans (((cell_far (p := ⟨gb586, _, none⟩) NB610_586.out _).trans (((cell_far (p := ⟨gb586, _, none⟩) NB610_586.out _).trans (((cell_far (p := ⟨gb586, _, none⟩) NB610_586.out _).trans (hHeld.2.2.2.2.2.2.2.2.2.2.2))))))))))))⟩ (fun hHeld => ?_)
        clear hK K
        refine one_ (i := 3) (N := none) #[true, true, true, true] rfl rfl (by kernel_rfl) (by decide) (fun K hK => ?_)
        have hs106 : w99.cell? ⟨gb587, 0, none⟩ = some (.int .i64 x588000_2) := (blk_cell BK587.out 0).trans rfl
        have hfs106 := blk_frozen BK587.out 0
        have hns106_0 := NB586_587.out
        have hns106_2 := NB601_587.out
        have hns106_3 := NB610_587.out
        have hms106_0 := NB587_586.out
        have hms106_2 := NB587_601.out
        have hms106_3 := NB587_610.out
        have hs107 : w99.cell? ⟨gb587, 1, none⟩ = some (.int .i64 x588001_2) := (blk_cell BK587.out 1).trans rfl
        have hfs107 := blk_frozen BK587.out 1
        have hns107_0 := NB586_587.out
        have hns107_2 := NB601_587.out
        have hns107_3 := NB610_587.out
        have hms107_0 := NB587_586.out
        have hms107_2 := NB587_601.out
        have hms107_3 := NB587_610.out
        have hs108 : w99.cell? ⟨gb587, 2, none⟩ = some (.int .i64 x588002_2) := (blk_cell BK587.out 2).trans rfl
        have hfs108 := blk_frozen BK587.out 2
        have hns108_0 := NB586_587.out
        have hns108_2 := NB601_587.out
        have hns108_3 := NB610_587.out
        have hms108_0 := NB587_586.out
        have hms108_2 := NB587_601.out
        have hms108_3 := NB587_610.out
        have hs109 : w99.cell? ⟨gb587, 3, none⟩ = some (.int .i64 x588003_2) := (blk_cell BK587.out 3).trans rfl
        have hfs109 := blk_frozen BK587.out 3
        have hns109_0 := NB586_587.out
        have hns109_2 := NB601_587.out
        have hns109_3 := NB610_587.out
        have hms109_0 := NB587_586.out
        have hms109_2 := NB587_601.out
        have hms109_3 := NB587_610.out
        have hs110 : w99.cell? ⟨gb587, 4, none⟩ = some (.int .i64 x588004_2) := (blk_cell BK587.out 4).trans rfl
        have hfs110 := blk_frozen BK587.out 4
        have hns110_0 := NB586_587.out
        have hns110_2 := NB601_587.out
        have hns110_3 := NB610_587.out
        have hms110_0 := NB587_586.out
        have hms110_2 := NB587_601.out
        have hms110_3 := NB587_610.out
        have hs111 : w99.cell? ⟨gb587, 5, none⟩ = some (.int .u64 x588005_2) := (blk_cell BK587.out 5).trans rfl
        have hfs111 := blk_frozen BK587.out 5
        have hns111_0 := NB586_587.out
        have hns111_2 := NB601_587.out
        have hns111_3 := NB610_587.out
        have hms111_0 := NB587_586.out
        have hms111_2 := NB587_601.out
        have hms111_3 := NB587_610.out
        refine skip_ (w1 := ?_) (by rfl) rfl ?_ ?_
        rotate_left
        ·go_simp
         rfl
        refine hK.out _ _ ⟨((cell_far (p := ⟨gb587, _, none⟩) NB601_587.out _).trans (((cell_far (p := ⟨gb587, _, none⟩) NB601_587.out _).trans (((cell_far (p := ⟨gb587, _, none⟩) NB601_587.out _).trans (((cell_far (p := ⟨gb587, _, none⟩) NB601_587.out _).trans (((cell_far (p := ⟨gb587, _, none⟩) NB601_587.out _).trans (((cell_far (p := ⟨gb587, _, none⟩) NB601_587.out _).trans (hHeld.1)))))))))))), ((cell_far (p := ⟨gb587, _, none⟩) NB601_587.out _).trans (((cell_far (p := ⟨gb587, _, none⟩) NB601_587.out _).trans (((cell_far (p := ⟨gb587, _, none⟩) NB601_587.out _).trans (((cell_far (p := ⟨gb587, _, none⟩) NB601_587.out _).trans (((cell_far (p := ⟨gb587, _, none⟩) NB601_587.out _).trans (((cell_far (p := ⟨gb587, _, none⟩) NB601_587.out _).trans (hHeld.2.1)))))))))))), ((cell_far (p := ⟨gb587, _, none⟩) NB601_587.out _).trans (((cell_far (p := ⟨gb587, _, none⟩) NB601_587.out _).trans (((cell_far (p := ⟨gb587, _, none⟩) NB601_587.out _).trans (((cell_far (p := ⟨gb587, _, none⟩) NB601_587.out _).trans (((cell_far (p := ⟨gb587, _, none⟩) NB601_587.out _).trans (((cell_far (p := ⟨gb587, _, none⟩) NB601_587.out _).trans (hHeld.2.2.1)))))))))))), ((cell_far (p := ⟨gb587, _, none⟩) NB601_587.out _).trans (((cell_far (p := ⟨gb587, _, none⟩) NB601_587.out _).trans (((cell_far (p := ⟨gb587, _, none⟩) NB601_587.out _).trans (((cell_far (p := ⟨gb587, _, none⟩) NB601_587.out _).trans (((cell_far (p := ⟨gb587, _, none⟩) NB601_587.out _).trans (((cell_far (p := ⟨gb587, _, none⟩) NB601_587.out _).trans (hHeld.2.2.2.1)))))))))))), ((cell_far (p := ⟨gb587, _, none⟩) NB601_587.out _).trans (((cell_far (p := ⟨gb587, _, none⟩) NB601_587.out _).trans (((cell_far (p := ⟨gb587, _, none⟩) NB601_587.out _).trans (((cell_far (p := ⟨gb587, _, none⟩) NB601_587.out _).trans (((cell_far (p := ⟨gb587, _, none⟩) NB601_587.out _).trans (((cell_far (p := ⟨gb587, _, none⟩) NB601_587.out _).trans (hHeld.2.2.2.2.1)))))))))))), ((cell_far (p := ⟨gb587, _, none⟩) NB601_587.out _).trans (((cell_far (p := ⟨gb587, _, none⟩) NB601_587.out _).trans (((cell_far (p := ⟨gb587, _, none⟩) NB601_587.out _).trans (((cell_far (p := ⟨gb587, _, none⟩) NB601_587.out _).trans (((cell_far (p := ⟨gb587, _, none⟩) NB601_587.out _).trans (((cell_far (p := ⟨gb587, _, none⟩) NB601_587.out _).trans (hHeld.2.2.2.2.2.1)))))))))))), ((cell_far (p := ⟨gb587, _, none⟩) NB610_587.out _).trans (((cell_far (p := ⟨gb587, _, none⟩) NB610_587.out _).trans (((cell_far (p := ⟨gb587, _, none⟩) NB610_587.out _).trans (((cell_far (p := ⟨gb587, _, none⟩) NB610_587.out _).trans (((cell_far (p := ⟨gb587, _, none⟩) NB610_587.out _).trans (((cell_far (p := ⟨gb587, _, none⟩) NB610_587.out _).trans (hHeld.2.2.2.2.2.2.1)))))))))))), ((cell_far (p := ⟨gb587, _, none⟩) NB610_587.out _).trans (((cell_far (p := ⟨gb587, _, none⟩) NB610_587.out _).trans (((cell_far (p := ⟨gb587, _, none⟩) NB610_587.out _).trans (((cell_far (p := ⟨gb587, _, none⟩) NB610_587.out _).trans (((cell_far (p := ⟨gb587, _, none⟩) NB610_587.out _).trans (((cell_far (p := ⟨gb587, _, none⟩) NB610_587.out _).trans (hHeld.2.2.2.2.2.2.2.1)))))))))))), ((cell_far (p := ⟨gb587, _, none⟩) NB610_587.out _).trans (((cell_far (p := ⟨gb587, _, none⟩) NB610_587.out _).trans (((cell_far (p := ⟨gb587, _, none⟩) NB610_587.out _).trans (((cell_far (p := ⟨gb587, _, none⟩) NB610_587.out _).trans (((cell_far (p := ⟨gb587, _, none⟩) NB610_587.out _).trans (((cell_far (p := ⟨gb587, _, none⟩) NB610_587.out _).trans (hHeld.2.2.2.2.2.2.2.2.1)))))))))))), ((cell_far (p := ⟨gb587, _, none⟩) NB610_587.out _).trans (((cell_far (p := ⟨gb587, _, none⟩) NB610_587.out _).trans (((cell_far (p := ⟨gb587, _, none⟩) NB610_587.out _).trans (((cell_far (p := ⟨gb587, _, none⟩) NB610_587.out _).trans (((cell_far (p := ⟨gb587, _, none⟩) NB610_587.out _).trans (((cell_far (p := ⟨gb587, _, none⟩) NB610_587.out _).trans (hHeld.2.2.2.2.2.2.2.2.2.1)))))))))))), ((cell_far (p := ⟨gb587, _, none⟩) NB610_587.out _).trans (((cell_far (p := ⟨gb587, _, none⟩) NB610_587.out _).trans (((cell_far (p := ⟨gb587, _, none⟩) NB610_587.out _).trans (((cell_far (p := ⟨gb587, _, none⟩) NB610_587.out _).trans (((cell_far (p := ⟨gb587, _, none⟩) NB610_587.out _).trans (((cell_far (p := ⟨gb587, _, none⟩) NB610_587.out _).trans (hHeld.2.2.2.2.2.2.2.2.2.2.1)))))))))))), ((cell_far (p := ⟨gb587, _, none⟩) NB610_587.out _).trans (((cell_far (p := ⟨gb587, _, none⟩) NB610_587.out _).trans (((cell_far (p := ⟨gb587, _, none⟩) NB610_587.out _).trans (((cell_far (p := ⟨gb587, _, none⟩) NB610_587.out _).trans (((cell_far (p := ⟨gb587, _, none⟩) NB610_587.out _).trans (((cell_far (p := ⟨gb587, _, none⟩) NB610_587.out _).trans (hHeld.2.2.2.2.2.2.2.2.2.2.2))))))))))))⟩ (fun hHeld => ?_)
        clear hK K
        refine done_ (by kernel_rfl) ?_
        try go_wp2
        have n0_ : Aside0 (((((((((((((w99.setCell ⟨gb586, 0, none⟩ (.int .i64 t594)).setCell ⟨gb586, 1, none⟩ (.int .i64 t595)).setCell ⟨gb586, 2, none⟩ (.int .i64 t596)).setCell ⟨gb586, 3, none⟩ (.int .i64 t597)).setCell ⟨gb586, 4, none⟩ (.int .i64 t598)).setCell ⟨gb586, 5, none⟩ (.int .u64 t599)).setCell ⟨gb587, 0, none⟩ (.int .i64 t603)).setCell ⟨gb587, 1, none⟩ (.int .i64 t604)).setCell ⟨gb587, 2, none⟩ (.int .i64 t605)).setCell ⟨gb587, 3, none⟩ (.int .i64 t606)).setCell ⟨gb587, 4, none⟩ (.int .i64 t607)).setCell ⟨gb587, 5, none⟩ (.int .u64 t608)).heap[gb586]? = some (.cells #[.int .i64 t594, .int .i64 t595, .int .i64 t596, .int .i64 t597, .int .i64 t598, .int .u64 t599] 26 (0, 0))) := ⟨(blk_far (blk_far (blk_far (blk_far (blk_far (blk_far (blk_put (cs := #[.int .i64 t594, .int .i64 t595, .int .i64 t596, .int .i64 t597, .int .i64 t598, .int .u64 x587005_2]) (blk_put (cs := #[.int .i64 t594, .int .i64 t595, .int .i64 t596, .int .i64 t597, .int .i64 x587004_2, .int .u64 x587005_2]) (blk_put (cs := #[.int .i64 t594, .int .i64 t595, .int .i64 t596, .int .i64 x587003_2, .int .i64 x587004_2, .int .u64 x587005_2]) (blk_put (cs := #[.int .i64 t594, .int .i64 t595, .int .i64 x587002_2, .int .i64 x587003_2, .int .i64 x587004_2, .int .u64 x587005_2]) (blk_put (cs := #[.int .i64 t594, .int .i64 x587001_2, .int .i64 x587002_2, .int .i64 x587003_2, .int .i64 x587004_2, .int .u64 x587005_2]) (blk_put (cs := #[.int .i64 x587000_2, .int .i64 x587001_2, .int .i64 x587002_2, .int .i64 x587003_2, .int .i64 x587004_2, .int .u64 x587005_2]) (bq_ BK586) 0 _ rfl) 1 _ rfl) 2 _ rfl) 3 _ rfl) 4 _ rfl) 5 _ rfl) NB586_587.out _) NB586_587.out _) NB586_587.out _) NB586_587.out _) NB586_587.out _) NB586_587.out _)⟩
        have n1_ : Aside0 (((((((((((((w99.setCell ⟨gb586, 0, none⟩ (.int .i64 t594)).setCell ⟨gb586, 1, none⟩ (.int .i64 t595)).setCell ⟨gb586, 2, none⟩ (.int .i64 t596)).setCell ⟨gb586, 3, none⟩ (.int .i64 t597)).setCell ⟨gb586, 4, none⟩ (.int .i64 t598)).setCell ⟨gb586, 5, none⟩ (.int .u64 t599)).setCell ⟨gb587, 0, none⟩ (.int .i64 t603)).setCell ⟨gb587, 1, none⟩ (.int .i64 t604)).setCell ⟨gb587, 2, none⟩ (.int .i64 t605)).setCell ⟨gb587, 3, none⟩ (.int .i64 t606)).setCell ⟨gb587, 4, none⟩ (.int .i64 t607)).setCell ⟨gb587, 5, none⟩ (.int .u64 t608)).heap[gb587]? = some (.cells #[.int .i64 t603, .int .i64 t604, .int .i64 t605, .int .i64 t606, .int .i64 t607, .int .u64 t608] 26 (0, 0))) := ⟨(blk_put (cs := #[.int .i64 t603, .int .i64 t604, .int .i64 t605, .int .i64 t606, .int .i64 t607, .int .u64 x588005_2]) (blk_put (cs := #[.int .i64 t603, .int .i64 t604, .int .i64 t605, .int .i64 t606, .int .i64 x588004_2, .int .u64 x588005_2]) (blk_put (cs := #[.int .i64 t603, .int .i64 t604, .int .i64 t605, .int .i64 x588003_2, .int .i64 x588004_2, .int .u64 x588005_2]) (blk_put (cs := #[.int .i64 t603, .int .i64 t604, .int .i64 x588002_2, .int .i64 x588003_2, .int .i64 x588004_2, .int .u64 x588005_2]) (blk_put (cs := #[.int .i64 t603, .int .i64 x588001_2, .int .i64 x588002_2, .int .i64 x588003_2, .int .i64 x588004_2, .int .u64 x588005_2]) (blk_put (cs := #[.int .i64 x588000_2, .int .i64 x588001_2, .int .i64 x588002_2, .int .i64 x588003_2, .int .i64 x588004_2, .int .u64 x588005_2]) (blk_far (blk_far (blk_far (blk_far (blk_far (blk_far (bq_ BK587) NB587_586.out _) NB587_586.out _) NB587_586.out _) NB587_586.out _) NB587_586.out _) NB587_586.out _) 0 _ rfl) 1 _ rfl) 2 _ rfl) 3 _ rfl) 4 _ rfl) 5 _ rfl)⟩
        have n2_ : Aside0 (((((((((((((w99.setCell ⟨gb586, 0, none⟩ (.int .i64 t594)).setCell ⟨gb586, 1, none⟩ (.int .i64 t595)).setCell ⟨gb586, 2, none⟩ (.int .i64 t596)).setCell ⟨gb586, 3, none⟩ (.int .i64 t597)).setCell ⟨gb586, 4, none⟩ (.int .i64 t598)).setCell ⟨gb586, 5, none⟩ (.int .u64 t599)).setCell ⟨gb587, 0, none⟩ (.int .i64 t603)).setCell ⟨gb587, 1, none⟩ (.int .i64 t604)).setCell ⟨gb587, 2, none⟩ (.int .i64 t605)).setCell ⟨gb587, 3, none⟩ (.int .i64 t606)).setCell ⟨gb587, 4, none⟩ (.int .i64 t607)).setCell ⟨gb587, 5, none⟩ (.int .u64 t608)).heap[gb601]? = some (.cells #[.int .i64 t594, .int .i64 t595, .int .i64 t596, .int .i64 t597, .int .i64 t598, .int .u64 t599] 26 (0, 0))) := ⟨(blk_far (blk_far (blk_far (blk_far (blk_far (blk_far (blk_far (blk_far (blk_far (blk_far (blk_far (blk_far (bq_ BK601) NB601_586.out _) NB601_586.out _) NB601_586.out _) NB601_586.out _) NB601_586.out _) NB601_586.out _) NB601_587.out _) NB601_587.out _) NB601_587.out _) NB601_587.out _) NB601_587.out _) NB601_587.out _)⟩
        have n3_ : Aside0 (((((((((((((w99.setCell ⟨gb586, 0, none⟩ (.int .i64 t594)).setCell ⟨gb586, 1, none⟩ (.int .i64 t595)).setCell ⟨gb586, 2, none⟩ (.int .i64 t596)).setCell ⟨gb586, 3, none⟩ (.int .i64 t597)).setCell ⟨gb586, 4, none⟩ (.int .i64 t598)).setCell ⟨gb586, 5, none⟩ (.int .u64 t599)).setCell ⟨gb587, 0, none⟩ (.int .i64 t603)).setCell ⟨gb587, 1, none⟩ (.int .i64 t604)).setCell ⟨gb587, 2, none⟩ (.int .i64 t605)).setCell ⟨gb587, 3, none⟩ (.int .i64 t606)).setCell ⟨gb587, 4, none⟩ (.int .i64 t607)).setCell ⟨gb587, 5, none⟩ (.int .u64 t608)).heap[gb610]? = some (.cells #[.int .i64 t603, .int .i64 t604, .int .i64 t605, .int .i64 t606, .int .i64 t607, .int .u64 t608] 26 (0, 0))) := ⟨(blk_far (blk_far (blk_far (blk_far (blk_far (blk_far (blk_far (blk_far (blk_far (blk_far (blk_far (blk_far (bq_ BK610) NB610_586.out _) NB610_586.out _) NB610_586.out _) NB610_586.out _) NB610_586.out _) NB610_586.out _) NB610_587.out _) NB610_587.out _) NB610_587.out _) NB610_587.out _) NB610_587.out _) NB610_587.out _)⟩
        have n4_ : Aside0 (Below w.heap.size w ((((((((((((w99.setCell ⟨gb586, 0, none⟩ (.int .i64 t594)).setCell ⟨gb586, 1, none⟩ (.int .i64 t595)).setCell ⟨gb586, 2, none⟩ (.int .i64 t596)).setCell ⟨gb586, 3, none⟩ (.int .i64 t597)).setCell ⟨gb586, 4, none⟩ (.int .i64 t598)).setCell ⟨gb586, 5, none⟩ (.int .u64 t599)).setCell ⟨gb587, 0, none⟩ (.int .i64 t603)).setCell ⟨gb587, 1, none⟩ (.int .i64 t604)).setCell ⟨gb587, 2, none⟩ (.int .i64 t605)).setCell ⟨gb587, 3, none⟩ (.int .i64 t606)).setCell ⟨gb587, 4, none⟩ (.int .i64 t607)).setCell ⟨gb587, 5, none⟩ (.int .u64 t608))) := ⟨by repeat (first | (with_reducible first | exact HB.out | apply below_alloc | apply pw_below_drewN | apply below_drew1 | refine below_set ?_ GE586.out | refine below_set ?_ GE587.out | refine below_set ?_ GE601.out | refine below_set ?_ GE610.out) | exact HB.out)⟩
        (try clear BK586)
        (try clear BK587)
        (try clear BK601)
        (try clear BK610)
        (try clear HB)
        generalize ((((((((((((w99.setCell ⟨gb586, 0, none⟩ (.int .i64 t594)).setCell ⟨gb586, 1, none⟩ (.int .i64 t595)).setCell ⟨gb586, 2, none⟩ (.int .i64 t596)).setCell ⟨gb586, 3, none⟩ (.int .i64 t597)).setCell ⟨gb586, 4, none⟩ (.int .i64 t598)).setCell ⟨gb586, 5, none⟩ (.int .u64 t599)).setCell ⟨gb587, 0, none⟩ (.int .i64 t603)).setCell ⟨gb587, 1, none⟩ (.int .i64 t604)).setCell ⟨gb587, 2, none⟩ (.int .i64 t605)).setCell ⟨gb587, 3, none⟩ (.int .i64 t606)).setCell ⟨gb587, 4, none⟩ (.int .i64 t607)).setCell ⟨gb587, 5, none⟩ (.int .u64 t608)) = w112 at n0_ n1_ n2_ n3_ n4_ ⊢
        have BK586 := n0_
        have BK587 := n1_
        have BK601 := n2_
        have BK610 := n3_
        have HB := n4_
        clear n0_ n1_ n2_ n3_ n4_
        replace BK586 := Aside0.mk (blk_drew BK586.out)
        replace BK587 := Aside0.mk (blk_drew BK587.out)
        replace BK601 := Aside0.mk (blk_drew BK601.out)
        replace BK610 := Aside0.mk (blk_drew BK610.out)
        replace HB := Aside0.mk (below_drew1 HB.out)
        have p612 : 0 ≤ (x9_2 : Int) := of_decide_eq_true (by first | (with_reducible assumption) | assumption)
        have q612 : x9_2 < (l3.length : Int) := of_decide_eq_true (by first | (with_reducible assumption) | assumption)
        obtain ⟨ad612, e612, hx612_0⟩ := Kd.at_int HR3.out x9_2 p612 q612
        have hw612_0 := hx612_0
        cases e612
        replace hx612_0 := (HB.out.cell (World.block_lt_of_cell? w _ hx612_0)).trans hx612_0
        replace p612 := eq_true p612
        replace q612 := eq_true q612
        refine start_ (n := 11) (S := fun w' => w'.cell? ⟨gb586, 0, none⟩ = some (.int .i64 t594) ∧ w'.cell? ⟨gb586, 1, none⟩ = some (.int .i64 t595) ∧ w'.cell? ⟨gb586, 2, none⟩ = some (.int .i64 t596) ∧ w'.cell? ⟨gb586, 3, none⟩ = some (.int .i64 t597) ∧ w'.cell? ⟨gb586, 4, none⟩ = some (.int .i64 t598) ∧ w'.cell? ⟨gb586, 5, none⟩ = some (.int .u64 t599) ∧ w'.cell? (ad612.add (x9_2).toNat) = some (.int .i64 (rd l3 x9_2))) (ds := []) #[false, false, false, false, false, false, false, false, false, false, false] (by kernel_rfl) rfl rfl ⟨(blk_cell BK586.out 0).trans rfl, (blk_cell BK586.out 1).trans rfl, (blk_cell BK586.out 2).trans rfl, (blk_cell BK586.out 3).trans rfl, (blk_cell BK586.out 4).trans rfl, (blk_cell BK586.out 5).trans rfl, ((HB.out.cell (World.block_lt_of_cell? w _ hw612_0)).trans hw612_0)⟩ (fun hHeld => ?_); refine with_tabW spigotlaw03_BucketMore.tab12 spigotlaw03_BucketMore.bits12 (fun HT_ HW_ => ?_)
        generalize w112.drew = w113 at BK586 BK587 BK601 BK610 HB hx612_0 hHeld ⊢
        refine pure_ (i := 1) (N := some 100) (v := ?_) (a' := ?_) #[false, true, false, false, false, false, false, false, false, false, false] rfl rfl (any_of HT_.out (by kernel_rfl)) (fun _ _ _ h => h) (Or.inl ⟨by rfl, ?_⟩) ?_ ?_
        rotate_left
        ·intro w'
         go_simp
         with_reducible rfl
        rotate_left
        ·simp only [Act.put, List.setIfInBounds_toArray, List.set_cons_zero, List.set_cons_succ, i64_w, i32_w]
         rfl
        refine pure_ (i := 2) (N := some 101) (v := ?_) (a' := ?_) #[false, true, true, false, false, false, false, false, false, false, false] rfl rfl (any_of HT_.out (by kernel_rfl)) (fun _ _ _ h => h) (Or.inl ⟨by rfl, ?_⟩) ?_ ?_
        rotate_left
        ·intro w'
         go_simp
         with_reducible rfl
        rotate_left
        ·simp only [Act.put, List.setIfInBounds_toArray, List.set_cons_zero, List.set_cons_succ, i64_w, i32_w]
         rfl
        refine pure_ (i := 3) (N := some 102) (v := ?_) (a' := ?_) #[false, true, true, true, false, false, false, false, false, false, false] rfl rfl (any_of HT_.out (by kernel_rfl)) (fun _ _ _ h => h) (Or.inl ⟨by rfl, ?_⟩) ?_ ?_
        rotate_left
        ·intro w'
         go_simp
         with_reducible rfl
        rotate_left
        ·simp only [Act.put, List.setIfInBounds_toArray, List.set_cons_zero, List.set_cons_succ, i64_w, i32_w]
         rfl
        refine take_ (i := 0) (N := some 99) (v := ?_) (a' := ?_) #[true, true, true, true, false, false, false, false, false, false, false] rfl rfl (take_ofW HT_.out HW_.out (by kernel_rfl)) (fun _ _ _ h => h) (Or.inl ⟨by rfl, ?_⟩) hHeld ?_ ?_
        rotate_left
        ·rintro w' ⟨s0, s1, s2, s3, s4, s5, s6⟩
         go_simp
         with_reducible rfl
        rotate_left
        ·simp only [Act.put, List.setIfInBounds_toArray, List.set_cons_zero, List.set_cons_succ, i64_w, i32_w]
         rfl
        refine take_ (i := 4) (N := some 103) (v := ?_) (a' := ?_) #[true, true, true, true, true, false, false, false, false, false, false] rfl rfl (take_ofW HT_.out HW_.out (by kernel_rfl)) (fun _ _ _ h => h) (Or.inl ⟨by rfl, ?_⟩) hHeld ?_ ?_
        rotate_left
        ·rintro w' ⟨s0, s1, s2, s3, s4, s5, s6⟩
         go_simp
         with_reducible rfl
        rotate_left
        ·simp only [Act.put, List.setIfInBounds_toArray, List.set_cons_zero, List.set_cons_succ, i64_w, i32_w]
         rfl
        refine one_ (i := 5) (N := some 104) #[true, true, true, true, true, true, false, false, false, false, false] rfl rfl (one_of HT_.out (by kernel_rfl)) (by decide) (fun K hK => ?_)
        refine goes_ Try.func18 (by kernel_rfl) rfl #[.agg #[.int .i64 t594, .int .i64 t595, .int .i64 t596, .int .i64 t597, .int .i64 t598, .int .u64 t599], .int .i64 (rd l3 x9_2)] (by rfl) rfl rfl (by (try simp only [List.map_toArray, List.map_cons, List.map_nil]); first | done | rfl | (simp only [List.length_drop, List.length_take]; rfl)) ?_
        with_reducible refine (bucket_Charge.calls t594 t595 t596 t597 t598 t599 (rd l3 x9_2) t613 t614 t615 t616 t617 t618 t619 _ A65.out).mono ?_
        rintro e w114 ⟨rfl, hb⟩
        refine ⟨_, rfl, ?_⟩
        replace BK586 := bb_ BK586 hb
        replace BK587 := bb_ BK587 hb
        replace BK601 := bb_ BK601 hb
        replace BK610 := bb_ BK610 hb
        replace HB := bs_ w hb
        (try clear hb)
        (try clear hb2)
        (try clear hk)
        (try clear hi)
        refine hK.out _ _ ⟨(blk_cell BK586.out 0).trans rfl, (blk_cell BK586.out 1).trans rfl, (blk_cell BK586.out 2).trans rfl, (blk_cell BK586.out 3).trans rfl, (blk_cell BK586.out 4).trans rfl, (blk_cell BK586.out 5).trans rfl, ((HB.out.cell (World.block_lt_of_cell? w _ hw612_0)).trans hw612_0)⟩ (fun hHeld => ?_)
        clear hK K
        refine norm_ (a' := ?_) ?_ ?_
        rotate_left
        ·show Act.put _ (some 104) _ = _
         simp only [Act.put, List.setIfInBounds_toArray, List.set_cons_zero, List.set_cons_succ, i64_w, i32_w]
         rfl
        refine pure_ (i := 6) (N := some 98) (v := ?_) (a' := ?_) #[true, true, true, true, true, true, true, false, false, false, false] rfl rfl (any_of HT_.out (by kernel_rfl)) (fun _ _ _ h => h) (Or.inl ⟨by rfl, ?_⟩) ?_ ?_
        rotate_left
        ·intro w'
         go_simp
         with_reducible rfl
        rotate_left
        ·simp only [Act.put, List.setIfInBounds_toArray, List.set_cons_zero, List.set_cons_succ, i64_w, i32_w]
         rfl
        refine pure_ (i := 7) (N := some 105) (v := ?_) (a' := ?_) #[true, true, true, true, true, true, true, true, false, false, false] rfl rfl (any_of HT_.out (by kernel_rfl)) (fun _ _ _ h => h) (Or.inl ⟨by rfl, ?_⟩) ?_ ?_
        rotate_left
        ·intro w'
         go_simp
         with_reducible rfl
        rotate_left
        ·simp only [Act.put, List.setIfInBounds_toArray, List.set_cons_zero, List.set_cons_succ, i64_w, i32_w]
         rfl
        refine pure_ (i := 8) (N := some 106) (v := ?_) (a' := ?_) #[true, true, true, true, true, true, true, true, true, false, false] rfl rfl (any_of HT_.out (by kernel_rfl)) (fun _ _ _ h => h) (Or.inl ⟨by rfl, ?_⟩) ?_ ?_
        rotate_left
        ·intro w'
         go_simp
         with_reducible rfl
        rotate_left
        ·simp only [Act.put, List.setIfInBounds_toArray, List.set_cons_zero, List.set_cons_succ, i64_w, i32_w]
         rfl
        refine one_ (i := 9) (N := none) #[true, true, true, true, true, true, true, true, true, true, false] rfl rfl (one_of HT_.out (by kernel_rfl)) (by decide) (fun K hK => ?_)
        have hs115 : w114.cell? ⟨gb601, 0, none⟩ = some (.int .i64 t594) := (blk_cell BK601.out 0).trans rfl
        have hfs115 := blk_frozen BK601.out 0
        have hns115_0 := NB586_601.out
        have hns115_1 := NB587_601.out
        have hns115_3 := NB610_601.out
        have hms115_0 := NB601_586.out
        have hms115_1 := NB601_587.out
        have hms115_3 := NB601_610.out
        have hs116 : w114.cell? ⟨gb601, 1, none⟩ = some (.int .i64 t595) := (blk_cell BK601.out 1).trans rfl
        have hfs116 := blk_frozen BK601.out 1
        have hns116_0 := NB586_601.out
        have hns116_1 := NB587_601.out
        have hns116_3 := NB610_601.out
        have hms116_0 := NB601_586.out
        have hms116_1 := NB601_587.out
        have hms116_3 := NB601_610.out
        have hs117 : w114.cell? ⟨gb601, 2, none⟩ = some (.int .i64 t596) := (blk_cell BK601.out 2).trans rfl
        have hfs117 := blk_frozen BK601.out 2
        have hns117_0 := NB586_601.out
        have hns117_1 := NB587_601.out
        have hns117_3 := NB610_601.out
        have hms117_0 := NB601_586.out
        have hms117_1 := NB601_587.out
        have hms117_3 := NB601_610.out
        have hs118 : w114.cell? ⟨gb601, 3, none⟩ = some (.int .i64 t597) := (blk_cell BK601.out 3).trans rfl
        have hfs118 := blk_frozen BK601.out 3
        have hns118_0 := NB586_601.out
        have hns118_1 := NB587_601.out
        have hns118_3 := NB610_601.out
        have hms118_0 := NB601_586.out
        have hms118_1 := NB601_587.out
        have hms118_3 := NB601_610.out
        have hs119 : w114.cell? ⟨gb601, 4, none⟩ = some (.int .i64 t598) := (blk_cell BK601.out 4).trans rfl
        have hfs119 := blk_frozen BK601.out 4
        have hns119_0 := NB586_601.out
        have hns119_1 := NB587_601.out
        have hns119_3 := NB610_601.out
        have hms119_0 := NB601_586.out
        have hms119_1 := NB601_587.out
        have hms119_3 := NB601_610.out
        have hs120 : w114.cell? ⟨gb601, 5, none⟩ = some (.int .u64 t599) := (blk_cell BK601.out 5).trans rfl
        have hfs120 := blk_frozen BK601.out 5
        have hns120_0 := NB586_601.out
        have hns120_1 := NB587_601.out
        have hns120_3 := NB610_601.out
        have hms120_0 := NB601_586.out
        have hms120_1 := NB601_587.out
        have hms120_3 := NB601_610.out
        refine skip_ (w1 := ?_) (by rfl) rfl ?_ ?_
        rotate_left
        ·go_simp
         rfl
        refine hK.out _ _ ⟨((cell_far (p := ⟨gb601, _, none⟩) NB586_601.out _).trans (((cell_far (p := ⟨gb601, _, none⟩) NB586_601.out _).trans (((cell_far (p := ⟨gb601, _, none⟩) NB586_601.out _).trans (((cell_far (p := ⟨gb601, _, none⟩) NB586_601.out _).trans (((cell_far (p := ⟨gb601, _, none⟩) NB586_601.out _).trans (((cell_far (p := ⟨gb601, _, none⟩) NB586_601.out _).trans (hHeld.1)))))))))))), ((cell_far (p := ⟨gb601, _, none⟩) NB586_601.out _).trans (((cell_far (p := ⟨gb601, _, none⟩) NB586_601.out _).trans (((cell_far (p := ⟨gb601, _, none⟩) NB586_601.out _).trans (((cell_far (p := ⟨gb601, _, none⟩) NB586_601.out _).trans (((cell_far (p := ⟨gb601, _, none⟩) NB586_601.out _).trans (((cell_far (p := ⟨gb601, _, none⟩) NB586_601.out _).trans (hHeld.2.1)))))))))))), ((cell_far (p := ⟨gb601, _, none⟩) NB586_601.out _).trans (((cell_far (p := ⟨gb601, _, none⟩) NB586_601.out _).trans (((cell_far (p := ⟨gb601, _, none⟩) NB586_601.out _).trans (((cell_far (p := ⟨gb601, _, none⟩) NB586_601.out _).trans (((cell_far (p := ⟨gb601, _, none⟩) NB586_601.out _).trans (((cell_far (p := ⟨gb601, _, none⟩) NB586_601.out _).trans (hHeld.2.2.1)))))))))))), ((cell_far (p := ⟨gb601, _, none⟩) NB586_601.out _).trans (((cell_far (p := ⟨gb601, _, none⟩) NB586_601.out _).trans (((cell_far (p := ⟨gb601, _, none⟩) NB586_601.out _).trans (((cell_far (p := ⟨gb601, _, none⟩) NB586_601.out _).trans (((cell_far (p := ⟨gb601, _, none⟩) NB586_601.out _).trans (((cell_far (p := ⟨gb601, _, none⟩) NB586_601.out _).trans (hHeld.2.2.2.1)))))))))))), ((cell_far (p := ⟨gb601, _, none⟩) NB586_601.out _).trans (((cell_far (p := ⟨gb601, _, none⟩) NB586_601.out _).trans (((cell_far (p := ⟨gb601, _, none⟩) NB586_601.out _).trans (((cell_far (p := ⟨gb601, _, none⟩) NB586_601.out _).trans (((cell_far (p := ⟨gb601, _, none⟩) NB586_601.out _).trans (((cell_far (p := ⟨gb601, _, none⟩) NB586_601.out _).trans (hHeld.2.2.2.2.1)))))))))))), ((cell_far (p := ⟨gb601, _, none⟩) NB586_601.out _).trans (((cell_far (p := ⟨gb601, _, none⟩) NB586_601.out _).trans (((cell_far (p := ⟨gb601, _, none⟩) NB586_601.out _).trans (((cell_far (p := ⟨gb601, _, none⟩) NB586_601.out _).trans (((cell_far (p := ⟨gb601, _, none⟩) NB586_601.out _).trans (((cell_far (p := ⟨gb601, _, none⟩) NB586_601.out _).trans (hHeld.2.2.2.2.2.1)))))))))))), ((cell_far (p := ⟨gb601, _, none⟩) (by first | exact Nat.ne_of_lt (Nat.lt_of_lt_of_le (by have := World.block_lt_of_cell? _ _ hw612_0; first | rwa [add_block] at this | exact this) GW601.out) | (rw [add_block]; exact Nat.ne_of_lt (Nat.lt_of_lt_of_le (by have := World.block_lt_of_cell? _ _ hw612_0; first | rwa [add_block] at this | exact this) GW601.out)) | (show (Addr.add _ _).block ≠ _; rw [add_block]; exact Nat.ne_of_lt (Nat.lt_of_lt_of_le (by have := World.block_lt_of_cell? _ _ hw612_0; first | rwa [add_block] at this | exact this) GW601.out)) | (dsimp only; exact Nat.ne_of_lt (Nat.lt_of_lt_of_le (by have := World.block_lt_of_cell? _ _ hw612_0; first | rwa [add_block] at this | exact this) GW601.out))) _).trans (((cell_far (p := ⟨gb601, _, none⟩) (by first | exact Nat.ne_of_lt (Nat.lt_of_lt_of_le (by have := World.block_lt_of_cell? _ _ hw612_0; first | rwa [add_block] at this | exact this) GW601.out) | (rw [add_block]; exact Nat.ne_of_lt (Nat.lt_of_lt_of_le (by have := World.block_lt_of_cell? _ _ hw612_0; first | rwa [add_block] at this | exact this) GW601.out)) | (show (Addr.add _ _).block ≠ _; rw [add_block]; exact Nat.ne_of_lt (Nat.lt_of_lt_of_le (by have := World.block_lt_of_cell? _ _ hw612_0; first | rwa [add_block] at this | exact this) GW601.out)) | (dsimp only; exact Nat.ne_of_lt (Nat.lt_of_lt_of_le (by have := World.block_lt_of_cell? _ _ hw612_0; first | rwa [add_block] at this | exact this) GW601.out))) _).trans (((cell_far (p := ⟨gb601, _, none⟩) (by first | exact Nat.ne_of_lt (Nat.lt_of_lt_of_le (by have := World.block_lt_of_cell? _ _ hw612_0; first | rwa [add_block] at this | exact this) GW601.out) | (rw [add_block]; exact Nat.ne_of_lt (Nat.lt_of_lt_of_le (by have := World.block_lt_of_cell? _ _ hw612_0; first | rwa [add_block] at this | exact this) GW601.out)) | (show (Addr.add _ _).block ≠ _; rw [add_block]; exact Nat.ne_of_lt (Nat.lt_of_lt_of_le (by have := World.block_lt_of_cell? _ _ hw612_0; first | rwa [add_block] at this | exact this) GW601.out)) | (dsimp only; exact Nat.ne_of_lt (Nat.lt_of_lt_of_le (by have := World.block_lt_of_cell? _ _ hw612_0; first | rwa [add_block] at this | exact this) GW601.out))) _).trans (((cell_far (p := ⟨gb601, _, none⟩) (by first | exact Nat.ne_of_lt (Nat.lt_of_lt_of_le (by have := World.block_lt_of_cell? _ _ hw612_0; first | rwa [add_block] at this | exact this) GW601.out) | (rw [add_block]; exact Nat.ne_of_lt (Nat.lt_of_lt_of_le (by have := World.block_lt_of_cell? _ _ hw612_0; first | rwa [add_block] at this | exact this) GW601.out)) | (show (Addr.add _ _).block ≠ _; rw [add_block]; exact Nat.ne_of_lt (Nat.lt_of_lt_of_le (by have := World.block_lt_of_cell? _ _ hw612_0; first | rwa [add_block] at this | exact this) GW601.out)) | (dsimp only; exact Nat.ne_of_lt (Nat.lt_of_lt_of_le (by have := World.block_lt_of_cell? _ _ hw612_0; first | rwa [add_block] at this | exact this) GW601.out))) _).trans (((cell_far (p := ⟨gb601, _, none⟩) (by first | exact Nat.ne_of_lt (Nat.lt_of_lt_of_le (by have := World.block_lt_of_cell? _ _ hw612_0; first | rwa [add_block] at this | exact this) GW601.out) | (rw [add_block]; exact Nat.ne_of_lt (Nat.lt_of_lt_of_le (by have := World.block_lt_of_cell? _ _ hw612_0; first | rwa [add_block] at this | exact this) GW601.out)) | (show (Addr.add _ _).block ≠ _; rw [add_block]; exact Nat.ne_of_lt (Nat.lt_of_lt_of_le (by have := World.block_lt_of_cell? _ _ hw612_0; first | rwa [add_block] at this | exact this) GW601.out)) | (dsimp only; exact Nat.ne_of_lt (Nat.lt_of_lt_of_le (by have := World.block_lt_of_cell? _ _ hw612_0; first | rwa [add_block] at this | exact this) GW601.out))) _).trans (((cell_far (p := ⟨gb601, _, none⟩) (by first | exact Nat.ne_of_lt (Nat.lt_of_lt_of_le (by have := World.block_lt_of_cell? _ _ hw612_0; first | rwa [add_block] at this | exact this) GW601.out) | (rw [add_block]; exact Nat.ne_of_lt (Nat.lt_of_lt_of_le (by have := World.block_lt_of_cell? _ _ hw612_0; first | rwa [add_block] at this | exact this) GW601.out)) | (show (Addr.add _ _).block ≠ _; rw [add_block]; exact Nat.ne_of_lt (Nat.lt_of_lt_of_le (by have := World.block_lt_of_cell? _ _ hw612_0; first | rwa [add_block] at this | exact this) GW601.out)) | (dsimp only; exact Nat.ne_of_lt (Nat.lt_of_lt_of_le (by have := World.block_lt_of_cell? _ _ hw612_0; first | rwa [add_block] at this | exact this) GW601.out))) _).trans (hHeld.2.2.2.2.2.2))))))))))))⟩ (fun hHeld => ?_)
        clear hK K
        refine pure_ (i := 10) (N := some 14) (v := ?_) (a' := ?_) #[true, true, true, true, true, true, true, true, true, true, true] rfl rfl (any_of HT_.out (by kernel_rfl)) (fun _ _ _ h => h) (Or.inl ⟨by rfl, ?_⟩) ?_ ?_
        rotate_left
        ·intro w'
         go_simp
         with_reducible rfl
        rotate_left
        ·simp only [Act.put, List.setIfInBounds_toArray, List.set_cons_zero, List.set_cons_succ, i64_w, i32_w]
         rfl
        refine done_ (done_of HT_.out (by kernel_rfl)) ?_
        try go_wp2
        have n0_ : Aside0 (((((((w114.setCell ⟨gb601, 0, none⟩ (.int .i64 t613)).setCell ⟨gb601, 1, none⟩ (.int .i64 t614)).setCell ⟨gb601, 2, none⟩ (.int .i64 t615)).setCell ⟨gb601, 3, none⟩ (.int .i64 t616)).setCell ⟨gb601, 4, none⟩ (.int .i64 t617)).setCell ⟨gb601, 5, none⟩ (.int .u64 t618)).heap[gb586]? = some (.cells #[.int .i64 t594, .int .i64 t595, .int .i64 t596, .int .i64 t597, .int .i64 t598, .int .u64 t599] 26 (0, 0))) := ⟨(blk_far (blk_far (blk_far (blk_far (blk_far (blk_far (bq_ BK586) NB586_601.out _) NB586_601.out _) NB586_601.out _) NB586_601.out _) NB586_601.out _) NB586_601.out _)⟩
        have n1_ : Aside0 (((((((w114.setCell ⟨gb601, 0, none⟩ (.int .i64 t613)).setCell ⟨gb601, 1, none⟩ (.int .i64 t614)).setCell ⟨gb601, 2, none⟩ (.int .i64 t615)).setCell ⟨gb601, 3, none⟩ (.int .i64 t616)).setCell ⟨gb601, 4, none⟩ (.int .i64 t617)).setCell ⟨gb601, 5, none⟩ (.int .u64 t618)).heap[gb587]? = some (.cells #[.int .i64 t603, .int .i64 t604, .int .i64 t605, .int .i64 t606, .int .i64 t607, .int .u64 t608] 26 (0, 0))) := ⟨(blk_far (blk_far (blk_far (blk_far (blk_far (blk_far (bq_ BK587) NB587_601.out _) NB587_601.out _) NB587_601.out _) NB587_601.out _) NB587_601.out _) NB587_601.out _)⟩
        have n2_ : Aside0 (((((((w114.setCell ⟨gb601, 0, none⟩ (.int .i64 t613)).setCell ⟨gb601, 1, none⟩ (.int .i64 t614)).setCell ⟨gb601, 2, none⟩ (.int .i64 t615)).setCell ⟨gb601, 3, none⟩ (.int .i64 t616)).setCell ⟨gb601, 4, none⟩ (.int .i64 t617)).setCell ⟨gb601, 5, none⟩ (.int .u64 t618)).heap[gb601]? = some (.cells #[.int .i64 t613, .int .i64 t614, .int .i64 t615, .int .i64 t616, .int .i64 t617, .int .u64 t618] 26 (0, 0))) := ⟨(blk_put (cs := #[.int .i64 t613, .int .i64 t614, .int .i64 t615, .int .i64 t616, .int .i64 t617, .int .u64 t599]) (blk_put (cs := #[.int .i64 t613, .int .i64 t614, .int .i64 t615, .int .i64 t616, .int .i64 t598, .int .u64 t599]) (blk_put (cs := #[.int .i64 t613, .int .i64 t614, .int .i64 t615, .int .i64 t597, .int .i64 t598, .int .u64 t599]) (blk_put (cs := #[.int .i64 t613, .int .i64 t614, .int .i64 t596, .int .i64 t597, .int .i64 t598, .int .u64 t599]) (blk_put (cs := #[.int .i64 t613, .int .i64 t595, .int .i64 t596, .int .i64 t597, .int .i64 t598, .int .u64 t599]) (blk_put (cs := #[.int .i64 t594, .int .i64 t595, .int .i64 t596, .int .i64 t597, .int .i64 t598, .int .u64 t599]) (bq_ BK601) 0 _ rfl) 1 _ rfl) 2 _ rfl) 3 _ rfl) 4 _ rfl) 5 _ rfl)⟩
        have n3_ : Aside0 (((((((w114.setCell ⟨gb601, 0, none⟩ (.int .i64 t613)).setCell ⟨gb601, 1, none⟩ (.int .i64 t614)).setCell ⟨gb601, 2, none⟩ (.int .i64 t615)).setCell ⟨gb601, 3, none⟩ (.int .i64 t616)).setCell ⟨gb601, 4, none⟩ (.int .i64 t617)).setCell ⟨gb601, 5, none⟩ (.int .u64 t618)).heap[gb610]? = some (.cells #[.int .i64 t603, .int .i64 t604, .int .i64 t605, .int .i64 t606, .int .i64 t607, .int .u64 t608] 26 (0, 0))) := ⟨(blk_far (blk_far (blk_far (blk_far (blk_far (blk_far (bq_ BK610) NB610_601.out _) NB610_601.out _) NB610_601.out _) NB610_601.out _) NB610_601.out _) NB610_601.out _)⟩
        have n4_ : Aside0 (Below w.heap.size w ((((((w114.setCell ⟨gb601, 0, none⟩ (.int .i64 t613)).setCell ⟨gb601, 1, none⟩ (.int .i64 t614)).setCell ⟨gb601, 2, none⟩ (.int .i64 t615)).setCell ⟨gb601, 3, none⟩ (.int .i64 t616)).setCell ⟨gb601, 4, none⟩ (.int .i64 t617)).setCell ⟨gb601, 5, none⟩ (.int .u64 t618))) := ⟨by repeat (first | (with_reducible first | exact HB.out | apply below_alloc | apply pw_below_drewN | apply below_drew1 | refine below_set ?_ GE586.out | refine below_set ?_ GE587.out | refine below_set ?_ GE601.out | refine below_set ?_ GE610.out) | exact HB.out)⟩
        (try clear BK586)
        (try clear BK587)
        (try clear BK601)
        (try clear BK610)
        (try clear HB)
        generalize ((((((w114.setCell ⟨gb601, 0, none⟩ (.int .i64 t613)).setCell ⟨gb601, 1, none⟩ (.int .i64 t614)).setCell ⟨gb601, 2, none⟩ (.int .i64 t615)).setCell ⟨gb601, 3, none⟩ (.int .i64 t616)).setCell ⟨gb601, 4, none⟩ (.int .i64 t617)).setCell ⟨gb601, 5, none⟩ (.int .u64 t618)) = w121 at n0_ n1_ n2_ n3_ n4_ ⊢
        have BK586 := n0_
        have BK587 := n1_
        have BK601 := n2_
        have BK610 := n3_
        have HB := n4_
        clear n0_ n1_ n2_ n3_ n4_
        replace BK586 := Aside0.mk (blk_drew BK586.out)
        replace BK587 := Aside0.mk (blk_drew BK587.out)
        replace BK601 := Aside0.mk (blk_drew BK601.out)
        replace BK610 := Aside0.mk (blk_drew BK610.out)
        replace HB := Aside0.mk (below_drew1 HB.out)
        have p620 : 0 ≤ (x9_2 : Int) := of_decide_eq_true (by first | (with_reducible assumption) | assumption)
        have q620 : x9_2 < (l3.length : Int) := of_decide_eq_true (by first | (with_reducible assumption) | assumption)
        obtain ⟨ad620, e620, hx620_0⟩ := Kd.at_int HR3.out x9_2 p620 q620
        have hw620_0 := hx620_0
        obtain rfl : ad612 = ad620 := (by injection e620)
        replace hx620_0 := (HB.out.cell (World.block_lt_of_cell? w _ hx620_0)).trans hx620_0
        replace p620 := eq_true p620
        replace q620 := eq_true q620
        refine start_ (n := 11) (S := fun w' => w'.cell? ⟨gb587, 0, none⟩ = some (.int .i64 t603) ∧ w'.cell? ⟨gb587, 1, none⟩ = some (.int .i64 t604) ∧ w'.cell? ⟨gb587, 2, none⟩ = some (.int .i64 t605) ∧ w'.cell? ⟨gb587, 3, none⟩ = some (.int .i64 t606) ∧ w'.cell? ⟨gb587, 4, none⟩ = some (.int .i64 t607) ∧ w'.cell? ⟨gb587, 5, none⟩ = some (.int .u64 t608) ∧ w'.cell? (ad612.add (x9_2).toNat) = some (.int .i64 (rd l3 x9_2))) (ds := []) #[false, false, false, false, false, false, false, false, false, false, false] (by kernel_rfl) rfl rfl ⟨(blk_cell BK587.out 0).trans rfl, (blk_cell BK587.out 1).trans rfl, (blk_cell BK587.out 2).trans rfl, (blk_cell BK587.out 3).trans rfl, (blk_cell BK587.out 4).trans rfl, (blk_cell BK587.out 5).trans rfl, ((HB.out.cell (World.block_lt_of_cell? w _ hw620_0)).trans hw620_0)⟩ (fun hHeld => ?_); refine with_tabW spigotlaw03_BucketMore.tab13 spigotlaw03_BucketMore.bits13 (fun HT_ HW_ => ?_)
        generalize w121.drew = w122 at BK586 BK587 BK601 BK610 HB hx620_0 hHeld ⊢
        refine pure_ (i := 1) (N := some 109) (v := ?_) (a' := ?_) #[false, true, false, false, false, false, false, false, false, false, false] rfl rfl (any_of HT_.out (by kernel_rfl)) (fun _ _ _ h => h) (Or.inl ⟨by rfl, ?_⟩) ?_ ?_
        rotate_left
        ·intro w'
         go_simp
         with_reducible rfl
        rotate_left
        ·simp only [Act.put, List.setIfInBounds_toArray, List.set_cons_zero, List.set_cons_succ, i64_w, i32_w]
         rfl
        refine pure_ (i := 2) (N := some 110) (v := ?_) (a' := ?_) #[false, true, true, false, false, false, false, false, false, false, false] rfl rfl (any_of HT_.out (by kernel_rfl)) (fun _ _ _ h => h) (Or.inl ⟨by rfl, ?_⟩) ?_ ?_
        rotate_left
        ·intro w'
         go_simp
         with_reducible rfl
        rotate_left
        ·simp only [Act.put, List.setIfInBounds_toArray, List.set_cons_zero, List.set_cons_succ, i64_w, i32_w]
         rfl
        refine pure_ (i := 3) (N := some 111) (v := ?_) (a' := ?_) #[false, true, true, true, false, false, false, false, false, false, false] rfl rfl (any_of HT_.out (by kernel_rfl)) (fun _ _ _ h => h) (Or.inl ⟨by rfl, ?_⟩) ?_ ?_
        rotate_left
        ·intro w'
         go_simp
         with_reducible rfl
        rotate_left
        ·simp only [Act.put, List.setIfInBounds_toArray, List.set_cons_zero, List.set_cons_succ, i64_w, i32_w]
         rfl
        refine take_ (i := 0) (N := some 108) (v := ?_) (a' := ?_) #[true, true, true, true, false, false, false, false, false, false, false] rfl rfl (take_ofW HT_.out HW_.out (by kernel_rfl)) (fun _ _ _ h => h) (Or.inl ⟨by rfl, ?_⟩) hHeld ?_ ?_
        rotate_left
        ·rintro w' ⟨s0, s1, s2, s3, s4, s5, s6⟩
         go_simp
         with_reducible rfl
        rotate_left
        ·simp only [Act.put, List.setIfInBounds_toArray, List.set_cons_zero, List.set_cons_succ, i64_w, i32_w]
         rfl
        refine take_ (i := 4) (N := some 112) (v := ?_) (a' := ?_) #[true, true, true, true, true, false, false, false, false, false, false] rfl rfl (take_ofW HT_.out HW_.out (by kernel_rfl)) (fun _ _ _ h => h) (Or.inl ⟨by rfl, ?_⟩) hHeld ?_ ?_
        rotate_left
        ·rintro w' ⟨s0, s1, s2, s3, s4, s5, s6⟩
         go_simp
         with_reducible rfl
        rotate_left
        ·simp only [Act.put, List.setIfInBounds_toArray, List.set_cons_zero, List.set_cons_succ, i64_w, i32_w]
         rfl
        refine one_ (i := 5) (N := some 113) #[true, true, true, true, true, true, false, false, false, false, false] rfl rfl (one_of HT_.out (by kernel_rfl)) (by decide) (fun K hK => ?_)
        refine goes_ Try.func18 (by kernel_rfl) rfl #[.agg #[.int .i64 t603, .int .i64 t604, .int .i64 t605, .int .i64 t606, .int .i64 t607, .int .u64 t608], .int .i64 (rd l3 x9_2)] (by rfl) rfl rfl (by (try simp only [List.map_toArray, List.map_cons, List.map_nil]); first | done | rfl | (simp only [List.length_drop, List.length_take]; rfl)) ?_
        with_reducible refine (bucket_Charge.calls t603 t604 t605 t606 t607 t608 (rd l3 x9_2) t621 t622 t623 t624 t625 t626 t627 _ A66.out).mono ?_
        rintro e w123 ⟨rfl, hb⟩
        refine ⟨_, rfl, ?_⟩
        replace BK586 := bb_ BK586 hb
        replace BK587 := bb_ BK587 hb
        replace BK601 := bb_ BK601 hb
        replace BK610 := bb_ BK610 hb
        replace HB := bs_ w hb
        (try clear hb)
        (try clear hb2)
        (try clear hk)
        (try clear hi)
        refine hK.out _ _ ⟨(blk_cell BK587.out 0).trans rfl, (blk_cell BK587.out 1).trans rfl, (blk_cell BK587.out 2).trans rfl, (blk_cell BK587.out 3).trans rfl, (blk_cell BK587.out 4).trans rfl, (blk_cell BK587.out 5).trans rfl, ((HB.out.cell (World.block_lt_of_cell? w _ hw620_0)).trans hw620_0)⟩ (fun hHeld => ?_)
        clear hK K
        refine norm_ (a' := ?_) ?_ ?_
        rotate_left
        ·show Act.put _ (some 113) _ = _
         simp only [Act.put, List.setIfInBounds_toArray, List.set_cons_zero, List.set_cons_succ, i64_w, i32_w]
         rfl
        refine pure_ (i := 6) (N := some 107) (v := ?_) (a' := ?_) #[true, true, true, true, true, true, true, false, false, false, false] rfl rfl (any_of HT_.out (by kernel_rfl)) (fun _ _ _ h => h) (Or.inl ⟨by rfl, ?_⟩) ?_ ?_
        rotate_left
        ·intro w'
         go_simp
         with_reducible rfl
        rotate_left
        ·simp only [Act.put, List.setIfInBounds_toArray, List.set_cons_zero, List.set_cons_succ, i64_w, i32_w]
         rfl
        refine pure_ (i := 7) (N := some 114) (v := ?_) (a' := ?_) #[true, true, true, true, true, true, true, true, false, false, false] rfl rfl (any_of HT_.out (by kernel_rfl)) (fun _ _ _ h => h) (Or.inl ⟨by rfl, ?_⟩) ?_ ?_
        rotate_left
        ·intro w'
         go_simp
         with_reducible rfl
        rotate_left
        ·simp only [Act.put, List.setIfInBounds_toArray, List.set_cons_zero, List.set_cons_succ, i64_w, i32_w]
         rfl
        refine pure_ (i := 8) (N := some 115) (v := ?_) (a' := ?_) #[true, true, true, true, true, true, true, true, true, false, false] rfl rfl (any_of HT_.out (by kernel_rfl)) (fun _ _ _ h => h) (Or.inl ⟨by rfl, ?_⟩) ?_ ?_
        rotate_left
        ·intro w'
         go_simp
         with_reducible rfl
        rotate_left
        ·simp only [Act.put, List.setIfInBounds_toArray, List.set_cons_zero, List.set_cons_succ, i64_w, i32_w]
         rfl
        refine one_ (i := 9) (N := none) #[true, true, true, true, true, true, true, true, true, true, false] rfl rfl (one_of HT_.out (by kernel_rfl)) (by decide) (fun K hK => ?_)
        have hs124 : w123.cell? ⟨gb610, 0, none⟩ = some (.int .i64 t603) := (blk_cell BK610.out 0).trans rfl
        have hfs124 := blk_frozen BK610.out 0
        have hns124_0 := NB586_610.out
        have hns124_1 := NB587_610.out
        have hns124_2 := NB601_610.out
        have hms124_0 := NB610_586.out
        have hms124_1 := NB610_587.out
        have hms124_2 := NB610_601.out
        have hs125 : w123.cell? ⟨gb610, 1, none⟩ = some (.int .i64 t604) := (blk_cell BK610.out 1).trans rfl
        have hfs125 := blk_frozen BK610.out 1
        have hns125_0 := NB586_610.out
        have hns125_1 := NB587_610.out
        have hns125_2 := NB601_610.out
        have hms125_0 := NB610_586.out
        have hms125_1 := NB610_587.out
        have hms125_2 := NB610_601.out
        have hs126 : w123.cell? ⟨gb610, 2, none⟩ = some (.int .i64 t605) := (blk_cell BK610.out 2).trans rfl
        have hfs126 := blk_frozen BK610.out 2
        have hns126_0 := NB586_610.out
        have hns126_1 := NB587_610.out
        have hns126_2 := NB601_610.out
        have hms126_0 := NB610_586.out
        have hms126_1 := NB610_587.out
        have hms126_2 := NB610_601.out
        have hs127 : w123.cell? ⟨gb610, 3, none⟩ = some (.int .i64 t606) := (blk_cell BK610.out 3).trans rfl
        have hfs127 := blk_frozen BK610.out 3
        have hns127_0 := NB586_610.out
        have hns127_1 := NB587_610.out
        have hns127_2 := NB601_610.out
        have hms127_0 := NB610_586.out
        have hms127_1 := NB610_587.out
        have hms127_2 := NB610_601.out
        have hs128 : w123.cell? ⟨gb610, 4, none⟩ = some (.int .i64 t607) := (blk_cell BK610.out 4).trans rfl
        have hfs128 := blk_frozen BK610.out 4
        have hns128_0 := NB586_610.out
        have hns128_1 := NB587_610.out
        have hns128_2 := NB601_610.out
        have hms128_0 := NB610_586.out
        have hms128_1 := NB610_587.out
        have hms128_2 := NB610_601.out
        have hs129 : w123.cell? ⟨gb610, 5, none⟩ = some (.int .u64 t608) := (blk_cell BK610.out 5).trans rfl
        have hfs129 := blk_frozen BK610.out 5
        have hns129_0 := NB586_610.out
        have hns129_1 := NB587_610.out
        have hns129_2 := NB601_610.out
        have hms129_0 := NB610_586.out
        have hms129_1 := NB610_587.out
        have hms129_2 := NB610_601.out
        refine skip_ (w1 := ?_) (by rfl) rfl ?_ ?_
        rotate_left
        ·go_simp
         rfl
        refine hK.out _ _ ⟨((cell_far (p := ⟨gb610, _, none⟩) NB587_610.out _).trans (((cell_far (p := ⟨gb610, _, none⟩) NB587_610.out _).trans (((cell_far (p := ⟨gb610, _, none⟩) NB587_610.out _).trans (((cell_far (p := ⟨gb610, _, none⟩) NB587_610.out _).trans (((cell_far (p := ⟨gb610, _, none⟩) NB587_610.out _).trans (((cell_far (p := ⟨gb610, _, none⟩) NB587_610.out _).trans (hHeld.1)))))))))))), ((cell_far (p := ⟨gb610, _, none⟩) NB587_610.out _).trans (((cell_far (p := ⟨gb610, _, none⟩) NB587_610.out _).trans (((cell_far (p := ⟨gb610, _, none⟩) NB587_610.out _).trans (((cell_far (p := ⟨gb610, _, none⟩) NB587_610.out _).trans (((cell_far (p := ⟨gb610, _, none⟩) NB587_610.out _).trans (((cell_far (p := ⟨gb610, _, none⟩) NB587_610.out _).trans (hHeld.2.1)))))))))))), ((cell_far (p := ⟨gb610, _, none⟩) NB587_610.out _).trans (((cell_far (p := ⟨gb610, _, none⟩) NB587_610.out _).trans (((cell_far (p := ⟨gb610, _, none⟩) NB587_610.out _).trans (((cell_far (p := ⟨gb610, _, none⟩) NB587_610.out _).trans (((cell_far (p := ⟨gb610, _, none⟩) NB587_610.out _).trans (((cell_far (p := ⟨gb610, _, none⟩) NB587_610.out _).trans (hHeld.2.2.1)))))))))))), ((cell_far (p := ⟨gb610, _, none⟩) NB587_610.out _).trans (((cell_far (p := ⟨gb610, _, none⟩) NB587_610.out _).trans (((cell_far (p := ⟨gb610, _, none⟩) NB587_610.out _).trans (((cell_far (p := ⟨gb610, _, none⟩) NB587_610.out _).trans (((cell_far (p := ⟨gb610, _, none⟩) NB587_610.out _).trans (((cell_far (p := ⟨gb610, _, none⟩) NB587_610.out _).trans (hHeld.2.2.2.1)))))))))))), ((cell_far (p := ⟨gb610, _, none⟩) NB587_610.out _).trans (((cell_far (p := ⟨gb610, _, none⟩) NB587_610.out _).trans (((cell_far (p := ⟨gb610, _, none⟩) NB587_610.out _).trans (((cell_far (p := ⟨gb610, _, none⟩) NB587_610.out _).trans (((cell_far (p := ⟨gb610, _, none⟩) NB587_610.out _).trans (((cell_far (p := ⟨gb610, _, none⟩) NB587_610.out _).trans (hHeld.2.2.2.2.1)))))))))))), ((cell_far (p := ⟨gb610, _, none⟩) NB587_610.out _).trans (((cell_far (p := ⟨gb610, _, none⟩) NB587_610.out _).trans (((cell_far (p := ⟨gb610, _, none⟩) NB587_610.out _).trans (((cell_far (p := ⟨gb610, _, none⟩) NB587_610.out _).trans (((cell_far (p := ⟨gb610, _, none⟩) NB587_610.out _).trans (((cell_far (p := ⟨gb610, _, none⟩) NB587_610.out _).trans (hHeld.2.2.2.2.2.1)))))))))))), ((cell_far (p := ⟨gb610, _, none⟩) (by first | exact Nat.ne_of_lt (Nat.lt_of_lt_of_le (by have := World.block_lt_of_cell? _ _ hw620_0; first | rwa [add_block] at this | exact this) GW610.out) | (rw [add_block]; exact Nat.ne_of_lt (Nat.lt_of_lt_of_le (by have := World.block_lt_of_cell? _ _ hw620_0; first | rwa [add_block] at this | exact this) GW610.out)) | (show (Addr.add _ _).block ≠ _; rw [add_block]; exact Nat.ne_of_lt (Nat.lt_of_lt_of_le (by have := World.block_lt_of_cell? _ _ hw620_0; first | rwa [add_block] at this | exact this) GW610.out)) | (dsimp only; exact Nat.ne_of_lt (Nat.lt_of_lt_of_le (by have := World.block_lt_of_cell? _ _ hw620_0; first | rwa [add_block] at this | exact this) GW610.out))) _).trans (((cell_far (p := ⟨gb610, _, none⟩) (by first | exact Nat.ne_of_lt (Nat.lt_of_lt_of_le (by have := World.block_lt_of_cell? _ _ hw620_0; first | rwa [add_block] at this | exact this) GW610.out) | (rw [add_block]; exact Nat.ne_of_lt (Nat.lt_of_lt_of_le (by have := World.block_lt_of_cell? _ _ hw620_0; first | rwa [add_block] at this | exact this) GW610.out)) | (show (Addr.add _ _).block ≠ _; rw [add_block]; exact Nat.ne_of_lt (Nat.lt_of_lt_of_le (by have := World.block_lt_of_cell? _ _ hw620_0; first | rwa [add_block] at this | exact this) GW610.out)) | (dsimp only; exact Nat.ne_of_lt (Nat.lt_of_lt_of_le (by have := World.block_lt_of_cell? _ _ hw620_0; first | rwa [add_block] at this | exact this) GW610.out))) _).trans (((cell_far (p := ⟨gb610, _, none⟩) (by first | exact Nat.ne_of_lt (Nat.lt_of_lt_of_le (by have := World.block_lt_of_cell? _ _ hw620_0; first | rwa [add_block] at this | exact this) GW610.out) | (rw [add_block]; exact Nat.ne_of_lt (Nat.lt_of_lt_of_le (by have := World.block_lt_of_cell? _ _ hw620_0; first | rwa [add_block] at this | exact this) GW610.out)) | (show (Addr.add _ _).block ≠ _; rw [add_block]; exact Nat.ne_of_lt (Nat.lt_of_lt_of_le (by have := World.block_lt_of_cell? _ _ hw620_0; first | rwa [add_block] at this | exact this) GW610.out)) | (dsimp only; exact Nat.ne_of_lt (Nat.lt_of_lt_of_le (by have := World.block_lt_of_cell? _ _ hw620_0; first | rwa [add_block] at this | exact this) GW610.out))) _).trans (((cell_far (p := ⟨gb610, _, none⟩) (by first | exact Nat.ne_of_lt (Nat.lt_of_lt_of_le (by have := World.block_lt_of_cell? _ _ hw620_0; first | rwa [add_block] at this | exact this) GW610.out) | (rw [add_block]; exact Nat.ne_of_lt (Nat.lt_of_lt_of_le (by have := World.block_lt_of_cell? _ _ hw620_0; first | rwa [add_block] at this | exact this) GW610.out)) | (show (Addr.add _ _).block ≠ _; rw [add_block]; exact Nat.ne_of_lt (Nat.lt_of_lt_of_le (by have := World.block_lt_of_cell? _ _ hw620_0; first | rwa [add_block] at this | exact this) GW610.out)) | (dsimp only; exact Nat.ne_of_lt (Nat.lt_of_lt_of_le (by have := World.block_lt_of_cell? _ _ hw620_0; first | rwa [add_block] at this | exact this) GW610.out))) _).trans (((cell_far (p := ⟨gb610, _, none⟩) (by first | exact Nat.ne_of_lt (Nat.lt_of_lt_of_le (by have := World.block_lt_of_cell? _ _ hw620_0; first | rwa [add_block] at this | exact this) GW610.out) | (rw [add_block]; exact Nat.ne_of_lt (Nat.lt_of_lt_of_le (by have := World.block_lt_of_cell? _ _ hw620_0; first | rwa [add_block] at this | exact this) GW610.out)) | (show (Addr.add _ _).block ≠ _; rw [add_block]; exact Nat.ne_of_lt (Nat.lt_of_lt_of_le (by have := World.block_lt_of_cell? _ _ hw620_0; first | rwa [add_block] at this | exact this) GW610.out)) | (dsimp only; exact Nat.ne_of_lt (Nat.lt_of_lt_of_le (by have := World.block_lt_of_cell? _ _ hw620_0; first | rwa [add_block] at this | exact this) GW610.out))) _).trans (((cell_far (p := ⟨gb610, _, none⟩) (by first | exact Nat.ne_of_lt (Nat.lt_of_lt_of_le (by have := World.block_lt_of_cell? _ _ hw620_0; first | rwa [add_block] at this | exact this) GW610.out) | (rw [add_block]; exact Nat.ne_of_lt (Nat.lt_of_lt_of_le (by have := World.block_lt_of_cell? _ _ hw620_0; first | rwa [add_block] at this | exact this) GW610.out)) | (show (Addr.add _ _).block ≠ _; rw [add_block]; exact Nat.ne_of_lt (Nat.lt_of_lt_of_le (by have := World.block_lt_of_cell? _ _ hw620_0; first | rwa [add_block] at this | exact this) GW610.out)) | (dsimp only; exact Nat.ne_of_lt (Nat.lt_of_lt_of_le (by have := World.block_lt_of_cell? _ _ hw620_0; first | rwa [add_block] at this | exact this) GW610.out))) _).trans (hHeld.2.2.2.2.2.2))))))))))))⟩ (fun hHeld => ?_)
        clear hK K
        refine pure_ (i := 10) (N := some 15) (v := ?_) (a' := ?_) #[true, true, true, true, true, true, true, true, true, true, true] rfl rfl (any_of HT_.out (by kernel_rfl)) (fun _ _ _ h => h) (Or.inl ⟨by rfl, ?_⟩) ?_ ?_
        rotate_left
        ·intro w'
         go_simp
         with_reducible rfl
        rotate_left
        ·simp only [Act.put, List.setIfInBounds_toArray, List.set_cons_zero, List.set_cons_succ, i64_w, i32_w]
         rfl
        refine done_ (done_of HT_.out (by kernel_rfl)) ?_
        go_upto_if 117 with (fail)
        go_cut [] (fun wc => ∃ (kq : Nat) (x587000_66 : Int) (x587001_66 : Int) (x587002_66 : Int) (x587003_66 : Int) (x587004_66 : Int) (x587005_66 : Int) (x588000_66 : Int) (x588001_66 : Int) (x588002_66 : Int) (x588003_66 : Int) (x588004_66 : Int) (x588005_66 : Int), Aside0 (spigotlaw03_BucketMore.j2 kq l2 l3 x9_2 x587000_66 x587001_66 x587002_66 x587003_66 x587004_66 x587005_66 x588000_66 x588001_66 x588002_66 x588003_66 x588004_66 x588005_66 = some r) ∧ Aside0 (kq ≤ k2) ∧ Aside0 (wc.heap[gb586]? = some (.cells #[.int .i64 x587000_66, .int .i64 x587001_66, .int .i64 x587002_66, .int .i64 x587003_66, .int .i64 x587004_66, .int .u64 x587005_66] 26 (0, 0))) ∧ Aside0 (wc.heap[gb587]? = some (.cells #[.int .i64 x588000_66, .int .i64 x588001_66, .int .i64 x588002_66, .int .i64 x588003_66, .int .i64 x588004_66, .int .u64 x588005_66] 26 (0, 0))) ∧ Aside0 (wc.heap[gb601]? = some (.cells #[.int .i64 t613, .int .i64 t614, .int .i64 t615, .int .i64 t616, .int .i64 t617, .int .u64 t618] 26 (0, 0))) ∧ Aside0 (wc.heap[gb610]? = some (.cells #[.int .i64 t621, .int .i64 t622, .int .i64 t623, .int .i64 t624, .int .i64 t625, .int .u64 t626] 26 (0, 0))) ∧ Aside0 (Below w.heap.size w wc))
        case first =>
         have H := HC67.out
         clear HC67
         by_cases c130 : t619 = 0
         ·rw [if_pos c130] at H
          have c130b0 : (t619 == 0) = true := beq_iff_eq.mpr c130
          have c130b1 : (t619 != 0) = false := bne_eq_false_iff_eq.mpr c130
          clear c130
          (first | rw [c130b0] | (simp only [i64_w, i32_w]; rw [c130b0]) | skip)
          by_cases c131 : t627 = 0
          rotate_left
          ·rw [if_neg c131] at H; exact absurd H (by simp)
          rw [if_pos c131] at H
          have c131b0 : (t627 == 0) = true := beq_iff_eq.mpr c131
          have c131b1 : (t627 != 0) = false := bne_eq_false_iff_eq.mpr c131
          clear c131
          replace H := Option.bind_eq_some_iff.mp H
          obtain ⟨t628, A1320, H⟩ := H
          replace H : (if t628 = true then (spigotlaw03_BucketMore.j2 k2 l2 l3 x9_2 t613 t614 t615 t616 t617 t618 t621 t622 t623 t624 t625 t626) else (none)) = some r := H
          have A132 := Aside0.mk A1320
          clear A1320
          by_cases c133 : t628 = true
          ·subst c133
           have H1 : (spigotlaw03_BucketMore.j2 k2 l2 l3 x9_2 t613 t614 t615 t616 t617 t618 t621 t622 t623 t624 t625 t626) = some r := by rw [if_pos rfl] at H; exact H
           clear H
           have H := H1
           clear H1
           have H' := Aside0.mk H
           clear H
           have hnb134 := NB610_586.out
           have hnc134 := NB586_610.out
           have hnb135 := NB610_587.out
           have hnc135 := NB587_610.out
           have hnb136 := NB610_601.out
           have hnc136 := NB601_610.out
           have hcz137_0 : w123.cell? ⟨gb610, 0, none⟩ = some (.int .i64 t603) := (blk_cell BK610.out 0).trans rfl
           have hcz137_1 : w123.cell? ⟨gb610, 1, none⟩ = some (.int .i64 t604) := (blk_cell BK610.out 1).trans rfl
           have hcz137_2 : w123.cell? ⟨gb610, 2, none⟩ = some (.int .i64 t605) := (blk_cell BK610.out 2).trans rfl
           have hcz137_3 : w123.cell? ⟨gb610, 3, none⟩ = some (.int .i64 t606) := (blk_cell BK610.out 3).trans rfl
           have hcz137_4 : w123.cell? ⟨gb610, 4, none⟩ = some (.int .i64 t607) := (blk_cell BK610.out 4).trans rfl
           have hcz137_5 : w123.cell? ⟨gb610, 5, none⟩ = some (.int .u64 t608) := (blk_cell BK610.out 5).trans rfl
           have hfz137_0 := blk_frozen BK610.out 0
           have hfz137_1 := blk_frozen BK610.out 1
           have hfz137_2 := blk_frozen BK610.out 2
           have hfz137_3 := blk_frozen BK610.out 3
           have hfz137_4 := blk_frozen BK610.out 4
           have hfz137_5 := blk_frozen BK610.out 5
           have hnb138 := NB601_586.out
           have hnc138 := NB586_601.out
           have hnb139 := NB601_587.out
           have hnc139 := NB587_601.out
           have hcz140_0 : w123.cell? ⟨gb601, 0, none⟩ = some (.int .i64 t613) := (blk_cell BK601.out 0).trans rfl
           have hcz140_1 : w123.cell? ⟨gb601, 1, none⟩ = some (.int .i64 t614) := (blk_cell BK601.out 1).trans rfl
           have hcz140_2 : w123.cell? ⟨gb601, 2, none⟩ = some (.int .i64 t615) := (blk_cell BK601.out 2).trans rfl
           have hcz140_3 : w123.cell? ⟨gb601, 3, none⟩ = some (.int .i64 t616) := (blk_cell BK601.out 3).trans rfl
           have hcz140_4 : w123.cell? ⟨gb601, 4, none⟩ = some (.int .i64 t617) := (blk_cell BK601.out 4).trans rfl
           have hcz140_5 : w123.cell? ⟨gb601, 5, none⟩ = some (.int .u64 t618) := (blk_cell BK601.out 5).trans rfl
           have hfz140_0 := blk_frozen BK601.out 0
           have hfz140_1 := blk_frozen BK601.out 1
           have hfz140_2 := blk_frozen BK601.out 2
           have hfz140_3 := blk_frozen BK601.out 3
           have hfz140_4 := blk_frozen BK601.out 4
           have hfz140_5 := blk_frozen BK601.out 5
           try go_wp2_with (first | (go_at_call 28; (with_reducible refine (spigotlaw03_more.calls t621 t622 t623 t624 t625 t626 t613 t614 t615 t616 t617 t618 true _ A132.out).mono ?_); rintro e w141 ⟨rfl, hb⟩; replace BK586 := bf_ BK586 hb; replace BK587 := bf_ BK587 hb; replace BK601 := bf_ BK601 hb; replace BK610 := Aside0.mk (blk_below (g := gb610) (o := .cells #[.int .i64 t621, .int .i64 t622, .int .i64 t623, .int .i64 t624, .int .i64 t625, .int .u64 t626] 26 (0, 0)) (blk_put (cs := #[.int .i64 t621, .int .i64 t622, .int .i64 t623, .int .i64 t624, .int .i64 t625, .int .u64 t608]) (blk_put (cs := #[.int .i64 t621, .int .i64 t622, .int .i64 t623, .int .i64 t624, .int .i64 t607, .int .u64 t608]) (blk_put (cs := #[.int .i64 t621, .int .i64 t622, .int .i64 t623, .int .i64 t606, .int .i64 t607, .int .u64 t608]) (blk_put (cs := #[.int .i64 t621, .int .i64 t622, .int .i64 t605, .int .i64 t606, .int .i64 t607, .int .u64 t608]) (blk_put (cs := #[.int .i64 t621, .int .i64 t604, .int .i64 t605, .int .i64 t606, .int .i64 t607, .int .u64 t608]) (blk_put (cs := #[.int .i64 t603, .int .i64 t604, .int .i64 t605, .int .i64 t606, .int .i64 t607, .int .u64 t608]) (bq_ BK610) 0 _ rfl) 1 _ rfl) 2 _ rfl) 3 _ rfl) 4 _ rfl) 5 _ rfl) hb); replace HB := bs_ w hb; (try clear hb); (try clear hb2); (try clear hk); (try clear hi)))
           replace BK586 := Aside0.mk (blk_drew BK586.out)
           replace BK587 := Aside0.mk (blk_drew BK587.out)
           replace BK601 := Aside0.mk (blk_drew BK601.out)
           replace BK610 := Aside0.mk (blk_drew BK610.out)
           replace HB := Aside0.mk (below_drew1 HB.out)
           refine start_ (n := 4) (S := fun w' => w'.cell? ⟨gb601, 0, none⟩ = some (.int .i64 t613) ∧ w'.cell? ⟨gb601, 1, none⟩ = some (.int .i64 t614) ∧ w'.cell? ⟨gb601, 2, none⟩ = some (.int .i64 t615) ∧ w'.cell? ⟨gb601, 3, none⟩ = some (.int .i64 t616) ∧ w'.cell? ⟨gb601, 4, none⟩ = some (.int .i64 t617) ∧ w'.cell? ⟨gb601, 5, none⟩ = some (.int .u64 t618) ∧ w'.cell? ⟨gb610, 0, none⟩ = some (.int .i64 t621) ∧ w'.cell? ⟨gb610, 1, none⟩ = some (.int .i64 t622) ∧ w'.cell? ⟨gb610, 2, none⟩ = some (.int .i64 t623) ∧ w'.cell? ⟨gb610, 3, none⟩ = some (.int .i64 t624) ∧ w'.cell? ⟨gb610, 4, none⟩ = some (.int .i64 t625) ∧ w'.cell? ⟨gb610, 5, none⟩ = some (.int .u64 t626)) (ds := []) #[false, false, false, false] (by kernel_rfl) rfl rfl ⟨(blk_cell BK601.out 0).trans rfl, (blk_cell BK601.out 1).trans rfl, (blk_cell BK601.out 2).trans rfl, (blk_cell BK601.out 3).trans rfl, (blk_cell BK601.out 4).trans rfl, (blk_cell BK601.out 5).trans rfl, (blk_cell BK610.out 0).trans rfl, (blk_cell BK610.out 1).trans rfl, (blk_cell BK610.out 2).trans rfl, (blk_cell BK610.out 3).trans rfl, (blk_cell BK610.out 4).trans rfl, (blk_cell BK610.out 5).trans rfl⟩ (fun hHeld => ?_)
           generalize w141.drew = w142 at BK586 BK587 BK601 BK610 HB hHeld ⊢
           refine take_ (i := 0) (N := some 126) (v := ?_) (a' := ?_) #[true, false, false, false] rfl rfl (by kernel_rfl) (fun _ _ _ h => h) (Or.inl ⟨by rfl, ?_⟩) hHeld ?_ ?_
           rotate_left
           ·rintro w' ⟨s0, s1, s2, s3, s4, s5, s6, s7, s8, s9, s10, s11⟩
            go_simp
            with_reducible rfl
           rotate_left
           ·simp only [Act.put, List.setIfInBounds_toArray, List.set_cons_zero, List.set_cons_succ, i64_w, i32_w]
            rfl
           refine take_ (i := 1) (N := some 127) (v := ?_) (a' := ?_) #[true, true, false, false] rfl rfl (by kernel_rfl) (fun _ _ _ h => h) (Or.inl ⟨by rfl, ?_⟩) hHeld ?_ ?_
           rotate_left
           ·rintro w' ⟨s0, s1, s2, s3, s4, s5, s6, s7, s8, s9, s10, s11⟩
            go_simp
            with_reducible rfl
           rotate_left
           ·simp only [Act.put, List.setIfInBounds_toArray, List.set_cons_zero, List.set_cons_succ, i64_w, i32_w]
            rfl
           refine one_ (i := 2) (N := none) #[true, true, true, false] rfl rfl (by kernel_rfl) (by decide) (fun K hK => ?_)
           have hs143 : w142.cell? ⟨gb586, 0, none⟩ = some (.int .i64 t594) := (blk_cell BK586.out 0).trans rfl
           have hfs143 := blk_frozen BK586.out 0
           have hns143_1 := NB587_586.out
           have hns143_2 := NB601_586.out
           have hns143_3 := NB610_586.out
           have hms143_1 := NB586_587.out
           have hms143_2 := NB586_601.out
           have hms143_3 := NB586_610.out
           have hs144 : w142.cell? ⟨gb586, 1, none⟩ = some (.int .i64 t595) := (blk_cell BK586.out 1).trans rfl
           have hfs144 := blk_frozen BK586.out 1
           have hns144_1 := NB587_586.out
           have hns144_2 := NB601_586.out
           have hns144_3 := NB610_586.out
           have hms144_1 := NB586_587.out
           have hms144_2 := NB586_601.out
           have hms144_3 := NB586_610.out
           have hs145 : w142.cell? ⟨gb586, 2, none⟩ = some (.int .i64 t596) := (blk_cell BK586.out 2).trans rfl
           have hfs145 := blk_frozen BK586.out 2
           have hns145_1 := NB587_586.out
           have hns145_2 := NB601_586.out
           have hns145_3 := NB610_586.out
           have hms145_1 := NB586_587.out
           have hms145_2 := NB586_601.out
           have hms145_3 := NB586_610.out
           have hs146 : w142.cell? ⟨gb586, 3, none⟩ = some (.int .i64 t597) := (blk_cell BK586.out 3).trans rfl
           have hfs146 := blk_frozen BK586.out 3
           have hns146_1 := NB587_586.out
           have hns146_2 := NB601_586.out
           have hns146_3 := NB610_586.out
           have hms146_1 := NB586_587.out
           have hms146_2 := NB586_601.out
           have hms146_3 := NB586_610.out
           have hs147 : w142.cell? ⟨gb586, 4, none⟩ = some (.int .i64 t598) := (blk_cell BK586.out 4).trans rfl
           have hfs147 := blk_frozen BK586.out 4
           have hns147_1 := NB587_586.out
           have hns147_2 := NB601_586.out
           have hns147_3 := NB610_586.out
           have hms147_1 := NB586_587.out
           have hms147_2 := NB586_601.out
           have hms147_3 := NB586_610.out
           have hs148 : w142.cell? ⟨gb586, 5, none⟩ = some (.int .u64 t599) := (blk_cell BK586.out 5).trans rfl
           have hfs148 := blk_frozen BK586.out 5
           have hns148_1 := NB587_586.out
           have hns148_2 := NB601_586.out
           have hns148_3 := NB610_586.out
           have hms148_1 := NB586_587.out
           have hms148_2 := NB586_601.out
           have hms148_3 := NB586_610.out
           refine skip_ (w1 := ?_) (by rfl) rfl ?_ ?_
           rotate_left
           ·go_simp
            rfl
           refine hK.out _ _ ⟨((cell_far (p := ⟨gb586, _, none⟩) NB601_586.out _).trans (((cell_far (p := ⟨gb586, _, none⟩) NB601_586.out _).trans (((cell_far (p := ⟨gb586, _, none⟩) NB601_586.out _).trans (((cell_far (p := ⟨gb586, _, none⟩) NB601_586.out _).trans (((cell_far (p := ⟨gb586, _, none⟩) NB601_586.out _).trans (((cell_far (p := ⟨gb586, _, none⟩) NB601_586.out _).trans (hHeld.1)))))))))))), ((cell_far (p := ⟨gb586, _, none⟩) NB601_586.out _).trans (((cell_far (p := ⟨gb586, _, none⟩) NB601_586.out _).trans (((cell_far (p := ⟨gb586, _, none⟩) NB601_586.out _).trans (((cell_far (p := ⟨gb586, _, none⟩) NB601_586.out _).trans (((cell_far (p := ⟨gb586, _, none⟩) NB601_586.out _).trans (((cell_far (p := ⟨gb586, _, none⟩) NB601_586.out _).trans (hHeld.2.1)))))))))))), ((cell_far (p := ⟨gb586, _, none⟩) NB601_586.out _).trans (((cell_far (p := ⟨gb586, _, none⟩) NB601_586.out _).trans (((cell_far (p := ⟨gb586, _, none⟩) NB601_586.out _).trans (((cell_far (p := ⟨gb586, _, none⟩) NB601_586.out _).trans (((cell_far (p := ⟨gb586, _, none⟩) NB601_586.out _).trans (((cell_far (p := ⟨gb586, _, none⟩) NB601_586.out _).trans (hHeld.2.2.1)))))))))))), ((cell_far (p := ⟨gb586, _, none⟩) NB601_586.out _).trans (((cell_far (p := ⟨gb586, _, none⟩) NB601_586.out _).trans (((cell_far (p := ⟨gb586, _, none⟩) NB601_586.out _).trans (((cell_far (p := ⟨gb586, _, none⟩) NB601_586.out _).trans (((cell_far (p := ⟨gb586, _, none⟩) NB601_586.out _).trans (((cell_far (p := ⟨gb586, _, none⟩) NB601_586.out _).trans (hHeld.2.2.2.1)))))))))))), ((cell_far (p := ⟨gb586, _, none⟩) NB601_586.out _).trans (((cell_far (p := ⟨gb586, _, none⟩) NB601_586.out _).trans (((cell_far (p := ⟨gb586, _, none⟩) NB601_586.out _).trans (((cell_far (p := ⟨gb586, _, none⟩) NB601_586.out _).trans (((cell_far (p := ⟨gb586, _, none⟩) NB601_586.out _).trans (((cell_far (p := ⟨gb586, _, none⟩) NB601_586.out _).trans (hHeld.2.2.2.2.1)))))))))))), ((cell_far (p := ⟨gb586, _, none⟩) NB601_586.out _).trans (((cell_far (p := ⟨gb586, _, none⟩) NB601_586.out _).trans (((cell_far (p := ⟨gb586, _, none⟩) NB601_586.out _).trans (((cell_far (p := ⟨gb586, _, none⟩) NB601_586.out _).trans (((cell_far (p := ⟨gb586, _, none⟩) NB601_586.out _).trans (((cell_far (p := ⟨gb586, _, none⟩) NB601_586.out _).trans (hHeld.2.2.2.2.2.1)))))))))))), ((cell_far (p := ⟨gb586, _, none⟩) NB610_586.out _).trans (((cell_far (p := ⟨gb586, _, none⟩) NB610_586.out _).trans (((cell_far (p := ⟨gb586, _, none⟩) NB610_586.out _).trans (((cell_far (p := ⟨gb586, _, none⟩) NB610_586.out _).trans (((cell_far (p := ⟨gb586, _, none⟩) NB610_586.out _).trans (((cell_far (p := ⟨gb586, _, none⟩) NB610_586.out _).trans (hHeld.2.2.2.2.2.2.1)))))))))))), ((cell_far (p := ⟨gb586, _, none⟩) NB610_586.out _).trans (((cell_far (p := ⟨gb586, _, none⟩) NB610_586.out _).trans (((cell_far (p := ⟨gb586, _, none⟩) NB610_586.out _).trans (((cell_far (p := ⟨gb586, _, none⟩) NB610_586.out _).trans (((cell_far (p := ⟨gb586, _, none⟩) NB610_586.out _).trans (((cell_far (p := ⟨gb586, _, none⟩) NB610_586.out _).trans (hHeld.2.2.2.2.2.2.2.1)))))))))))), ((cell_far (p := ⟨gb586, _, none⟩) NB610_586.out _).trans (((cell_far (p := ⟨gb586, _, none⟩) NB610_586.out _).trans (((cell_far (p := ⟨gb586, _, none⟩) NB610_586.out _).trans (((cell_far (p := ⟨gb586, _, none⟩) NB610_586.out _).trans (((cell_far (p := ⟨gb586, _, none⟩) NB610_586.out _).trans (((cell_far (p := ⟨gb586, _, none⟩) NB610_586.out _).trans (hHeld.2.2.2.2.2.2.2.2.1)))))))))))), ((cell_far (p := ⟨gb586, _, none⟩) NB610_586.out _).trans (((cell_far (p := ⟨gb586, _, none⟩) NB610_586.out _).trans (((cell_far (p := ⟨gb586, _, none⟩) NB610_586.out _).trans (((cell_far (p := ⟨gb586, _, none⟩) NB610_586.out _).trans (((cell_far (p := ⟨gb586, _, none⟩) NB610_586.out _).trans (((cell_far (p := ⟨gb586, _, none⟩) NB610_586.out _).trans (hHeld.2.2.2.2.2.2.2.2.2.1)))))))))))), ((cell_far (p := ⟨gb586, _, none⟩) NB610_586.out _).trans (((cell_far (p := ⟨gb586, _, none⟩) NB610_586.out _).trans (((cell_far (p := ⟨gb586, _, none⟩) NB610_586.out _).trans (((cell_far (p := ⟨gb586, _, none⟩) NB610_586.out _).trans (((cell_far (p := ⟨gb586, _, none⟩) NB610_586.out _).trans (((cell_far (p := ⟨gb586, _, none⟩) NB610_586.out _).trans (hHeld.2.2.2.2.2.2.2.2.2.2.1)))))))))))), ((cell_far (p := ⟨gb586, _, none⟩) NB610_586.out _).trans (((cell_far (p := ⟨gb586, _, none⟩) NB610_586.out _).trans (((cell_far (p := ⟨gb586, _, none⟩) NB610_586.out _).trans (((cell_far (p := ⟨gb586, _, none⟩) NB610_586.out _).trans (((cell_far (p := ⟨gb586, _, none⟩) NB610_586.out _).trans (((cell_far (p := ⟨gb586, _, none⟩) NB610_586.out _).trans (hHeld.2.2.2.2.2.2.2.2.2.2.2))))))))))))⟩ (fun hHeld => ?_)
           clear hK K
           refine one_ (i := 3) (N := none) #[true, true, true, true] rfl rfl (by kernel_rfl) (by decide) (fun K hK => ?_)
           have hs149 : w142.cell? ⟨gb587, 0, none⟩ = some (.int .i64 t603) := (blk_cell BK587.out 0).trans rfl
           have hfs149 := blk_frozen BK587.out 0
           have hns149_0 := NB586_587.out
           have hns149_2 := NB601_587.out
           have hns149_3 := NB610_587.out
           have hms149_0 := NB587_586.out
           have hms149_2 := NB587_601.out
           have hms149_3 := NB587_610.out
           have hs150 : w142.cell? ⟨gb587, 1, none⟩ = some (.int .i64 t604) := (blk_cell BK587.out 1).trans rfl
           have hfs150 := blk_frozen BK587.out 1
           have hns150_0 := NB586_587.out
           have hns150_2 := NB601_587.out
           have hns150_3 := NB610_587.out
           have hms150_0 := NB587_586.out
           have hms150_2 := NB587_601.out
           have hms150_3 := NB587_610.out
           have hs151 : w142.cell? ⟨gb587, 2, none⟩ = some (.int .i64 t605) := (blk_cell BK587.out 2).trans rfl
           have hfs151 := blk_frozen BK587.out 2
           have hns151_0 := NB586_587.out
           have hns151_2 := NB601_587.out
           have hns151_3 := NB610_587.out
           have hms151_0 := NB587_586.out
           have hms151_2 := NB587_601.out
           have hms151_3 := NB587_610.out
           have hs152 : w142.cell? ⟨gb587, 3, none⟩ = some (.int .i64 t606) := (blk_cell BK587.out 3).trans rfl
           have hfs152 := blk_frozen BK587.out 3
           have hns152_0 := NB586_587.out
           have hns152_2 := NB601_587.out
           have hns152_3 := NB610_587.out
           have hms152_0 := NB587_586.out
           have hms152_2 := NB587_601.out
           have hms152_3 := NB587_610.out
           have hs153 : w142.cell? ⟨gb587, 4, none⟩ = some (.int .i64 t607) := (blk_cell BK587.out 4).trans rfl
           have hfs153 := blk_frozen BK587.out 4
           have hns153_0 := NB586_587.out
           have hns153_2 := NB601_587.out
           have hns153_3 := NB610_587.out
           have hms153_0 := NB587_586.out
           have hms153_2 := NB587_601.out
           have hms153_3 := NB587_610.out
           have hs154 : w142.cell? ⟨gb587, 5, none⟩ = some (.int .u64 t608) := (blk_cell BK587.out 5).trans rfl
           have hfs154 := blk_frozen BK587.out 5
           have hns154_0 := NB586_587.out
           have hns154_2 := NB601_587.out
           have hns154_3 := NB610_587.out
           have hms154_0 := NB587_586.out
           have hms154_2 := NB587_601.out
           have hms154_3 := NB587_610.out
           refine skip_ (w1 := ?_) (by rfl) rfl ?_ ?_
           rotate_left
           ·go_simp
            rfl
           refine hK.out _ _ ⟨((cell_far (p := ⟨gb587, _, none⟩) NB601_587.out _).trans (((cell_far (p := ⟨gb587, _, none⟩) NB601_587.out _).trans (((cell_far (p := ⟨gb587, _, none⟩) NB601_587.out _).trans (((cell_far (p := ⟨gb587, _, none⟩) NB601_587.out _).trans (((cell_far (p := ⟨gb587, _, none⟩) NB601_587.out _).trans (((cell_far (p := ⟨gb587, _, none⟩) NB601_587.out _).trans (hHeld.1)))))))))))), ((cell_far (p := ⟨gb587, _, none⟩) NB601_587.out _).trans (((cell_far (p := ⟨gb587, _, none⟩) NB601_587.out _).trans (((cell_far (p := ⟨gb587, _, none⟩) NB601_587.out _).trans (((cell_far (p := ⟨gb587, _, none⟩) NB601_587.out _).trans (((cell_far (p := ⟨gb587, _, none⟩) NB601_587.out _).trans (((cell_far (p := ⟨gb587, _, none⟩) NB601_587.out _).trans (hHeld.2.1)))))))))))), ((cell_far (p := ⟨gb587, _, none⟩) NB601_587.out _).trans (((cell_far (p := ⟨gb587, _, none⟩) NB601_587.out _).trans (((cell_far (p := ⟨gb587, _, none⟩) NB601_587.out _).trans (((cell_far (p := ⟨gb587, _, none⟩) NB601_587.out _).trans (((cell_far (p := ⟨gb587, _, none⟩) NB601_587.out _).trans (((cell_far (p := ⟨gb587, _, none⟩) NB601_587.out _).trans (hHeld.2.2.1)))))))))))), ((cell_far (p := ⟨gb587, _, none⟩) NB601_587.out _).trans (((cell_far (p := ⟨gb587, _, none⟩) NB601_587.out _).trans (((cell_far (p := ⟨gb587, _, none⟩) NB601_587.out _).trans (((cell_far (p := ⟨gb587, _, none⟩) NB601_587.out _).trans (((cell_far (p := ⟨gb587, _, none⟩) NB601_587.out _).trans (((cell_far (p := ⟨gb587, _, none⟩) NB601_587.out _).trans (hHeld.2.2.2.1)))))))))))), ((cell_far (p := ⟨gb587, _, none⟩) NB601_587.out _).trans (((cell_far (p := ⟨gb587, _, none⟩) NB601_587.out _).trans (((cell_far (p := ⟨gb587, _, none⟩) NB601_587.out _).trans (((cell_far (p := ⟨gb587, _, none⟩) NB601_587.out _).trans (((cell_far (p := ⟨gb587, _, none⟩) NB601_587.out _).trans (((cell_far (p := ⟨gb587, _, none⟩) NB601_587.out _).trans (hHeld.2.2.2.2.1)))))))))))), ((cell_far (p := ⟨gb587, _, none⟩) NB601_587.out _).trans (((cell_far (p := ⟨gb587, _, none⟩) NB601_587.out _).trans (((cell_far (p := ⟨gb587, _, none⟩) NB601_587.out _).trans (((cell_far (p := ⟨gb587, _, none⟩) NB601_587.out _).trans (((cell_far (p := ⟨gb587, _, none⟩) NB601_587.out _).trans (((cell_far (p := ⟨gb587, _, none⟩) NB601_587.out _).trans (hHeld.2.2.2.2.2.1)))))))))))), ((cell_far (p := ⟨gb587, _, none⟩) NB610_587.out _).trans (((cell_far (p := ⟨gb587, _, none⟩) NB610_587.out _).trans (((cell_far (p := ⟨gb587, _, none⟩) NB610_587.out _).trans (((cell_far (p := ⟨gb587, _, none⟩) NB610_587.out _).trans (((cell_far (p := ⟨gb587, _, none⟩) NB610_587.out _).trans (((cell_far (p := ⟨gb587, _, none⟩) NB610_587.out _).trans (hHeld.2.2.2.2.2.2.1)))))))))))), ((cell_far (p := ⟨gb587, _, none⟩) NB610_587.out _).trans (((cell_far (p := ⟨gb587, _, none⟩) NB610_587.out _).trans (((cell_far (p := ⟨gb587, _, none⟩) NB610_587.out _).trans (((cell_far (p := ⟨gb587, _, none⟩) NB610_587.out _).trans (((cell_far (p := ⟨gb587, _, none⟩) NB610_587.out _).trans (((cell_far (p := ⟨gb587, _, none⟩) NB610_587.out _).trans (hHeld.2.2.2.2.2.2.2.1)))))))))))), ((cell_far (p := ⟨gb587, _, none⟩) NB610_587.out _).trans (((cell_far (p := ⟨gb587, _, none⟩) NB610_587.out _).trans (((cell_far (p := ⟨gb587, _, none⟩) NB610_587.out _).trans (((cell_far (p := ⟨gb587, _, none⟩) NB610_587.out _).trans (((cell_far (p := ⟨gb587, _, none⟩) NB610_587.out _).trans (((cell_far (p := ⟨gb587, _, none⟩) NB610_587.out _).trans (hHeld.2.2.2.2.2.2.2.2.1)))))))))))), ((cell_far (p := ⟨gb587, _, none⟩) NB610_587.out _).trans (((cell_far (p := ⟨gb587, _, none⟩) NB610_587.out _).trans (((cell_far (p := ⟨gb587, _, none⟩) NB610_587.out _).trans (((cell_far (p := ⟨gb587, _, none⟩) NB610_587.out _).trans (((cell_far (p := ⟨gb587, _, none⟩) NB610_587.out _).trans (((cell_far (p := ⟨gb587, _, none⟩) NB610_587.out _).trans (hHeld.2.2.2.2.2.2.2.2.2.1)))))))))))), ((cell_far (p := ⟨gb587, _, none⟩) NB610_587.out _).trans (((cell_far (p := ⟨gb587, _, none⟩) NB610_587.out _).trans (((cell_far (p := ⟨gb587, _, none⟩) NB610_587.out _).trans (((cell_far (p := ⟨gb587, _, none⟩) NB610_587.out _).trans (((cell_far (p := ⟨gb587, _, none⟩) NB610_587.out _).trans (((cell_far (p := ⟨gb587, _, none⟩) NB610_587.out _).trans (hHeld.2.2.2.2.2.2.2.2.2.2.1)))))))))))), ((cell_far (p := ⟨gb587, _, none⟩) NB610_587.out _).trans (((cell_far (p := ⟨gb587, _, none⟩) NB610_587.out _).trans (((cell_far (p := ⟨gb587, _, none⟩) NB610_587.out _).trans (((cell_far (p := ⟨gb587, _, none⟩) NB610_587.out _).trans (((cell_far (p := ⟨gb587, _, none⟩) NB610_587.out _).trans (((cell_far (p := ⟨gb587, _, none⟩) NB610_587.out _).trans (hHeld.2.2.2.2.2.2.2.2.2.2.2))))))))))))⟩ (fun hHeld => ?_)
           clear hK K
           refine done_ (by kernel_rfl) ?_
           try go_wp2
           go_meet
           case rel => exact ⟨_, (t613), (t614), (t615), (t616), (t617), (t618), (t621), (t622), (t623), (t624), (t625), (t626), H', ⟨by have := HJ4.out; have := HK2.out; first | omega | exact Nat.le_refl _⟩, ⟨(blk_far (blk_far (blk_far (blk_far (blk_far (blk_far (blk_put (cs := #[.int .i64 t613, .int .i64 t614, .int .i64 t615, .int .i64 t616, .int .i64 t617, .int .u64 t599]) (blk_put (cs := #[.int .i64 t613, .int .i64 t614, .int .i64 t615, .int .i64 t616, .int .i64 t598, .int .u64 t599]) (blk_put (cs := #[.int .i64 t613, .int .i64 t614, .int .i64 t615, .int .i64 t597, .int .i64 t598, .int .u64 t599]) (blk_put (cs := #[.int .i64 t613, .int .i64 t614, .int .i64 t596, .int .i64 t597, .int .i64 t598, .int .u64 t599]) (blk_put (cs := #[.int .i64 t613, .int .i64 t595, .int .i64 t596, .int .i64 t597, .int .i64 t598, .int .u64 t599]) (blk_put (cs := #[.int .i64 t594, .int .i64 t595, .int .i64 t596, .int .i64 t597, .int .i64 t598, .int .u64 t599]) (bq_ BK586) 0 _ rfl) 1 _ rfl) 2 _ rfl) 3 _ rfl) 4 _ rfl) 5 _ rfl) NB586_587.out _) NB586_587.out _) NB586_587.out _) NB586_587.out _) NB586_587.out _) NB586_587.out _)⟩, ⟨(blk_put (cs := #[.int .i64 t621, .int .i64 t622, .int .i64 t623, .int .i64 t624, .int .i64 t625, .int .u64 t608]) (blk_put (cs := #[.int .i64 t621, .int .i64 t622, .int .i64 t623, .int .i64 t624, .int .i64 t607, .int .u64 t608]) (blk_put (cs := #[.int .i64 t621, .int .i64 t622, .int .i64 t623, .int .i64 t606, .int .i64 t607, .int .u64 t608]) (blk_put (cs := #[.int .i64 t621, .int .i64 t622, .int .i64 t605, .int .i64 t606, .int .i64 t607, .int .u64 t608]) (blk_put (cs := #[.int .i64 t621, .int .i64 t604, .int .i64 t605, .int .i64 t606, .int .i64 t607, .int .u64 t608]) (blk_put (cs := #[.int .i64 t603, .int .i64 t604, .int .i64 t605, .int .i64 t606, .int .i64 t607, .int .u64 t608]) (blk_far (blk_far (blk_far (blk_far (blk_far (blk_far (bq_ BK587) NB587_586.out _) NB587_586.out _) NB587_586.out _) NB587_586.out _) NB587_586.out _) NB587_586.out _) 0 _ rfl) 1 _ rfl) 2 _ rfl) 3 _ rfl) 4 _ rfl) 5 _ rfl)⟩, ⟨(blk_far (blk_far (blk_far (blk_far (blk_far (blk_far (blk_far (blk_far (blk_far (blk_far (blk_far (blk_far (bq_ BK601) NB601_586.out _) NB601_586.out _) NB601_586.out _) NB601_586.out _) NB601_586.out _) NB601_586.out _) NB601_587.out _) NB601_587.out _) NB601_587.out _) NB601_587.out _) NB601_587.out _) NB601_587.out _)⟩, ⟨(blk_far (blk_far (blk_far (blk_far (blk_far (blk_far (blk_far (blk_far (blk_far (blk_far (blk_far (blk_far (bq_ BK610) NB610_586.out _) NB610_586.out _) NB610_586.out _) NB610_586.out _) NB610_586.out _) NB610_586.out _) NB610_587.out _) NB610_587.out _) NB610_587.out _) NB610_587.out _) NB610_587.out _) NB610_587.out _)⟩, ⟨by repeat (first | (with_reducible first | exact HB.out | apply below_alloc | apply pw_below_drewN | apply below_drew1 | refine below_set ?_ GE586.out | refine below_set ?_ GE587.out | refine below_set ?_ GE601.out | refine below_set ?_ GE610.out) | exact HB.out)⟩⟩
          ·replace c133 := Bool.eq_false_iff.mpr c133
           subst c133
           have H1 : (none) = some r := by rw [if_neg (show ¬ (false = true) by decide)] at H; exact H
           clear H
           have H := H1
           clear H1
           exact absurd H (by simp)
         ·rw [if_neg c130] at H
          have c130b0 : (t619 == 0) = false := beq_eq_false_iff_ne.mpr c130
          have c130b1 : (t619 != 0) = true := bne_iff_ne.mpr c130
          (first | rw [c130b0] | (simp only [i64_w, i32_w]; rw [c130b0]) | skip)
          have H' := Aside0.mk H
          clear H
          go_wp2
          go_meet
          case rel => exact ⟨_, (t594), (t595), (t596), (t597), (t598), (t599), (t603), (t604), (t605), (t606), (t607), (t608), H', ⟨by have := HJ4.out; have := HK2.out; first | omega | exact Nat.le_refl _⟩, ⟨(blk_far (blk_far (blk_far (blk_far (blk_far (blk_far (bq_ BK586) NB586_610.out _) NB586_610.out _) NB586_610.out _) NB586_610.out _) NB586_610.out _) NB586_610.out _)⟩, ⟨(blk_far (blk_far (blk_far (blk_far (blk_far (blk_far (bq_ BK587) NB587_610.out _) NB587_610.out _) NB587_610.out _) NB587_610.out _) NB587_610.out _) NB587_610.out _)⟩, ⟨(blk_far (blk_far (blk_far (blk_far (blk_far (blk_far (bq_ BK601) NB601_610.out _) NB601_610.out _) NB601_610.out _) NB601_610.out _) NB601_610.out _) NB601_610.out _)⟩, ⟨(blk_put (cs := #[.int .i64 t621, .int .i64 t622, .int .i64 t623, .int .i64 t624, .int .i64 t625, .int .u64 t608]) (blk_put (cs := #[.int .i64 t621, .int .i64 t622, .int .i64 t623, .int .i64 t624, .int .i64 t607, .int .u64 t608]) (blk_put (cs := #[.int .i64 t621, .int .i64 t622, .int .i64 t623, .int .i64 t606, .int .i64 t607, .int .u64 t608]) (blk_put (cs := #[.int .i64 t621, .int .i64 t622, .int .i64 t605, .int .i64 t606, .int .i64 t607, .int .u64 t608]) (blk_put (cs := #[.int .i64 t621, .int .i64 t604, .int .i64 t605, .int .i64 t606, .int .i64 t607, .int .u64 t608]) (blk_put (cs := #[.int .i64 t603, .int .i64 t604, .int .i64 t605, .int .i64 t606, .int .i64 t607, .int .u64 t608]) (bq_ BK610) 0 _ rfl) 1 _ rfl) 2 _ rfl) 3 _ rfl) 4 _ rfl) 5 _ rfl)⟩, ⟨by repeat (first | (with_reducible first | exact HB.out | apply below_alloc | apply pw_below_drewN | apply below_drew1 | refine below_set ?_ GE586.out | refine below_set ?_ GE587.out | refine below_set ?_ GE601.out | refine below_set ?_ GE610.out) | exact HB.out)⟩⟩
        case rest =>
         clear HC67
         try clear c1
         try clear p2
         try clear p6
         try clear q6
         try clear hx6
         try clear c13
         try clear c18
         try clear p61
         try clear q61
         try clear hx61
         try clear p62
         try clear q62
         try clear hx62
         try clear c130
         try clear c130b0
         try clear c130b1
         try clear c131
         try clear c131b0
         try clear c131b1
         try clear c133
         try clear c134
         try clear c135
         try clear c136
         try clear c138
         try clear c139
         try clear hcz137_0
         try clear hcz137_1
         try clear hcz137_2
         try clear hcz137_3
         try clear hcz137_4
         try clear hcz137_5
         try clear hcz140_0
         try clear hcz140_1
         try clear hcz140_2
         try clear hcz140_3
         try clear hcz140_4
         try clear hcz140_5
         try clear hfz137_0
         try clear hfz137_1
         try clear hfz137_2
         try clear hfz137_3
         try clear hfz137_4
         try clear hfz137_5
         try clear hfz140_0
         try clear hfz140_1
         try clear hfz140_2
         try clear hfz140_3
         try clear hfz140_4
         try clear hfz140_5
         try clear hx612_0
         try clear hx620_0
         try clear p612
         try clear p620
         try clear q612
         try clear q620
         obtain ⟨kq, x587000_66, x587001_66, x587002_66, x587003_66, x587004_66, x587005_66, x588000_66, x588001_66, x588002_66, x588003_66, x588004_66, x588005_66, HA, HJ66, BK586, BK587, BK601, BK610, HB⟩ := hcut
         cases kq with
         | zero => exact absurd HA.out (by simp [spigotlaw03_BucketMore.j2])
         | succ kj66 =>
          have H := HA.out
          clear HA
          simp only [spigotlaw03_BucketMore.j2] at H
          by_cases c155 : 0 ≤ x9_2
          rotate_left
          ·rw [if_neg c155] at H; exact absurd H (by simp)
          rw [if_pos c155] at H
          have c155b0 : decide (0 ≤ x9_2) = true := decide_eq_true c155
          clear c155
          by_cases c156 : x9_2 < (l3.length : Int)
          rotate_left
          ·rw [if_neg c156] at H; exact absurd H (by simp)
          rw [if_pos c156] at H
          have c156b0 : decide (x9_2 < (l3.length : Int)) = true := decide_eq_true c156
          clear c156
          replace H := Option.bind_eq_some_iff.mp H
          obtain ⟨⟨t630, t631⟩, A1570, H⟩ := H
          try dsimp only at H
          have A157 := Aside0.mk A1570
          clear A1570
          replace H := Option.bind_eq_some_iff.mp H
          obtain ⟨⟨t633, t634⟩, A1580, H⟩ := H
          try dsimp only at H
          have A158 := Aside0.mk A1580
          clear A1580
          by_cases c159 : t631 = t634
          rotate_left
          ·rw [if_neg c159] at H; exact absurd H (by simp)
          rw [if_pos c159] at H
          have c159b0 : (t631 == t634) = true := beq_iff_eq.mpr c159
          have c159b1 : (t631 != t634) = false := bne_eq_false_iff_eq.mpr c159
          clear c159
          by_cases c160 : t633 > t630
          ·rw [if_pos c160] at H; exact absurd H (by simp)
          rw [if_neg c160] at H
          have c160b0 : decide (t630 < t633) = false := decide_eq_false c160
          clear c160
          have H' := Aside0.mk H
          clear H
          try go_wp2
          replace BK586 := Aside0.mk (blk_drew BK586.out)
          replace BK587 := Aside0.mk (blk_drew BK587.out)
          replace BK601 := Aside0.mk (blk_drew BK601.out)
          replace BK610 := Aside0.mk (blk_drew BK610.out)
          replace HB := Aside0.mk (below_drew1 HB.out)
          have p629 : 0 ≤ (x9_2 : Int) := of_decide_eq_true (by first | (with_reducible assumption) | assumption)
          have q629 : x9_2 < (l3.length : Int) := of_decide_eq_true (by first | (with_reducible assumption) | assumption)
          obtain ⟨ad629, e629, hx629_0⟩ := Kd.at_int HR3.out x9_2 p629 q629
          have hw629_0 := hx629_0
          obtain rfl : ad612 = ad629 := (by injection e629)
          replace hx629_0 := (HB.out.cell (World.block_lt_of_cell? w _ hx629_0)).trans hx629_0
          replace p629 := eq_true p629
          replace q629 := eq_true q629
          refine start_ (n := 11) (S := fun w' => w'.cell? ⟨gb586, 0, none⟩ = some (.int .i64 x587000_66) ∧ w'.cell? ⟨gb586, 1, none⟩ = some (.int .i64 x587001_66) ∧ w'.cell? ⟨gb586, 2, none⟩ = some (.int .i64 x587002_66) ∧ w'.cell? ⟨gb586, 3, none⟩ = some (.int .i64 x587003_66) ∧ w'.cell? ⟨gb586, 4, none⟩ = some (.int .i64 x587004_66) ∧ w'.cell? ⟨gb586, 5, none⟩ = some (.int .u64 x587005_66) ∧ w'.cell? (ad612.add (x9_2).toNat) = some (.int .i64 (rd l3 x9_2))) (ds := []) #[false, false, false, false, false, false, false, false, false, false, false] (by kernel_rfl) rfl rfl ⟨(blk_cell BK586.out 0).trans rfl, (blk_cell BK586.out 1).trans rfl, (blk_cell BK586.out 2).trans rfl, (blk_cell BK586.out 3).trans rfl, (blk_cell BK586.out 4).trans rfl, (blk_cell BK586.out 5).trans rfl, ((HB.out.cell (World.block_lt_of_cell? w _ hw629_0)).trans hw629_0)⟩ (fun hHeld => ?_); refine with_tabW spigotlaw03_BucketMore.tab18 spigotlaw03_BucketMore.bits18 (fun HT_ HW_ => ?_)
          generalize wc.drew = w161 at BK586 BK587 BK601 BK610 HB hx629_0 hHeld ⊢
          refine pure_ (i := 1) (N := some 130) (v := ?_) (a' := ?_) #[false, true, false, false, false, false, false, false, false, false, false] rfl rfl (any_of HT_.out (by kernel_rfl)) (fun _ _ _ h => h) (Or.inl ⟨by rfl, ?_⟩) ?_ ?_
          rotate_left
          ·intro w'
           go_simp
           with_reducible rfl
          rotate_left
          ·simp only [Act.put, List.setIfInBounds_toArray, List.set_cons_zero, List.set_cons_succ, i64_w, i32_w]
           rfl
          refine pure_ (i := 2) (N := some 131) (v := ?_) (a' := ?_) #[false, true, true, false, false, false, false, false, false, false, false] rfl rfl (any_of HT_.out (by kernel_rfl)) (fun _ _ _ h => h) (Or.inl ⟨by rfl, ?_⟩) ?_ ?_
          rotate_left
          ·intro w'
           go_simp
           with_reducible rfl
          rotate_left
          ·simp only [Act.put, List.setIfInBounds_toArray, List.set_cons_zero, List.set_cons_succ, i64_w, i32_w]
           rfl
          refine pure_ (i := 3) (N := some 132) (v := ?_) (a' := ?_) #[false, true, true, true, false, false, false, false, false, false, false] rfl rfl (any_of HT_.out (by kernel_rfl)) (fun _ _ _ h => h) (Or.inl ⟨by rfl, ?_⟩) ?_ ?_
          rotate_left
          ·intro w'
           go_simp
           with_reducible rfl
          rotate_left
          ·simp only [Act.put, List.setIfInBounds_toArray, List.set_cons_zero, List.set_cons_succ, i64_w, i32_w]
           rfl
          refine take_ (i := 0) (N := some 129) (v := ?_) (a' := ?_) #[true, true, true, true, false, false, false, false, false, false, false] rfl rfl (take_ofW HT_.out HW_.out (by kernel_rfl)) (fun _ _ _ h => h) (Or.inl ⟨by rfl, ?_⟩) hHeld ?_ ?_
          rotate_left
          ·rintro w' ⟨s0, s1, s2, s3, s4, s5, s6⟩
           go_simp
           with_reducible rfl
          rotate_left
          ·simp only [Act.put, List.setIfInBounds_toArray, List.set_cons_zero, List.set_cons_succ, i64_w, i32_w]
           rfl
          refine take_ (i := 4) (N := some 133) (v := ?_) (a' := ?_) #[true, true, true, true, true, false, false, false, false, false, false] rfl rfl (take_ofW HT_.out HW_.out (by kernel_rfl)) (fun _ _ _ h => h) (Or.inl ⟨by rfl, ?_⟩) hHeld ?_ ?_
          rotate_left
          ·rintro w' ⟨s0, s1, s2, s3, s4, s5, s6⟩
           go_simp
           with_reducible rfl
          rotate_left
          ·simp only [Act.put, List.setIfInBounds_toArray, List.set_cons_zero, List.set_cons_succ, i64_w, i32_w]
           rfl
          refine one_ (i := 5) (N := some 134) #[true, true, true, true, true, true, false, false, false, false, false] rfl rfl (one_of HT_.out (by kernel_rfl)) (by decide) (fun K hK => ?_)
          refine goes_ Try.func20 (by kernel_rfl) rfl #[.agg #[.int .i64 x587000_66, .int .i64 x587001_66, .int .i64 x587002_66, .int .i64 x587003_66, .int .i64 x587004_66, .int .u64 x587005_66], .int .i64 (rd l3 x9_2)] (by rfl) rfl rfl (by (try simp only [List.map_toArray, List.map_cons, List.map_nil]); first | done | rfl | (simp only [List.length_drop, List.length_take]; rfl)) ?_
          with_reducible refine (bucket_Wait.calls kj66 x587000_66 x587001_66 x587002_66 x587003_66 x587004_66 x587005_66 (rd l3 x9_2) t630 t631 _ A157.out).mono ?_
          rintro e w162 ⟨rfl, hb⟩
          refine ⟨_, rfl, ?_⟩
          replace BK586 := bb_ BK586 hb
          replace BK587 := bb_ BK587 hb
          replace BK601 := bb_ BK601 hb
          replace BK610 := bb_ BK610 hb
          replace HB := bs_ w hb
          (try clear hb)
          (try clear hb2)
          (try clear hk)
          (try clear hi)
          refine hK.out _ _ ⟨(blk_cell BK586.out 0).trans rfl, (blk_cell BK586.out 1).trans rfl, (blk_cell BK586.out 2).trans rfl, (blk_cell BK586.out 3).trans rfl, (blk_cell BK586.out 4).trans rfl, (blk_cell BK586.out 5).trans rfl, ((HB.out.cell (World.block_lt_of_cell? w _ hw629_0)).trans hw629_0)⟩ (fun hHeld => ?_)
          clear hK K
          refine norm_ (a' := ?_) ?_ ?_
          rotate_left
          ·show Act.put _ (some 134) _ = _
           simp only [Act.put, List.setIfInBounds_toArray, List.set_cons_zero, List.set_cons_succ, i64_w, i32_w]
           rfl
          refine pure_ (i := 6) (N := some 128) (v := ?_) (a' := ?_) #[true, true, true, true, true, true, true, false, false, false, false] rfl rfl (any_of HT_.out (by kernel_rfl)) (fun _ _ _ h => h) (Or.inl ⟨by rfl, ?_⟩) ?_ ?_
          rotate_left
          ·intro w'
           go_simp
           with_reducible rfl
          rotate_left
          ·simp only [Act.put, List.setIfInBounds_toArray, List.set_cons_zero, List.set_cons_succ, i64_w, i32_w]
           rfl
          refine pure_ (i := 7) (N := some 135) (v := ?_) (a' := ?_) #[true, true, true, true, true, true, true, true, false, false, false] rfl rfl (any_of HT_.out (by kernel_rfl)) (fun _ _ _ h => h) (Or.inl ⟨by rfl, ?_⟩) ?_ ?_
          rotate_left
          ·intro w'
           go_simp
           with_reducible rfl
          rotate_left
          ·simp only [Act.put, List.setIfInBounds_toArray, List.set_cons_zero, List.set_cons_succ, i64_w, i32_w]
           rfl
          refine pure_ (i := 8) (N := some 136) (v := ?_) (a' := ?_) #[true, true, true, true, true, true, true, true, true, false, false] rfl rfl (any_of HT_.out (by kernel_rfl)) (fun _ _ _ h => h) (Or.inl ⟨by rfl, ?_⟩) ?_ ?_
          rotate_left
          ·intro w'
           go_simp
           with_reducible rfl
          rotate_left
          ·simp only [Act.put, List.setIfInBounds_toArray, List.set_cons_zero, List.set_cons_succ, i64_w, i32_w]
           rfl
          refine pure_ (i := 9) (N := some 16) (v := ?_) (a' := ?_) #[true, true, true, true, true, true, true, true, true, true, false] rfl rfl (any_of HT_.out (by kernel_rfl)) (fun _ _ _ h => h) (Or.inl ⟨by rfl, ?_⟩) ?_ ?_
          rotate_left
          ·intro w'
           go_simp
           with_reducible rfl
          rotate_left
          ·simp only [Act.put, List.setIfInBounds_toArray, List.set_cons_zero, List.set_cons_succ, i64_w, i32_w]
           rfl
          refine pure_ (i := 10) (N := some 17) (v := ?_) (a' := ?_) #[true, true, true, true, true, true, true, true, true, true, true] rfl rfl (any_of HT_.out (by kernel_rfl)) (fun _ _ _ h => h) (Or.inl ⟨by rfl, ?_⟩) ?_ ?_
          rotate_left
          ·intro w'
           go_simp
           with_reducible rfl
          rotate_left
          ·simp only [Act.put, List.setIfInBounds_toArray, List.set_cons_zero, List.set_cons_succ, i64_w, i32_w]
           rfl
          refine done_ (done_of HT_.out (by kernel_rfl)) ?_
          try go_wp2
          replace BK586 := Aside0.mk (blk_drew BK586.out)
          replace BK587 := Aside0.mk (blk_drew BK587.out)
          replace BK601 := Aside0.mk (blk_drew BK601.out)
          replace BK610 := Aside0.mk (blk_drew BK610.out)
          replace HB := Aside0.mk (below_drew1 HB.out)
          have p632 : 0 ≤ (x9_2 : Int) := of_decide_eq_true (by first | (with_reducible assumption) | assumption)
          have q632 : x9_2 < (l3.length : Int) := of_decide_eq_true (by first | (with_reducible assumption) | assumption)
          obtain ⟨ad632, e632, hx632_0⟩ := Kd.at_int HR3.out x9_2 p632 q632
          have hw632_0 := hx632_0
          obtain rfl : ad612 = ad632 := (by injection e632)
          replace hx632_0 := (HB.out.cell (World.block_lt_of_cell? w _ hx632_0)).trans hx632_0
          replace p632 := eq_true p632
          replace q632 := eq_true q632
          refine start_ (n := 11) (S := fun w' => w'.cell? ⟨gb587, 0, none⟩ = some (.int .i64 x588000_66) ∧ w'.cell? ⟨gb587, 1, none⟩ = some (.int .i64 x588001_66) ∧ w'.cell? ⟨gb587, 2, none⟩ = some (.int .i64 x588002_66) ∧ w'.cell? ⟨gb587, 3, none⟩ = some (.int .i64 x588003_66) ∧ w'.cell? ⟨gb587, 4, none⟩ = some (.int .i64 x588004_66) ∧ w'.cell? ⟨gb587, 5, none⟩ = some (.int .u64 x588005_66) ∧ w'.cell? (ad612.add (x9_2).toNat) = some (.int .i64 (rd l3 x9_2))) (ds := []) #[false, false, false, false, false, false, false, false, false, false, false] (by kernel_rfl) rfl rfl ⟨(blk_cell BK587.out 0).trans rfl, (blk_cell BK587.out 1).trans rfl, (blk_cell BK587.out 2).trans rfl, (blk_cell BK587.out 3).trans rfl, (blk_cell BK587.out 4).trans rfl, (blk_cell BK587.out 5).trans rfl, ((HB.out.cell (World.block_lt_of_cell? w _ hw632_0)).trans hw632_0)⟩ (fun hHeld => ?_); refine with_tabW spigotlaw03_BucketMore.tab19 spigotlaw03_BucketMore.bits19 (fun HT_ HW_ => ?_)
          generalize w162.drew = w163 at BK586 BK587 BK601 BK610 HB hx632_0 hHeld ⊢
          refine pure_ (i := 1) (N := some 139) (v := ?_) (a' := ?_) #[false, true, false, false, false, false, false, false, false, false, false] rfl rfl (any_of HT_.out (by kernel_rfl)) (fun _ _ _ h => h) (Or.inl ⟨by rfl, ?_⟩) ?_ ?_
          rotate_left
          ·intro w'
           go_simp
           with_reducible rfl
          rotate_left
          ·simp only [Act.put, List.setIfInBounds_toArray, List.set_cons_zero, List.set_cons_succ, i64_w, i32_w]
           rfl
          refine pure_ (i := 2) (N := some 140) (v := ?_) (a' := ?_) #[false, true, true, false, false, false, false, false, false, false, false] rfl rfl (any_of HT_.out (by kernel_rfl)) (fun _ _ _ h => h) (Or.inl ⟨by rfl, ?_⟩) ?_ ?_
          rotate_left
          ·intro w'
           go_simp
           with_reducible rfl
          rotate_left
          ·simp only [Act.put, List.setIfInBounds_toArray, List.set_cons_zero, List.set_cons_succ, i64_w, i32_w]
           rfl
          refine pure_ (i := 3) (N := some 141) (v := ?_) (a' := ?_) #[false, true, true, true, false, false, false, false, false, false, false] rfl rfl (any_of HT_.out (by kernel_rfl)) (fun _ _ _ h => h) (Or.inl ⟨by rfl, ?_⟩) ?_ ?_
          rotate_left
          ·intro w'
           go_simp
           with_reducible rfl
          rotate_left
          ·simp only [Act.put, List.setIfInBounds_toArray, List.set_cons_zero, List.set_cons_succ, i64_w, i32_w]
           rfl
          refine take_ (i := 0) (N := some 138) (v := ?_) (a' := ?_) #[true, true, true, true, false, false, false, false, false, false, false] rfl rfl (take_ofW HT_.out HW_.out (by kernel_rfl)) (fun _ _ _ h => h) (Or.inl ⟨by rfl, ?_⟩) hHeld ?_ ?_
          rotate_left
          ·rintro w' ⟨s0, s1, s2, s3, s4, s5, s6⟩
           go_simp
           with_reducible rfl
          rotate_left
          ·simp only [Act.put, List.setIfInBounds_toArray, List.set_cons_zero, List.set_cons_succ, i64_w, i32_w]
           rfl
          refine take_ (i := 4) (N := some 142) (v := ?_) (a' := ?_) #[true, true, true, true, true, false, false, false, false, false, false] rfl rfl (take_ofW HT_.out HW_.out (by kernel_rfl)) (fun _ _ _ h => h) (Or.inl ⟨by rfl, ?_⟩) hHeld ?_ ?_
          rotate_left
          ·rintro w' ⟨s0, s1, s2, s3, s4, s5, s6⟩
           go_simp
           with_reducible rfl
          rotate_left
          ·simp only [Act.put, List.setIfInBounds_toArray, List.set_cons_zero, List.set_cons_succ, i64_w, i32_w]
           rfl
          refine one_ (i := 5) (N := some 143) #[true, true, true, true, true, true, false, false, false, false, false] rfl rfl (one_of HT_.out (by kernel_rfl)) (by decide) (fun K hK => ?_)
          refine goes_ Try.func20 (by kernel_rfl) rfl #[.agg #[.int .i64 x588000_66, .int .i64 x588001_66, .int .i64 x588002_66, .int .i64 x588003_66, .int .i64 x588004_66, .int .u64 x588005_66], .int .i64 (rd l3 x9_2)] (by rfl) rfl rfl (by (try simp only [List.map_toArray, List.map_cons, List.map_nil]); first | done | rfl | (simp only [List.length_drop, List.length_take]; rfl)) ?_
          with_reducible refine (bucket_Wait.calls kj66 x588000_66 x588001_66 x588002_66 x588003_66 x588004_66 x588005_66 (rd l3 x9_2) t633 t634 _ A158.out).mono ?_
          rintro e w164 ⟨rfl, hb⟩
          refine ⟨_, rfl, ?_⟩
          replace BK586 := bb_ BK586 hb
          replace BK587 := bb_ BK587 hb
          replace BK601 := bb_ BK601 hb
          replace BK610 := bb_ BK610 hb
          replace HB := bs_ w hb
          (try clear hb)
          (try clear hb2)
          (try clear hk)
          (try clear hi)
          refine hK.out _ _ ⟨(blk_cell BK587.out 0).trans rfl, (blk_cell BK587.out 1).trans rfl, (blk_cell BK587.out 2).trans rfl, (blk_cell BK587.out 3).trans rfl, (blk_cell BK587.out 4).trans rfl, (blk_cell BK587.out 5).trans rfl, ((HB.out.cell (World.block_lt_of_cell? w _ hw632_0)).trans hw632_0)⟩ (fun hHeld => ?_)
          clear hK K
          refine norm_ (a' := ?_) ?_ ?_
          rotate_left
          ·show Act.put _ (some 143) _ = _
           simp only [Act.put, List.setIfInBounds_toArray, List.set_cons_zero, List.set_cons_succ, i64_w, i32_w]
           rfl
          refine pure_ (i := 6) (N := some 137) (v := ?_) (a' := ?_) #[true, true, true, true, true, true, true, false, false, false, false] rfl rfl (any_of HT_.out (by kernel_rfl)) (fun _ _ _ h => h) (Or.inl ⟨by rfl, ?_⟩) ?_ ?_
          rotate_left
          ·intro w'
           go_simp
           with_reducible rfl
          rotate_left
          ·simp only [Act.put, List.setIfInBounds_toArray, List.set_cons_zero, List.set_cons_succ, i64_w, i32_w]
           rfl
          refine pure_ (i := 7) (N := some 144) (v := ?_) (a' := ?_) #[true, true, true, true, true, true, true, true, false, false, false] rfl rfl (any_of HT_.out (by kernel_rfl)) (fun _ _ _ h => h) (Or.inl ⟨by rfl, ?_⟩) ?_ ?_
          rotate_left
          ·intro w'
           go_simp
           with_reducible rfl
          rotate_left
          ·simp only [Act.put, List.setIfInBounds_toArray, List.set_cons_zero, List.set_cons_succ, i64_w, i32_w]
           rfl
          refine pure_ (i := 8) (N := some 145) (v := ?_) (a' := ?_) #[true, true, true, true, true, true, true, true, true, false, false] rfl rfl (any_of HT_.out (by kernel_rfl)) (fun _ _ _ h => h) (Or.inl ⟨by rfl, ?_⟩) ?_ ?_
          rotate_left
          ·intro w'
           go_simp
           with_reducible rfl
          rotate_left
          ·simp only [Act.put, List.setIfInBounds_toArray, List.set_cons_zero, List.set_cons_succ, i64_w, i32_w]
           rfl
          refine pure_ (i := 9) (N := some 18) (v := ?_) (a' := ?_) #[true, true, true, true, true, true, true, true, true, true, false] rfl rfl (any_of HT_.out (by kernel_rfl)) (fun _ _ _ h => h) (Or.inl ⟨by rfl, ?_⟩) ?_ ?_
          rotate_left
          ·intro w'
           go_simp
           with_reducible rfl
          rotate_left
          ·simp only [Act.put, List.setIfInBounds_toArray, List.set_cons_zero, List.set_cons_succ, i64_w, i32_w]
           rfl
          refine pure_ (i := 10) (N := some 19) (v := ?_) (a' := ?_) #[true, true, true, true, true, true, true, true, true, true, true] rfl rfl (any_of HT_.out (by kernel_rfl)) (fun _ _ _ h => h) (Or.inl ⟨by rfl, ?_⟩) ?_ ?_
          rotate_left
          ·intro w'
           go_simp
           with_reducible rfl
          rotate_left
          ·simp only [Act.put, List.setIfInBounds_toArray, List.set_cons_zero, List.set_cons_succ, i64_w, i32_w]
           rfl
          refine done_ (done_of HT_.out (by kernel_rfl)) ?_
          try go_wp2
          go_roundg kj66
          case measure => have := HJ4.out; have := HK2.out; have := HJ66.out; omega
          case rel => exact ⟨(wrap64 (x9_2 + 1)), (x587000_66), (x587001_66), (x587002_66), (x587003_66), (x587004_66), (x587005_66), (x588000_66), (x588001_66), (x588002_66), (x588003_66), (x588004_66), (x588005_66), (by first | rfl | (simp; done) | (simp [*]; done)), H', ⟨by have := HJ4.out; have := HK2.out; have := HJ66.out; omega⟩, ⟨bq_ BK586⟩, ⟨bq_ BK587⟩, ⟨by repeat (first | (with_reducible first | exact HB.out | apply below_alloc | apply pw_below_drewN | apply below_drew1 | refine below_set ?_ GE586.out | refine below_set ?_ GE587.out | refine below_set ?_ GE601.out | refine below_set ?_ GE610.out) | exact HB.out)⟩⟩
       ·replace c62 := Bool.eq_false_iff.mpr c62
        subst c62
        have H1 : (none) = some r := by rw [if_neg (show ¬ (false = true) by decide)] at H; exact H
        clear H
        have H := H1
        clear H1
        exact absurd H (by simp)
      ·rw [if_neg c55] at H
       have c55b0 : decide (x9_2 < (l2.length : Int)) = false := decide_eq_false c55
       clear c55
       replace H := Option.bind_eq_some_iff.mp H
       obtain ⟨t592, A1650, H⟩ := H
       replace H : (some t592) = some r := H
       have A165 := Aside0.mk A1650
       clear A1650
       obtain rfl := Option.some.inj H
       go_wp2_with (first | ((with_reducible refine gate_callee (f := 27) rfl ?_); refine goesL_ (some 154) rfl rfl Try.func27 (by kernel_rfl) rfl #[] rfl (by (try simp only [List.map_toArray, List.map_cons, List.map_nil]); first | done | rfl | (simp only [List.length_drop, List.length_take]; rfl)) ?_; (with_reducible refine (spigotlaw03_alive.calls k2  t592 _ A165.out).mono ?_); rintro e w166 ⟨rfl, hb⟩; refine ⟨_, rfl, ?_⟩; replace BK586 := bb_ BK586 hb; replace BK587 := bb_ BK587 hb; replace HB := bs_ w hb; (try clear hb); (try clear hb2); (try clear hk); (try clear hi)))
       go_ret
       exact ⟨by first | rfl | (simp [errW_none, errW_some] <;> rfl) | (simp [*, errW_none, errW_some] <;> rfl), by repeat (first | (with_reducible first | exact HB.out | apply below_alloc | apply pw_below_drewN | apply below_drew1 | refine below_set ?_ GE586.out | refine below_set ?_ GE587.out) | exact HB.out)⟩

end Go.Proofs.Ytmfkedeaifdfdaa.X
