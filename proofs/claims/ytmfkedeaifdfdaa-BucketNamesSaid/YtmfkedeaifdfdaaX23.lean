-- written by xprint.py, a program of this session over the kit's print
import Derived.Test.YtmfkedeaifdfdaaX0
import Derived.Test.YtmfkedeaifdfdaaX2
import Derived.Test.YtmfkedeaifdfdaaX4
import Derived.Test.YtmfkedeaifdfdaaX5
import Derived.Test.YtmfkedeaifdfdaaX10
import Derived.Test.YtmfkedeaifdfdaaX16
import Derived.Test.YtmfkedeaifdfdaaX18
import Derived.Test.YtmfkedeaifdfdaaX20
import Derived.Test.YtmfkedeaifdfdaaX22
namespace Go.Proofs.Ytmfkedeaifdfdaa.X
open Go.RowKit Go.Proofs.YtmfkedeaifdfdaaW.PrintWords Go.Proofs.YtmfkedeaifdfdaaW.PrintLast Go.Proofs.YtmfkedeaifdfdaaW.PrintMore
attribute [local go_sem] max2_int min2_int max_two min_two max_three min_three max_four min_four   -- for this text's walks alone
set_option linter.unusedVariables false
set_option linter.unusedSimpArgs false

attribute [local go_sem high] eqA26
/-! ### spigotlaw03_BucketNames: function 5 -/
mutual
def spigotlaw03_BucketNames.l0 : Nat → List (S23) → Int → Option (Bool)
  | 0, _, _ => none
  | k + 1, x1, x2 => if x2 < (x1.length : Int) then (if 0 ≤ x2 then ((bucket_Full.f ((rd_T23 x1 x2).f0) ((rd_T23 x1 x2).f1) ((rd_T23 x1 x2).f2) 0).bind fun bt400 => ((spigotlaw03_given.f).bind fun bt408 => ((bucket_Change.f k bt408.1 bt408.2.1 bt408.2.2.1 bt408.2.2.2.1 bt408.2.2.2.2.1 bt408.2.2.2.2.2 ((rd_T23 x1 x2).f0) ((rd_T23 x1 x2).f1) ((rd_T23 x1 x2).f2) 0).bind fun bt415 => ((bucket_CheckLimit.f ((rd_T23 x1 x2).f0) ((rd_T23 x1 x2).f1) ((rd_T23 x1 x2).f2)).bind fun t424 => (if t424 = 8 then (if bt400.2.2.2.2.2.2 = 8 then (if bt415.2.2.2.2.2.2 = 8 then ((bucket_Check.f ((rd_T23 x1 x2).f0) ((rd_T23 x1 x2).f1) ((rd_T23 x1 x2).f2) 0 0 0).bind fun t426 => (if t426 = 8 then (spigotlaw03_BucketNames.l0 k x1 (wrap64 (x2 + 1))) else (none))) else (none)) else (none)) else (none)))))) else (none)) else (spigotlaw03_BucketNames.l1 k (([(⟨(⟨5, 2, 3⟩ : S23), (-1), 0, 0⟩ : S26), (⟨(⟨5, 2, 3⟩ : S23), 6, 0, 0⟩ : S26), (⟨(⟨5, 2, 3⟩ : S23), 0, (-1), 0⟩ : S26), (⟨(⟨5, 2, 3⟩ : S23), 0, 3, 0⟩ : S26), (⟨(⟨5, 2, 3⟩ : S23), 5, 1, 0⟩ : S26)] : List (S26))) 0 5 2 3)
def spigotlaw03_BucketNames.l1 : Nat → List (S26) → Int → Int → Int → Int → Option (Bool)
  | 0, _, _, _, _, _ => none
  | k + 1, x8, x9, x428000, x428001, x428002 => if x9 < (x8.length : Int) then (if 0 ≤ x9 then ((bucket_Refill.f k ((rd_T26 x8 x9).f0.f0) ((rd_T26 x8 x9).f0.f1) ((rd_T26 x8 x9).f0.f2) ((rd_T26 x8 x9).f1) ((rd_T26 x8 x9).f2) ((rd_T26 x8 x9).f3) 9).bind fun bt432 => ((bucket_Charge.f ((rd_T26 x8 x9).f0.f0) ((rd_T26 x8 x9).f0.f1) ((rd_T26 x8 x9).f0.f2) ((rd_T26 x8 x9).f1) ((rd_T26 x8 x9).f2) ((rd_T26 x8 x9).f3) (-1)).bind fun bt441 => ((bucket_Wait.f k ((rd_T26 x8 x9).f0.f0) ((rd_T26 x8 x9).f0.f1) ((rd_T26 x8 x9).f0.f2) ((rd_T26 x8 x9).f1) ((rd_T26 x8 x9).f2) ((rd_T26 x8 x9).f3) (-1)).bind fun bt450 => ((bucket_Check.f ((rd_T26 x8 x9).f0.f0) ((rd_T26 x8 x9).f0.f1) ((rd_T26 x8 x9).f0.f2) ((rd_T26 x8 x9).f1) ((rd_T26 x8 x9).f2) ((rd_T26 x8 x9).f3)).bind fun t453 => (if t453 = 8 then (if bt432.2.2.2.2.2.2 = 8 then (if bt441.2.2.2.2.2.2 = 8 then (if bt450.2 = 8 then (spigotlaw03_BucketNames.l1 k x8 (wrap64 (x9 + 1)) x428000 x428001 x428002) else (none)) else (none)) else (none)) else (none)))))) else (none)) else ((spigotlaw03_given.f).bind fun bt454 => ((bucket_Charge.f bt454.1 bt454.2.1 bt454.2.2.1 bt454.2.2.2.1 bt454.2.2.2.2.1 bt454.2.2.2.2.2 (-1)).bind fun bt460 => ((spigotlaw03_given.f).bind fun bt468 => ((bucket_Charge.f bt468.1 bt468.2.1 bt468.2.2.1 bt468.2.2.2.1 bt468.2.2.2.2.1 bt468.2.2.2.2.2 2).bind fun bt474 => ((spigotlaw03_given.f).bind fun bt482 => ((bucket_Wait.f k bt482.1 bt482.2.1 bt482.2.2.1 bt482.2.2.2.1 bt482.2.2.2.2.1 bt482.2.2.2.2.2 (-1)).bind fun bt488 => ((spigotlaw03_given.f).bind fun bt490 => ((bucket_Charge.f bt490.1 bt490.2.1 bt490.2.2.1 bt490.2.2.2.1 bt490.2.2.2.2.1 bt490.2.2.2.2.2 0).bind fun bt496 => ((bucket_Refill.f k x428000 x428001 x428002 0 0 7 6).bind fun bt508 => ((spigotlaw03_holds.f k 1000000000 0 1000000000 0 0 0 18446744073709551615 0 0).bind fun t516 => (if t516 = true then ((spigotlaw03_holds.f k 1000000000 1 1000000000 0 0 0 18446744073709551615 1000000000 0).bind fun t517 => (if t517 = true then ((spigotlaw03_holds.f k 1000000000 1 1000000000 0 0 0 999999999 0 999999999).bind fun t518 => (if t518 = true then ((spigotlaw03_holds.f k 1000000000 1000000000 1 0 0 0 1 1000000000 0).bind fun t519 => (if t519 = true then ((spigotlaw03_holds.f k 1000000000 1000000000 1 0 0 0 18446744073709551615 1000000000 0).bind fun t520 => (if t520 = true then ((spigotlaw03_holds.f k 3 1 2 0 0 18446744073709551612 18446744073709551615 1 1).bind fun t521 => ((spigotlaw03_waits.f k 1000000000 0 1000000000 0 0 0 1 18446744073709551615).bind fun t522 => (if t522 = true then ((spigotlaw03_waits.f k 1000000000 0 1000000000 0 0 0 0 0).bind fun t523 => (if t523 = true then ((spigotlaw03_waits.f k 1000000000 1 1000000000 0 0 0 1000000000 1000000000000000000).bind fun t524 => (if t524 = true then ((spigotlaw03_waits.f k 1000000000 1000000000 1 0 0 0 1000000000 1).bind fun t525 => (if t525 = true then ((spigotlaw03_waits.f k 3 1 2 0 0 18446744073709551612 1 2).bind fun t526 => (if t526 = true then ((spigotlaw03_waits.f k 3 1 2 0 0 18446744073709551612 2 18446744073709551615).bind fun t527 => (if t527 = true then ((spigotlaw03_waits.f k 3 1 2 0 0 18446744073709551612 9223372036854775807 18446744073709551615).bind fun t528 => (if bt460.2.2.2.2.2.2 = 2 then (if bt474.2.2.2.2.2.2 = 20 then (if bt488.2 = 2 then (if bt496.2.2.2.2.2.2 = 0 then ((spigotlaw03_given.f).bind fun bt529 => (if ((bt496.1 == bt529.1 && (bt496.2.1 == bt529.2.1 && (bt496.2.2.1 == bt529.2.2.1))) && (bt496.2.2.2.1 == bt529.2.2.2.1 && (bt496.2.2.2.2.1 == bt529.2.2.2.2.1 && (bt496.2.2.2.2.2.1 == bt529.2.2.2.2.2)))) = true then (if bt508.2.2.2.2.2.2 = 0 then (if ((bt508.1 == x428000 && (bt508.2.1 == x428001 && (bt508.2.2.1 == x428002))) && (bt508.2.2.2.1 == 0 && (bt508.2.2.2.2.1 == 0 && (bt508.2.2.2.2.2.1 == 7)))) = true then (if t521 = true then (if t528 = true then ((spigotlaw03_alive.f k).bind fun t535 => (some t535)) else (none)) else (none)) else (none)) else (none)) else (none))) else (none)) else (none)) else (none)) else (none))) else (none))) else (none))) else (none))) else (none))) else (none))) else (none)))) else (none))) else (none))) else (none))) else (none))) else (none))))))))))))
end
def spigotlaw03_BucketNames.f (k : Nat)  : Option (Bool) := spigotlaw03_BucketNames.l0 k (([(⟨0, 0, 0⟩ : S23), (⟨1, 0, 0⟩ : S23), (⟨0, 0, 1⟩ : S23), (⟨1000000001, 0, 1⟩ : S23), (⟨1, (-1), 1⟩ : S23), (⟨1, 1000000001, 1⟩ : S23), (⟨1, 0, 1000000001⟩ : S23), (⟨1, 9223372036854775807, 1⟩ : S23)] : List (S23))) 0
theorem spigotlaw03_BucketNames.mono_l : ∀ k, (∀ y0 y1, LeO (spigotlaw03_BucketNames.l0 k y0 y1) (spigotlaw03_BucketNames.l0 (k + 1) y0 y1)) ∧ (∀ y0 y1 y2 y3 y4, LeO (spigotlaw03_BucketNames.l1 k y0 y1 y2 y3 y4) (spigotlaw03_BucketNames.l1 (k + 1) y0 y1 y2 y3 y4))
  | 0 => ⟨fun _ _ r h => by simp [spigotlaw03_BucketNames.l0] at h, fun _ _ _ _ _ r h => by simp [spigotlaw03_BucketNames.l1] at h⟩
  | k + 1 => by
    obtain ⟨ih0, ih1⟩ := spigotlaw03_BucketNames.mono_l k
    refine ⟨?_, ?_⟩
    · intro y0 y1
      unfold spigotlaw03_BucketNames.l0
      repeat' first
      | (with_reducible exact ih0 _ _)
      | (with_reducible exact ih1 _ _ _ _ _)
      | (with_reducible exact bucket_Change.mono _ _ _ _ _ _ _ _ _ _ _)
      | (with_reducible exact bucket_Refill.mono _ _ _ _ _ _ _ _)
      | (with_reducible exact bucket_Wait.mono _ _ _ _ _ _ _ _)
      | (with_reducible exact spigotlaw03_alive.mono _)
      | (with_reducible exact spigotlaw03_holds.mono _ _ _ _ _ _ _ _ _ _)
      | (with_reducible exact spigotlaw03_waits.mono _ _ _ _ _ _ _ _ _)
      | (with_reducible exact LeO.refl _)
      | (with_reducible exact LeO.none _)
      | (with_reducible refine LeO.ite ?_ ?_)
      | (with_reducible refine LeO.bind ?_ (fun _ => ?_))
      | exact ih0 _ _
      | exact ih1 _ _ _ _ _
      | exact bucket_Change.mono _ _ _ _ _ _ _ _ _ _ _
      | exact bucket_Refill.mono _ _ _ _ _ _ _ _
      | exact bucket_Wait.mono _ _ _ _ _ _ _ _
      | exact spigotlaw03_alive.mono _
      | exact spigotlaw03_holds.mono _ _ _ _ _ _ _ _ _ _
      | exact spigotlaw03_waits.mono _ _ _ _ _ _ _ _ _
      | exact LeO.none _
      | refine LeO.ite ?_ ?_
      | refine LeO.bind ?_ (fun _ => ?_)
    · intro y0 y1 y2 y3 y4
      unfold spigotlaw03_BucketNames.l1
      repeat' first
      | (with_reducible exact ih0 _ _)
      | (with_reducible exact ih1 _ _ _ _ _)
      | (with_reducible exact bucket_Change.mono _ _ _ _ _ _ _ _ _ _ _)
      | (with_reducible exact bucket_Refill.mono _ _ _ _ _ _ _ _)
      | (with_reducible exact bucket_Wait.mono _ _ _ _ _ _ _ _)
      | (with_reducible exact spigotlaw03_alive.mono _)
      | (with_reducible exact spigotlaw03_holds.mono _ _ _ _ _ _ _ _ _ _)
      | (with_reducible exact spigotlaw03_waits.mono _ _ _ _ _ _ _ _ _)
      | (with_reducible exact LeO.refl _)
      | (with_reducible exact LeO.none _)
      | (with_reducible refine LeO.ite ?_ ?_)
      | (with_reducible refine LeO.bind ?_ (fun _ => ?_))
      | exact ih0 _ _
      | exact ih1 _ _ _ _ _
      | exact bucket_Change.mono _ _ _ _ _ _ _ _ _ _ _
      | exact bucket_Refill.mono _ _ _ _ _ _ _ _
      | exact bucket_Wait.mono _ _ _ _ _ _ _ _
      | exact spigotlaw03_alive.mono _
      | exact spigotlaw03_holds.mono _ _ _ _ _ _ _ _ _ _
      | exact spigotlaw03_waits.mono _ _ _ _ _ _ _ _ _
      | exact LeO.none _
      | refine LeO.ite ?_ ?_
      | refine LeO.bind ?_ (fun _ => ?_)
theorem spigotlaw03_BucketNames.mono : ∀ k, LeO (spigotlaw03_BucketNames.f k ) (spigotlaw03_BucketNames.f (k + 1) ) := by
  intro  k
  obtain ⟨ih0, ih1⟩ := spigotlaw03_BucketNames.mono_l k
  unfold spigotlaw03_BucketNames.f
  repeat' first
      | (with_reducible exact ih0 _ _)
      | (with_reducible exact ih1 _ _ _ _ _)
      | (with_reducible exact bucket_Change.mono _ _ _ _ _ _ _ _ _ _ _)
      | (with_reducible exact bucket_Refill.mono _ _ _ _ _ _ _ _)
      | (with_reducible exact bucket_Wait.mono _ _ _ _ _ _ _ _)
      | (with_reducible exact spigotlaw03_alive.mono _)
      | (with_reducible exact spigotlaw03_holds.mono _ _ _ _ _ _ _ _ _ _)
      | (with_reducible exact spigotlaw03_waits.mono _ _ _ _ _ _ _ _ _)
      | (with_reducible exact LeO.refl _)
      | (with_reducible exact LeO.none _)
      | (with_reducible refine LeO.ite ?_ ?_)
      | (with_reducible refine LeO.bind ?_ (fun _ => ?_))
      | exact ih0 _ _
      | exact ih1 _ _ _ _ _
      | exact bucket_Change.mono _ _ _ _ _ _ _ _ _ _ _
      | exact bucket_Refill.mono _ _ _ _ _ _ _ _
      | exact bucket_Wait.mono _ _ _ _ _ _ _ _
      | exact spigotlaw03_alive.mono _
      | exact spigotlaw03_holds.mono _ _ _ _ _ _ _ _ _ _
      | exact spigotlaw03_waits.mono _ _ _ _ _ _ _ _ _
      | exact LeO.none _
      | refine LeO.ite ?_ ?_
      | refine LeO.bind ?_ (fun _ => ?_)
def spigotlaw03_BucketNames.T6 : Bool × List (List Nat × List Nat) := (true, [([], []), ([], []), ([], []), ([1, 2], [1, 2]), ([3], [3]), ([0, 4, 0], [0, 4]), ([5], [5]), ([6], [6]), ([6], [6]), ([], []), ([9, 7, 5, 0, 1, 2, 3, 4, 5, 6, 7, 9], [7, 9]), ([8, 10, 0, 1, 2, 3, 4, 5, 6, 7, 8, 9, 10], [8])])
def spigotlaw03_BucketNames.B6 : List Nat := [0, 0, 0, 6, 14, 31, 63, 127, 127, 0, 767, 2047]
theorem spigotlaw03_BucketNames.tab6 : rtab .any (opsOf Try.f5 6) = spigotlaw03_BucketNames.T6 := by kernel_rfl
theorem spigotlaw03_BucketNames.bits6 : waitsOk spigotlaw03_BucketNames.T6.2 spigotlaw03_BucketNames.B6 = true := by kernel_rfl
def spigotlaw03_BucketNames.T30 : Bool × List (List Nat × List Nat) := (true, [([], []), ([0], [0]), ([1, 0], [0, 1]), ([0, 2], [0, 2]), ([3, 0], [3]), ([4], [4]), ([5, 4], [4, 5]), ([4, 6], [4, 6]), ([7, 4], [7]), ([8], [8]), ([9, 8], [8, 9]), ([8, 10], [8, 10]), ([11, 8], [11]), ([12], [12]), ([13, 12], [12, 13]), ([12, 14], [12, 14]), ([15, 12], [15]), ([16], [16]), ([16, 16], [16]), ([17, 18, 16], [16, 17, 18]), ([16, 19], [16, 19]), ([20, 18], [20]), ([21], [21]), ([22, 21], [21, 22]), ([21, 23], [21, 23]), ([24, 21], [24]), ([25], [25]), ([25], [25]), ([27, 25], [25, 27]), ([26, 28, 25], [25, 26, 28]), ([25, 29], [25, 29]), ([30, 25], [30]), ([31], [31]), ([31, 32], [31, 32]), ([33, 31], [33]), ([34], [34]), ([34, 35], [34, 35]), ([36, 34], [36]), ([37, 37], [37]), ([37, 38], [37, 38]), ([39, 38, 0, 1, 2, 3, 4, 5, 6, 7, 8, 9, 10, 11, 12, 13, 14, 15, 16, 17, 18, 19, 20, 21, 22, 23, 24, 25, 26, 27, 28, 29, 30, 31, 32, 33, 34, 35, 36, 37, 38, 39], [39])])
def spigotlaw03_BucketNames.B30 : List Nat := [0, 1, 3, 7, 15, 31, 63, 127, 255, 511, 1023, 2047, 4095, 8191, 16383, 32767, 65535, 131071, 131071, 524287, 1048575, 2097151, 4194303, 8388607, 16777215, 33554431, 67108863, 67108863, 201326591, 536870911, 1073741823, 2147483647, 4294967295, 8589934591, 17179869183, 34359738367, 68719476735, 137438953471, 274877906943, 549755813887, 1099511627775]
theorem spigotlaw03_BucketNames.tab30 : rtab .any (opsOf Try.f5 30) = spigotlaw03_BucketNames.T30 := by kernel_rfl
theorem spigotlaw03_BucketNames.bits30 : waitsOk spigotlaw03_BucketNames.T30.2 spigotlaw03_BucketNames.B30 = true := by kernel_rfl
set_option maxHeartbeats 8000000 in
set_option maxRecDepth 100000 in
theorem spigotlaw03_BucketNames.calls (k : Nat)  (r : Bool) (w : World) (h : spigotlaw03_BucketNames.f k  = some r) :
  Calls Try.prog 5 #[] w fun e w' => e = .returned (.bool r) ∧ Below w.heap.size w w' := by
 have hu23 := Try.underlying23
 have hu26 := Try.underlying26
 have HB := Aside0.mk (Below.refl w.heap.size w)
 have H : (spigotlaw03_BucketNames.l0 k (([(⟨0, 0, 0⟩ : S23), (⟨1, 0, 0⟩ : S23), (⟨0, 0, 1⟩ : S23), (⟨1000000001, 0, 1⟩ : S23), (⟨1, (-1), 1⟩ : S23), (⟨1, 1000000001, 1⟩ : S23), (⟨1, 0, 1000000001⟩ : S23), (⟨1, 9223372036854775807, 1⟩ : S23)] : List (S23))) 0) = some r := h
 clear h
 obtain ⟨y396, hy396⟩ : ∃ y_ : List (S23), y_ = (([(⟨0, 0, 0⟩ : S23), (⟨1, 0, 0⟩ : S23), (⟨0, 0, 1⟩ : S23), (⟨1000000001, 0, 1⟩ : S23), (⟨1, (-1), 1⟩ : S23), (⟨1, 1000000001, 1⟩ : S23), (⟨1, 0, 1000000001⟩ : S23), (⟨1, 9223372036854775807, 1⟩ : S23)] : List (S23))) := ⟨_, rfl⟩
 replace H : (spigotlaw03_BucketNames.l0 k y396 0) = some r := by first | (rw [hy396]; with_reducible exact H) | (have H2_ := (Option.bind_some _ _).symm.trans H; rw [hy396]; with_reducible exact H2_) | (have H2_ := (Option.bind_some _ _).symm.trans H; with_reducible exact H2_) | with_reducible exact H | (rw [hy396]; exact H) | exact H
 have Ny396 := Aside0.mk hy396
 clear hy396
 have H' := Aside0.mk H
 clear H
 go_enter Try.func5, Try.ntmps5
 go_wp2_with (first | ((with_reducible refine gate_dst (N := 40) rfl ?_); (try refine ug_ (by rfl) ?_); refine Kd.R_lit k23 _ 23 ?hg (N := 40) ?hd (xs := ([(⟨0, 0, 0⟩ : S23), (⟨1, 0, 0⟩ : S23), (⟨0, 0, 1⟩ : S23), (⟨1000000001, 0, 1⟩ : S23), (⟨1, (-1), 1⟩ : S23), (⟨1, 1000000001, 1⟩ : S23), (⟨1, 0, 1000000001⟩ : S23), (⟨1, 9223372036854775807, 1⟩ : S23)] : List (S23))) (inner := [.int .i64 0, .int .i64 0, .int .i64 0, .int .i64 1, .int .i64 0, .int .i64 0, .int .i64 0, .int .i64 0, .int .i64 1, .int .i64 1000000001, .int .i64 0, .int .i64 1, .int .i64 1, .int .i64 (-1), .int .i64 1, .int .i64 1, .int .i64 1000000001, .int .i64 1, .int .i64 1, .int .i64 0, .int .i64 1000000001, .int .i64 1, .int .i64 9223372036854775807, .int .i64 1]) (ok := fun _ => True) (okp := fun _ => True) ?hr ?hp (fun _ hk => hk) trivial (Below.refl _ _) (Nat.le_refl _) (by simp) ?_; (case hd => rfl); (case hg => rfl); (case hr => first | (go_simp; done) | (go_simp; rfl)); (case hp => exact (Reps.c3 (show Kd.M k23 _ _ _ (⟨0, 0, 0⟩ : S23) [.int .i64 0, .int .i64 0, .int .i64 0] from (k23_mkM _ _ _ (⟨0, 0, 0⟩ : S23) )) (Reps.c3 (show Kd.M k23 _ _ _ (⟨1, 0, 0⟩ : S23) [.int .i64 1, .int .i64 0, .int .i64 0] from (k23_mkM _ _ _ (⟨1, 0, 0⟩ : S23) )) (Reps.c3 (show Kd.M k23 _ _ _ (⟨0, 0, 1⟩ : S23) [.int .i64 0, .int .i64 0, .int .i64 1] from (k23_mkM _ _ _ (⟨0, 0, 1⟩ : S23) )) (Reps.c3 (show Kd.M k23 _ _ _ (⟨1000000001, 0, 1⟩ : S23) [.int .i64 1000000001, .int .i64 0, .int .i64 1] from (k23_mkM _ _ _ (⟨1000000001, 0, 1⟩ : S23) )) (Reps.c3 (show Kd.M k23 _ _ _ (⟨1, (-1), 1⟩ : S23) [.int .i64 1, .int .i64 (-1), .int .i64 1] from (k23_mkM _ _ _ (⟨1, (-1), 1⟩ : S23) )) (Reps.c3 (show Kd.M k23 _ _ _ (⟨1, 1000000001, 1⟩ : S23) [.int .i64 1, .int .i64 1000000001, .int .i64 1] from (k23_mkM _ _ _ (⟨1, 1000000001, 1⟩ : S23) )) (Reps.c3 (show Kd.M k23 _ _ _ (⟨1, 0, 1000000001⟩ : S23) [.int .i64 1, .int .i64 0, .int .i64 1000000001] from (k23_mkM _ _ _ (⟨1, 0, 1000000001⟩ : S23) )) (Reps.c3 (show Kd.M k23 _ _ _ (⟨1, 9223372036854775807, 1⟩ : S23) [.int .i64 1, .int .i64 9223372036854775807, .int .i64 1] from (k23_mkM _ _ _ (⟨1, 9223372036854775807, 1⟩ : S23) )) (Reps.none _ _)))))))))); intro v397 w1 ho2 hb hg_ hnew_; clear hg_ hnew_; (first | rw [← Ny396.out] at ho2 | (simp only [Int.reduceToNat] at ho2; rw [← Ny396.out] at ho2)); have HO398 := Aside0.mk (Kd.R_lower ho2 (below_size (hq_ HB))); replace HB := bs_ w hb; clear hb ho2))
 go_loopg [2] k (fun kq v2 w' => ∃ (x2_1 : Int), v2 = .int .i64 x2_1 ∧ Aside0 (spigotlaw03_BucketNames.l0 kq y396 x2_1 = some r) ∧ Aside0 (kq ≤ k) ∧ Aside0 (Kd.R k23 23 w' w.heap.size (fun _ => True) v397 y396) ∧ Aside0 (Below w.heap.size w w'))
 case atStart => exact ⟨(0), rf_, H', ⟨Nat.le_refl _⟩, ⟨rs_ HO398⟩, bw_⟩
 case round =>
  clear H'
  obtain ⟨x2_1, rfl, HA, HK1, HO_1, HB⟩ := hrel
  cases gk with
  | zero => exact absurd HA.out (by simp [spigotlaw03_BucketNames.l0])
  | succ k1 =>
   have H := HA.out
   clear HA
   simp only [spigotlaw03_BucketNames.l0] at H
   by_cases c3 : x2_1 < (y396.length : Int)
   ·rw [if_pos c3] at H
    have c3b0 : decide (x2_1 < (y396.length : Int)) = true := decide_eq_true c3
    clear c3
    by_cases c4 : 0 ≤ x2_1
    rotate_left
    ·rw [if_neg c4] at H; exact absurd H (by simp)
    rw [if_pos c4] at H
    have c4b0 : decide (0 ≤ x2_1) = true := decide_eq_true c4
    clear c4
    obtain ⟨⟨t400, t401, t402, t403, t404, t405, t406⟩, A5, H⟩ := bo_ H
    try dsimp only at H
    obtain ⟨⟨t408, t409, t410, t411, t412, t413⟩, A6, H⟩ := bo_ H
    try dsimp only at H
    obtain ⟨⟨t415, t416, t417, t418, t419, t420, t421⟩, A7, H⟩ := bo_ H
    try dsimp only at H
    obtain ⟨t424, A8, H⟩ := bo_ H
    try dsimp only at H
    by_cases c9 : t424 = 8
    rotate_left
    ·rw [if_neg c9] at H; exact absurd H (by simp)
    rw [if_pos c9] at H
    have c9b0 : (t424 == 8) = true := beq_iff_eq.mpr c9
    have c9b1 : (t424 != 8) = false := bne_eq_false_iff_eq.mpr c9
    clear c9
    by_cases c10 : t406 = 8
    rotate_left
    ·rw [if_neg c10] at H; exact absurd H (by simp)
    rw [if_pos c10] at H
    have c10b0 : (t406 == 8) = true := beq_iff_eq.mpr c10
    have c10b1 : (t406 != 8) = false := bne_eq_false_iff_eq.mpr c10
    clear c10
    by_cases c11 : t421 = 8
    rotate_left
    ·rw [if_neg c11] at H; exact absurd H (by simp)
    rw [if_pos c11] at H
    have c11b0 : (t421 == 8) = true := beq_iff_eq.mpr c11
    have c11b1 : (t421 != 8) = false := bne_eq_false_iff_eq.mpr c11
    clear c11
    obtain ⟨t426, A12, H⟩ := bo_ H
    replace H : (if t426 = 8 then (spigotlaw03_BucketNames.l0 k1 y396 (wrap64 (x2_1 + 1))) else (none)) = some r := H
    by_cases c13 : t426 = 8
    rotate_left
    ·rw [if_neg c13] at H; exact absurd H (by simp)
    rw [if_pos c13] at H
    have c13b0 : (t426 == 8) = true := beq_iff_eq.mpr c13
    have c13b1 : (t426 != 8) = false := bne_eq_false_iff_eq.mpr c13
    clear c13
    have H' := Aside0.mk H
    clear H
    obtain ⟨Ao14, co14, eo14⟩ := Kd.R_slice HO_1.out
    subst eo14
    have p399 : 0 ≤ (x2_1 : Int) := of_decide_eq_true (by first | (with_reducible assumption) | assumption)
    have q399 : x2_1 < (y396.length : Int) := of_decide_eq_true (by first | (with_reducible assumption) | assumption)
    obtain ⟨ad399, e399, hx399_0, hx399_1, hx399_2⟩ := at_T23 (Kd.R_reads' HO_1.out).2.2 x2_1 p399 q399
    cases e399
    replace p399 := eq_true p399
    replace q399 := eq_true q399
    try go_wp2_with (first | ((with_reducible refine gate_callee (f := 10) rfl ?_); (try refine ug_ (by rfl) ?_); refine goesA_ (some 52) Try.func10 #[.agg #[.int .i64 ((rd_T23 y396 x2_1).f0), .int .i64 ((rd_T23 y396 x2_1).f1), .int .i64 ((rd_T23 y396 x2_1).f2)], .int .u64 0] ?_; (with_reducible refine (bucket_Full.calls ((rd_T23 y396 x2_1).f0) ((rd_T23 y396 x2_1).f1) ((rd_T23 y396 x2_1).f2) 0 t400 t401 t402 t403 t404 t405 t406 _ A5.out).mono ?_); rintro e w15 ⟨rfl, hb⟩; refine ⟨_, rfl, ?_⟩; replace HO_1 := rb_ HO_1 hb; replace HB := bs_ w hb; clear hb) | ((with_reducible refine gate_dst (N := 3) rfl ?_); (try refine ug_ (by rfl) ?_); refine bx_ #[.int .i64 0, .int .i64 0, .int .i64 0, .int .i64 0, .int .i64 0, .int .u64 0] 26 ?_; intro gb407 hg w16 BK407 hb; have GW407 := bz_ w hg; replace HO_1 := rb_ HO_1 hb; replace HB := bs_ w hb; clear hb hg; replace hc407 := ce6_ BK407))
    have n0_ : Aside0 (Kd.R k23 23 ((((((w16.setCell ⟨gb407, 0, none⟩ (.int .i64 t400)).setCell ⟨gb407, 1, none⟩ (.int .i64 t401)).setCell ⟨gb407, 2, none⟩ (.int .i64 t402)).setCell ⟨gb407, 3, none⟩ (.int .i64 t403)).setCell ⟨gb407, 4, none⟩ (.int .i64 t404)).setCell ⟨gb407, 5, none⟩ (.int .u64 t405)) w.heap.size (fun _ => True) (.slice (some ad399) y396.length co14) y396) := ⟨by (with_reducible repeat (first | apply Kd.R_alloc | apply Kd.R_drewN | apply Kd.R_drew)); exact Kd.R_mono (Kd.R_far (p := ⟨gb407, 5, none⟩) (Kd.R_far (p := ⟨gb407, 4, none⟩) (Kd.R_far (p := ⟨gb407, 3, none⟩) (Kd.R_far (p := ⟨gb407, 2, none⟩) (Kd.R_far (p := ⟨gb407, 1, none⟩) (Kd.R_far (p := ⟨gb407, 0, none⟩) (Kd.R_types HO_1.out BK407.out (by decide)) (fun _ hk => hk.2) (.int .i64 t400)) (fun _ hk => hk.2) (.int .i64 t401)) (fun _ hk => hk.2) (.int .i64 t402)) (fun _ hk => hk.2) (.int .i64 t403)) (fun _ hk => hk.2) (.int .i64 t404)) (fun _ hk => hk.2) (.int .u64 t405)) (fun _ hk => trivial)⟩
    have n1_ : Aside0 (((((((w16.setCell ⟨gb407, 0, none⟩ (.int .i64 t400)).setCell ⟨gb407, 1, none⟩ (.int .i64 t401)).setCell ⟨gb407, 2, none⟩ (.int .i64 t402)).setCell ⟨gb407, 3, none⟩ (.int .i64 t403)).setCell ⟨gb407, 4, none⟩ (.int .i64 t404)).setCell ⟨gb407, 5, none⟩ (.int .u64 t405)).heap[gb407]? = some (.cells #[.int .i64 t400, .int .i64 t401, .int .i64 t402, .int .i64 t403, .int .i64 t404, .int .u64 t405] 26 (0, 0))) := ⟨(bp6_ (bq_ BK407))⟩
    have n2_ : Aside0 (Below w.heap.size w ((((((w16.setCell ⟨gb407, 0, none⟩ (.int .i64 t400)).setCell ⟨gb407, 1, none⟩ (.int .i64 t401)).setCell ⟨gb407, 2, none⟩ (.int .i64 t402)).setCell ⟨gb407, 3, none⟩ (.int .i64 t403)).setCell ⟨gb407, 4, none⟩ (.int .i64 t404)).setCell ⟨gb407, 5, none⟩ (.int .u64 t405))) := bw_
    (try clear HO_1)
    (try clear BK407)
    (try clear HB)
    generalize ((((((w16.setCell ⟨gb407, 0, none⟩ (.int .i64 t400)).setCell ⟨gb407, 1, none⟩ (.int .i64 t401)).setCell ⟨gb407, 2, none⟩ (.int .i64 t402)).setCell ⟨gb407, 3, none⟩ (.int .i64 t403)).setCell ⟨gb407, 4, none⟩ (.int .i64 t404)).setCell ⟨gb407, 5, none⟩ (.int .u64 t405)) = w18 at n0_ n1_ n2_ ⊢
    have HO_1 := n0_
    have BK407 := n1_
    have HB := n2_
    clear n0_ n1_ n2_
    replace HO_1 := Aside0.mk (Kd.R_drew HO_1.out)
    replace BK407 := Aside0.mk (blk_drew BK407.out)
    replace HB := Aside0.mk (below_drew1 HB.out)
    have p414 : 0 ≤ (x2_1 : Int) := of_decide_eq_true (by first | (with_reducible assumption) | assumption)
    have q414 : x2_1 < (y396.length : Int) := of_decide_eq_true (by first | (with_reducible assumption) | assumption)
    obtain ⟨ad414, e414, hx414_0, hx414_1, hx414_2⟩ := at_T23 (Kd.R_reads' HO_1.out).2.2 x2_1 p414 q414
    obtain rfl : ad399 = ad414 := (by injection e414)
    replace p414 := eq_true p414
    replace q414 := eq_true q414
    refine start_ (n := 12) (S := fun w' => w'.cell? (ad399.add ((x2_1).toNat * 3)) = some (.int .i64 ((rd_T23 y396 x2_1).f0)) ∧ w'.cell? ⟨(ad399.add ((x2_1).toNat * 3)).block, (ad399.add ((x2_1).toNat * 3)).off + 1, none⟩ = some (.int .i64 ((rd_T23 y396 x2_1).f1)) ∧ w'.cell? ⟨(ad399.add ((x2_1).toNat * 3)).block, (ad399.add ((x2_1).toNat * 3)).off + 2, none⟩ = some (.int .i64 ((rd_T23 y396 x2_1).f2))) (ds := []) (bl_ 12 0) (by kernel_rfl) rfl (by kernel_rfl) ⟨hx414_0, hx414_1, hx414_2⟩ (fun hHeld => ?_); refine with_tabW spigotlaw03_BucketNames.tab6 spigotlaw03_BucketNames.bits6 (fun HT_ HW_ => ?_)
    generalize w18.drew = w19 at HO_1 BK407 HB hx414_0 hx414_1 hx414_2 hHeld ⊢
    refine pa_ 1 (some 57) (bl_ 12 2) HT_ ?_
    refine pa_ 2 (some 58) (bl_ 12 6) HT_ ?_
    refine pa_ 3 (some 59) (bl_ 12 14) HT_ ?_
    refine ta_ 4 (some 60) (bl_ 12 30) HT_ HW_ hHeld ?_
    refine join_ (σ := Nat) 2 (bl_ 12 1023) (fun s_ => [(56, .agg #[.int .i64 t408, .int .i64 t409, .int .i64 t410, .int .i64 t411, .int .i64 t412, .int .u64 t413]), (61, .tuple #[.agg #[.int .i64 t415, .int .i64 t416, .int .i64 t417, .int .i64 t418, .int .i64 t419, .int .u64 t420], .int .i64 t421]), (5, .pointer (some ⟨s_, 0, none⟩)), (55, .tuple #[.agg #[.int .i64 t415, .int .i64 t416, .int .i64 t417, .int .i64 t418, .int .i64 t419, .int .u64 t420], .int .i64 t421]), (62, .agg #[.int .i64 t415, .int .i64 t416, .int .i64 t417, .int .i64 t418, .int .i64 t419, .int .u64 t420]), (63, .int .i64 t421)]) (fun s_ w' => (w'.cell? (ad399.add ((x2_1).toNat * 3)) = some (.int .i64 ((rd_T23 y396 x2_1).f0)) ∧ w'.cell? ⟨(ad399.add ((x2_1).toNat * 3)).block, (ad399.add ((x2_1).toNat * 3)).off + 1, none⟩ = some (.int .i64 ((rd_T23 y396 x2_1).f1)) ∧ w'.cell? ⟨(ad399.add ((x2_1).toNat * 3)).block, (ad399.add ((x2_1).toNat * 3)).off + 2, none⟩ = some (.int .i64 ((rd_T23 y396 x2_1).f2))) ∧ (Kd.R k23 23 w' w.heap.size (fun _ => True) (.slice (some ad399) y396.length co14) y396) ∧ (w'.heap[gb407]? = some (.cells #[.int .i64 t400, .int .i64 t401, .int .i64 t402, .int .i64 t403, .int .i64 t404, .int .u64 t405] 26 (0, 0))) ∧ (w'.heap[s_]? = some (.cells #[.int .i64 0, .int .i64 0, .int .i64 0, .int .i64 0, .int .i64 0, .int .u64 0] 26 (0, 0))) ∧ (w.heap.size ≤ s_) ∧ (w.heap.size ≤ s_) ∧ (gb407 ≠ s_) ∧ (s_ ≠ gb407) ∧ (Below w.heap.size w w')) ?_ ?_
    rotate_left
    ·intro hCont
     refine tw_ 0 9 (some 56) (some 5) (bl_ 12 31) (bl_ 12 542) HT_ (fun K hK => ?_) fun K hK => ?_
     ·refine goesB_ Try.func24 #[] ?_
      with_reducible refine (spigotlaw03_given.calls  t408 t409 t410 t411 t412 t413 _ A6.out).mono ?_
      rintro e w20 ⟨rfl, hb⟩
      have HS0_ := (hb.cell (World.block_lt_of_cell? _ _ (hHeld.1))).trans (hHeld.1)
      have HS1_ := (hb.cell (World.block_lt_of_cell? _ _ (hHeld.2.1))).trans (hHeld.2.1)
      have HS2_ := (hb.cell (World.block_lt_of_cell? _ _ (hHeld.2.2))).trans (hHeld.2.2)
      refine ⟨_, rfl, ?_⟩
      replace HO_1 := rb_ HO_1 hb
      replace BK407 := bb_ BK407 hb
      replace HB := bs_ w hb
      clear hb
      refine hK.out _ _ ⟨HS0_, HS1_, HS2_⟩ (fun hHeld => ?_)
      clear hK K
      refine nm_ (some 56) ?_
      refine tw_ 5 9 (some 61) (some 5) (bl_ 12 63) (bl_ 12 543) HT_ (fun K hK => ?_) fun K hK => ?_
      ·refine goesB_ Try.func22 #[.agg #[.int .i64 t408, .int .i64 t409, .int .i64 t410, .int .i64 t411, .int .i64 t412, .int .u64 t413], .agg #[.int .i64 ((rd_T23 y396 x2_1).f0), .int .i64 ((rd_T23 y396 x2_1).f1), .int .i64 ((rd_T23 y396 x2_1).f2)], .int .u64 0] ?_
       with_reducible refine (bucket_Change.calls k1 t408 t409 t410 t411 t412 t413 ((rd_T23 y396 x2_1).f0) ((rd_T23 y396 x2_1).f1) ((rd_T23 y396 x2_1).f2) 0 t415 t416 t417 t418 t419 t420 t421 _ A7.out).mono ?_
       rintro e w21 ⟨rfl, hb⟩
       have HS0_ := (hb.cell (World.block_lt_of_cell? _ _ (hHeld.1))).trans (hHeld.1)
       have HS1_ := (hb.cell (World.block_lt_of_cell? _ _ (hHeld.2.1))).trans (hHeld.2.1)
       have HS2_ := (hb.cell (World.block_lt_of_cell? _ _ (hHeld.2.2))).trans (hHeld.2.2)
       refine ⟨_, rfl, ?_⟩
       replace HO_1 := rb_ HO_1 hb
       replace BK407 := bb_ BK407 hb
       replace HB := bs_ w hb
       clear hb
       refine hK.out _ _ ⟨HS0_, HS1_, HS2_⟩ (fun hHeld => ?_)
       clear hK K
       refine nm_ (some 61) ?_
       refine pa_ 6 (some 55) (bl_ 12 127) HT_ ?_
       refine pa_ 7 (some 62) (bl_ 12 255) HT_ ?_
       refine pa_ 8 (some 63) (bl_ 12 511) HT_ ?_
       refine oa_ 9 (some 5) (bl_ 12 1023) HT_ fun K hK => ?_
       refine box_step ?hg (N := 5) ?hd (cs := #[.int .i64 0, .int .i64 0, .int .i64 0, .int .i64 0, .int .i64 0, .int .u64 0]) (t := 26) ?hr ?_; (case hd => rfl); (case hg => rfl); (case hr => first | (go_simp; done) | (go_simp; rfl))
       intro gb422 hg w22 hbox hb
       have HS0_ := (hb.cell (World.block_lt_of_cell? _ _ (hHeld.1))).trans (hHeld.1)
       have HS1_ := (hb.cell (World.block_lt_of_cell? _ _ (hHeld.2.1))).trans (hHeld.2.1)
       have HS2_ := (hb.cell (World.block_lt_of_cell? _ _ (hHeld.2.2))).trans (hHeld.2.2)
       have BK422 := Aside0.mk (hbox)
       have GW422 := bz_ w hg
       have GE422 := GW422
       have NB407_422 := bn_ BK407 hg
       have NB422_407 := bm_ BK407 hg
       replace HO_1 := rb_ HO_1 hb
       replace BK407 := bb_ BK407 hb
       replace HB := bs_ w hb
       clear hb hbox hg
       refine hK.out _ _ ⟨HS0_, HS1_, HS2_⟩ (fun hHeld => ?_)
       clear hK K
       refine nm_ (some 5) ?_
       exact no_ (hCont (gb422) _ ⟨hHeld, (rs_ HO_1), (bq_ BK407), (bq_ BK422), GW422.out, GE422.out, NB407_422.out, NB422_407.out, bh_⟩)
      ·refine box_step ?hg (N := 5) ?hd (cs := #[.int .i64 0, .int .i64 0, .int .i64 0, .int .i64 0, .int .i64 0, .int .u64 0]) (t := 26) ?hr ?_; (case hd => rfl); (case hg => rfl); (case hr => first | (go_simp; done) | (go_simp; rfl))
       intro gb422 hg w21 hbox hb
       have HS0_ := (hb.cell (World.block_lt_of_cell? _ _ (hHeld.1))).trans (hHeld.1)
       have HS1_ := (hb.cell (World.block_lt_of_cell? _ _ (hHeld.2.1))).trans (hHeld.2.1)
       have HS2_ := (hb.cell (World.block_lt_of_cell? _ _ (hHeld.2.2))).trans (hHeld.2.2)
       have BK422 := Aside0.mk (hbox)
       have GW422 := bz_ w hg
       have GE422 := GW422
       have NB407_422 := bn_ BK407 hg
       have NB422_407 := bm_ BK407 hg
       replace HO_1 := rb_ HO_1 hb
       replace BK407 := bb_ BK407 hb
       replace HB := bs_ w hb
       clear hb hbox hg
       refine hK.out _ _ ⟨HS0_, HS1_, HS2_⟩ (fun hHeld => ?_)
       clear hK K
       refine nm_ (some 5) ?_
       refine oa_ 5 (some 61) (bl_ 12 575) HT_ fun K hK => ?_
       refine goesB_ Try.func22 #[.agg #[.int .i64 t408, .int .i64 t409, .int .i64 t410, .int .i64 t411, .int .i64 t412, .int .u64 t413], .agg #[.int .i64 ((rd_T23 y396 x2_1).f0), .int .i64 ((rd_T23 y396 x2_1).f1), .int .i64 ((rd_T23 y396 x2_1).f2)], .int .u64 0] ?_
       with_reducible refine (bucket_Change.calls k1 t408 t409 t410 t411 t412 t413 ((rd_T23 y396 x2_1).f0) ((rd_T23 y396 x2_1).f1) ((rd_T23 y396 x2_1).f2) 0 t415 t416 t417 t418 t419 t420 t421 _ A7.out).mono ?_
       rintro e w22 ⟨rfl, hb⟩
       have HS0_ := (hb.cell (World.block_lt_of_cell? _ _ (hHeld.1))).trans (hHeld.1)
       have HS1_ := (hb.cell (World.block_lt_of_cell? _ _ (hHeld.2.1))).trans (hHeld.2.1)
       have HS2_ := (hb.cell (World.block_lt_of_cell? _ _ (hHeld.2.2))).trans (hHeld.2.2)
       refine ⟨_, rfl, ?_⟩
       replace HO_1 := rb_ HO_1 hb
       replace BK407 := bb_ BK407 hb
       replace BK422 := bb_ BK422 hb
       replace HB := bs_ w hb
       clear hb
       refine hK.out _ _ ⟨HS0_, HS1_, HS2_⟩ (fun hHeld => ?_)
       clear hK K
       refine nm_ (some 61) ?_
       refine pa_ 6 (some 55) (bl_ 12 639) HT_ ?_
       refine pa_ 7 (some 62) (bl_ 12 767) HT_ ?_
       refine pa_ 8 (some 63) (bl_ 12 1023) HT_ ?_
       exact no_ (hCont (gb422) _ ⟨hHeld, (rs_ HO_1), (bq_ BK407), (bq_ BK422), GW422.out, GE422.out, NB407_422.out, NB422_407.out, bh_⟩)
     ·refine box_step ?hg (N := 5) ?hd (cs := #[.int .i64 0, .int .i64 0, .int .i64 0, .int .i64 0, .int .i64 0, .int .u64 0]) (t := 26) ?hr ?_; (case hd => rfl); (case hg => rfl); (case hr => first | (go_simp; done) | (go_simp; rfl))
      intro gb422 hg w20 hbox hb
      have HS0_ := (hb.cell (World.block_lt_of_cell? _ _ (hHeld.1))).trans (hHeld.1)
      have HS1_ := (hb.cell (World.block_lt_of_cell? _ _ (hHeld.2.1))).trans (hHeld.2.1)
      have HS2_ := (hb.cell (World.block_lt_of_cell? _ _ (hHeld.2.2))).trans (hHeld.2.2)
      have BK422 := Aside0.mk (hbox)
      have GW422 := bz_ w hg
      have GE422 := GW422
      have NB407_422 := bn_ BK407 hg
      have NB422_407 := bm_ BK407 hg
      replace HO_1 := rb_ HO_1 hb
      replace BK407 := bb_ BK407 hb
      replace HB := bs_ w hb
      clear hb hbox hg
      refine hK.out _ _ ⟨HS0_, HS1_, HS2_⟩ (fun hHeld => ?_)
      clear hK K
      refine nm_ (some 5) ?_
      refine oa_ 0 (some 56) (bl_ 12 543) HT_ fun K hK => ?_
      refine goesB_ Try.func24 #[] ?_
      with_reducible refine (spigotlaw03_given.calls  t408 t409 t410 t411 t412 t413 _ A6.out).mono ?_
      rintro e w21 ⟨rfl, hb⟩
      have HS0_ := (hb.cell (World.block_lt_of_cell? _ _ (hHeld.1))).trans (hHeld.1)
      have HS1_ := (hb.cell (World.block_lt_of_cell? _ _ (hHeld.2.1))).trans (hHeld.2.1)
      have HS2_ := (hb.cell (World.block_lt_of_cell? _ _ (hHeld.2.2))).trans (hHeld.2.2)
      refine ⟨_, rfl, ?_⟩
      replace HO_1 := rb_ HO_1 hb
      replace BK407 := bb_ BK407 hb
      replace BK422 := bb_ BK422 hb
      replace HB := bs_ w hb
      clear hb
      refine hK.out _ _ ⟨HS0_, HS1_, HS2_⟩ (fun hHeld => ?_)
      clear hK K
      refine nm_ (some 56) ?_
      refine oa_ 5 (some 61) (bl_ 12 575) HT_ fun K hK => ?_
      refine goesB_ Try.func22 #[.agg #[.int .i64 t408, .int .i64 t409, .int .i64 t410, .int .i64 t411, .int .i64 t412, .int .u64 t413], .agg #[.int .i64 ((rd_T23 y396 x2_1).f0), .int .i64 ((rd_T23 y396 x2_1).f1), .int .i64 ((rd_T23 y396 x2_1).f2)], .int .u64 0] ?_
      with_reducible refine (bucket_Change.calls k1 t408 t409 t410 t411 t412 t413 ((rd_T23 y396 x2_1).f0) ((rd_T23 y396 x2_1).f1) ((rd_T23 y396 x2_1).f2) 0 t415 t416 t417 t418 t419 t420 t421 _ A7.out).mono ?_
      rintro e w22 ⟨rfl, hb⟩
      have HS0_ := (hb.cell (World.block_lt_of_cell? _ _ (hHeld.1))).trans (hHeld.1)
      have HS1_ := (hb.cell (World.block_lt_of_cell? _ _ (hHeld.2.1))).trans (hHeld.2.1)
      have HS2_ := (hb.cell (World.block_lt_of_cell? _ _ (hHeld.2.2))).trans (hHeld.2.2)
      refine ⟨_, rfl, ?_⟩
      replace HO_1 := rb_ HO_1 hb
      replace BK407 := bb_ BK407 hb
      replace BK422 := bb_ BK422 hb
      replace HB := bs_ w hb
      clear hb
      refine hK.out _ _ ⟨HS0_, HS1_, HS2_⟩ (fun hHeld => ?_)
      clear hK K
      refine nm_ (some 61) ?_
      refine pa_ 6 (some 55) (bl_ 12 639) HT_ ?_
      refine pa_ 7 (some 62) (bl_ 12 767) HT_ ?_
      refine pa_ 8 (some 63) (bl_ 12 1023) HT_ ?_
      exact no_ (hCont (gb422) _ ⟨hHeld, (rs_ HO_1), (bq_ BK407), (bq_ BK422), GW422.out, GE422.out, NB407_422.out, NB422_407.out, bh_⟩)
    rintro gb422 w23 ⟨hS_, h0_, h1_, h2_, h3_, h4_, h5_, h6_, h7_⟩
    have BK422 := Aside0.mk h2_
    have GW422 := Aside0.mk h3_
    have GE422 := Aside0.mk h4_
    have NB407_422 := Aside0.mk h5_
    have NB422_407 := Aside0.mk h6_
    replace HO_1 : Aside0 (Kd.R k23 23 w23 w.heap.size (fun _ => True) (.slice (some ad399) y396.length co14) y396) := ⟨h0_⟩
    replace BK407 := Aside0.mk h1_
    replace HB := Aside0.mk h7_
    clear h0_ h1_ h2_ h3_ h4_ h5_ h6_ h7_
    have hHeld := hS_
    refine nq_ ?_
    refine oa_ 10 none (bl_ 12 2047) HT_ fun K hK => ?_
    have hs24 : w23.cell? ⟨gb422, 0, none⟩ = some (.int .i64 0) := (blk_cell BK422.out 0).trans rfl
    have hfs24 := blk_frozen BK422.out 0
    have hns24_0 := NB407_422.out
    have hms24_0 := NB422_407.out
    have hs25 : w23.cell? ⟨gb422, 1, none⟩ = some (.int .i64 0) := (blk_cell BK422.out 1).trans rfl
    have hfs25 := blk_frozen BK422.out 1
    have hns25_0 := NB407_422.out
    have hms25_0 := NB422_407.out
    have hs26 : w23.cell? ⟨gb422, 2, none⟩ = some (.int .i64 0) := (blk_cell BK422.out 2).trans rfl
    have hfs26 := blk_frozen BK422.out 2
    have hns26_0 := NB407_422.out
    have hms26_0 := NB422_407.out
    have hs27 : w23.cell? ⟨gb422, 3, none⟩ = some (.int .i64 0) := (blk_cell BK422.out 3).trans rfl
    have hfs27 := blk_frozen BK422.out 3
    have hns27_0 := NB407_422.out
    have hms27_0 := NB422_407.out
    have hs28 : w23.cell? ⟨gb422, 4, none⟩ = some (.int .i64 0) := (blk_cell BK422.out 4).trans rfl
    have hfs28 := blk_frozen BK422.out 4
    have hns28_0 := NB407_422.out
    have hms28_0 := NB422_407.out
    have hs29 : w23.cell? ⟨gb422, 5, none⟩ = some (.int .u64 0) := (blk_cell BK422.out 5).trans rfl
    have hfs29 := blk_frozen BK422.out 5
    have hns29_0 := NB407_422.out
    have hms29_0 := NB422_407.out
    refine sk_ ?_
    refine hK.out _ _ ⟨((cell_far (p := ⟨gb422, _, none⟩) (by first | exact Kd.own_blk (rn_ HO_1.out BK422.out) | (rw [add_block]; exact Kd.own_blk (rn_ HO_1.out BK422.out)) | (show (Addr.add _ _).block ≠ _; rw [add_block]; exact Kd.own_blk (rn_ HO_1.out BK422.out)) | (dsimp only; exact Kd.own_blk (rn_ HO_1.out BK422.out))) _).trans (((cell_far (p := ⟨gb422, _, none⟩) (by first | exact Kd.own_blk (rn_ HO_1.out BK422.out) | (rw [add_block]; exact Kd.own_blk (rn_ HO_1.out BK422.out)) | (show (Addr.add _ _).block ≠ _; rw [add_block]; exact Kd.own_blk (rn_ HO_1.out BK422.out)) | (dsimp only; exact Kd.own_blk (rn_ HO_1.out BK422.out))) _).trans (((cell_far (p := ⟨gb422, _, none⟩) (by first | exact Kd.own_blk (rn_ HO_1.out BK422.out) | (rw [add_block]; exact Kd.own_blk (rn_ HO_1.out BK422.out)) | (show (Addr.add _ _).block ≠ _; rw [add_block]; exact Kd.own_blk (rn_ HO_1.out BK422.out)) | (dsimp only; exact Kd.own_blk (rn_ HO_1.out BK422.out))) _).trans (((cell_far (p := ⟨gb422, _, none⟩) (by first | exact Kd.own_blk (rn_ HO_1.out BK422.out) | (rw [add_block]; exact Kd.own_blk (rn_ HO_1.out BK422.out)) | (show (Addr.add _ _).block ≠ _; rw [add_block]; exact Kd.own_blk (rn_ HO_1.out BK422.out)) | (dsimp only; exact Kd.own_blk (rn_ HO_1.out BK422.out))) _).trans (((cell_far (p := ⟨gb422, _, none⟩) (by first | exact Kd.own_blk (rn_ HO_1.out BK422.out) | (rw [add_block]; exact Kd.own_blk (rn_ HO_1.out BK422.out)) | (show (Addr.add _ _).block ≠ _; rw [add_block]; exact Kd.own_blk (rn_ HO_1.out BK422.out)) | (dsimp only; exact Kd.own_blk (rn_ HO_1.out BK422.out))) _).trans (((cell_far (p := ⟨gb422, _, none⟩) (by first | exact Kd.own_blk (rn_ HO_1.out BK422.out) | (rw [add_block]; exact Kd.own_blk (rn_ HO_1.out BK422.out)) | (show (Addr.add _ _).block ≠ _; rw [add_block]; exact Kd.own_blk (rn_ HO_1.out BK422.out)) | (dsimp only; exact Kd.own_blk (rn_ HO_1.out BK422.out))) _).trans (hHeld.1)))))))))))), ((cell_far (p := ⟨gb422, _, none⟩) (by first | exact Kd.own_blk (rn_ HO_1.out BK422.out) | (rw [add_block]; exact Kd.own_blk (rn_ HO_1.out BK422.out)) | (show (Addr.add _ _).block ≠ _; rw [add_block]; exact Kd.own_blk (rn_ HO_1.out BK422.out)) | (dsimp only; exact Kd.own_blk (rn_ HO_1.out BK422.out))) _).trans (((cell_far (p := ⟨gb422, _, none⟩) (by first | exact Kd.own_blk (rn_ HO_1.out BK422.out) | (rw [add_block]; exact Kd.own_blk (rn_ HO_1.out BK422.out)) | (show (Addr.add _ _).block ≠ _; rw [add_block]; exact Kd.own_blk (rn_ HO_1.out BK422.out)) | (dsimp only; exact Kd.own_blk (rn_ HO_1.out BK422.out))) _).trans (((cell_far (p := ⟨gb422, _, none⟩) (by first | exact Kd.own_blk (rn_ HO_1.out BK422.out) | (rw [add_block]; exact Kd.own_blk (rn_ HO_1.out BK422.out)) | (show (Addr.add _ _).block ≠ _; rw [add_block]; exact Kd.own_blk (rn_ HO_1.out BK422.out)) | (dsimp only; exact Kd.own_blk (rn_ HO_1.out BK422.out))) _).trans (((cell_far (p := ⟨gb422, _, none⟩) (by first | exact Kd.own_blk (rn_ HO_1.out BK422.out) | (rw [add_block]; exact Kd.own_blk (rn_ HO_1.out BK422.out)) | (show (Addr.add _ _).block ≠ _; rw [add_block]; exact Kd.own_blk (rn_ HO_1.out BK422.out)) | (dsimp only; exact Kd.own_blk (rn_ HO_1.out BK422.out))) _).trans (((cell_far (p := ⟨gb422, _, none⟩) (by first | exact Kd.own_blk (rn_ HO_1.out BK422.out) | (rw [add_block]; exact Kd.own_blk (rn_ HO_1.out BK422.out)) | (show (Addr.add _ _).block ≠ _; rw [add_block]; exact Kd.own_blk (rn_ HO_1.out BK422.out)) | (dsimp only; exact Kd.own_blk (rn_ HO_1.out BK422.out))) _).trans (((cell_far (p := ⟨gb422, _, none⟩) (by first | exact Kd.own_blk (rn_ HO_1.out BK422.out) | (rw [add_block]; exact Kd.own_blk (rn_ HO_1.out BK422.out)) | (show (Addr.add _ _).block ≠ _; rw [add_block]; exact Kd.own_blk (rn_ HO_1.out BK422.out)) | (dsimp only; exact Kd.own_blk (rn_ HO_1.out BK422.out))) _).trans (hHeld.2.1)))))))))))), ((cell_far (p := ⟨gb422, _, none⟩) (by first | exact Kd.own_blk (rn_ HO_1.out BK422.out) | (rw [add_block]; exact Kd.own_blk (rn_ HO_1.out BK422.out)) | (show (Addr.add _ _).block ≠ _; rw [add_block]; exact Kd.own_blk (rn_ HO_1.out BK422.out)) | (dsimp only; exact Kd.own_blk (rn_ HO_1.out BK422.out))) _).trans (((cell_far (p := ⟨gb422, _, none⟩) (by first | exact Kd.own_blk (rn_ HO_1.out BK422.out) | (rw [add_block]; exact Kd.own_blk (rn_ HO_1.out BK422.out)) | (show (Addr.add _ _).block ≠ _; rw [add_block]; exact Kd.own_blk (rn_ HO_1.out BK422.out)) | (dsimp only; exact Kd.own_blk (rn_ HO_1.out BK422.out))) _).trans (((cell_far (p := ⟨gb422, _, none⟩) (by first | exact Kd.own_blk (rn_ HO_1.out BK422.out) | (rw [add_block]; exact Kd.own_blk (rn_ HO_1.out BK422.out)) | (show (Addr.add _ _).block ≠ _; rw [add_block]; exact Kd.own_blk (rn_ HO_1.out BK422.out)) | (dsimp only; exact Kd.own_blk (rn_ HO_1.out BK422.out))) _).trans (((cell_far (p := ⟨gb422, _, none⟩) (by first | exact Kd.own_blk (rn_ HO_1.out BK422.out) | (rw [add_block]; exact Kd.own_blk (rn_ HO_1.out BK422.out)) | (show (Addr.add _ _).block ≠ _; rw [add_block]; exact Kd.own_blk (rn_ HO_1.out BK422.out)) | (dsimp only; exact Kd.own_blk (rn_ HO_1.out BK422.out))) _).trans (((cell_far (p := ⟨gb422, _, none⟩) (by first | exact Kd.own_blk (rn_ HO_1.out BK422.out) | (rw [add_block]; exact Kd.own_blk (rn_ HO_1.out BK422.out)) | (show (Addr.add _ _).block ≠ _; rw [add_block]; exact Kd.own_blk (rn_ HO_1.out BK422.out)) | (dsimp only; exact Kd.own_blk (rn_ HO_1.out BK422.out))) _).trans (((cell_far (p := ⟨gb422, _, none⟩) (by first | exact Kd.own_blk (rn_ HO_1.out BK422.out) | (rw [add_block]; exact Kd.own_blk (rn_ HO_1.out BK422.out)) | (show (Addr.add _ _).block ≠ _; rw [add_block]; exact Kd.own_blk (rn_ HO_1.out BK422.out)) | (dsimp only; exact Kd.own_blk (rn_ HO_1.out BK422.out))) _).trans (hHeld.2.2))))))))))))⟩ (fun hHeld => ?_)
    clear hK K
    refine pa_ 11 (some 6) (bl_ 12 4095) HT_ ?_
    refine done_ (done_of HT_.out (by kernel_rfl)) ?_
    have p423 : 0 ≤ (x2_1 : Int) := of_decide_eq_true (by first | (with_reducible assumption) | assumption)
    have q423 : x2_1 < (y396.length : Int) := of_decide_eq_true (by first | (with_reducible assumption) | assumption)
    obtain ⟨ad423, e423, hx423_0, hx423_1, hx423_2⟩ := at_T23 (Kd.R_reads' HO_1.out).2.2 x2_1 p423 q423
    obtain rfl : ad399 = ad423 := (by injection e423)
    have hn423_0 : ad399.block ≠ gb422 := Kd.own_blk (rn_ HO_1.out BK422.out)
    have hn423_1 : ad399.block ≠ gb422 := Kd.own_blk (rn_ HO_1.out BK422.out)
    have hn423_2 : ad399.block ≠ gb422 := Kd.own_blk (rn_ HO_1.out BK422.out)
    have hn423_3 : ad399.block ≠ gb422 := Kd.own_blk (rn_ HO_1.out BK422.out)
    have hn423_4 : ad399.block ≠ gb422 := Kd.own_blk (rn_ HO_1.out BK422.out)
    have hn423_5 : ad399.block ≠ gb422 := Kd.own_blk (rn_ HO_1.out BK422.out)
    replace hx423_0 := (cell_far (p := ⟨gb422, 0, none⟩) (by first | (rw [add_block]; exact hn423_0) | (show (Addr.add _ _).block ≠ _; rw [add_block]; exact hn423_0) | exact hn423_0) (.int .i64 t415)).trans hx423_0
    replace hx423_1 := (cell_far (p := ⟨gb422, 0, none⟩) (by first | (rw [add_block]; exact hn423_0) | (show (Addr.add _ _).block ≠ _; rw [add_block]; exact hn423_0) | exact hn423_0) (.int .i64 t415)).trans hx423_1
    replace hx423_2 := (cell_far (p := ⟨gb422, 0, none⟩) (by first | (rw [add_block]; exact hn423_0) | (show (Addr.add _ _).block ≠ _; rw [add_block]; exact hn423_0) | exact hn423_0) (.int .i64 t415)).trans hx423_2
    replace hx423_0 := (cell_far (p := ⟨gb422, 1, none⟩) (by first | (rw [add_block]; exact hn423_1) | (show (Addr.add _ _).block ≠ _; rw [add_block]; exact hn423_1) | exact hn423_1) (.int .i64 t416)).trans hx423_0
    replace hx423_1 := (cell_far (p := ⟨gb422, 1, none⟩) (by first | (rw [add_block]; exact hn423_1) | (show (Addr.add _ _).block ≠ _; rw [add_block]; exact hn423_1) | exact hn423_1) (.int .i64 t416)).trans hx423_1
    replace hx423_2 := (cell_far (p := ⟨gb422, 1, none⟩) (by first | (rw [add_block]; exact hn423_1) | (show (Addr.add _ _).block ≠ _; rw [add_block]; exact hn423_1) | exact hn423_1) (.int .i64 t416)).trans hx423_2
    replace hx423_0 := (cell_far (p := ⟨gb422, 2, none⟩) (by first | (rw [add_block]; exact hn423_2) | (show (Addr.add _ _).block ≠ _; rw [add_block]; exact hn423_2) | exact hn423_2) (.int .i64 t417)).trans hx423_0
    replace hx423_1 := (cell_far (p := ⟨gb422, 2, none⟩) (by first | (rw [add_block]; exact hn423_2) | (show (Addr.add _ _).block ≠ _; rw [add_block]; exact hn423_2) | exact hn423_2) (.int .i64 t417)).trans hx423_1
    replace hx423_2 := (cell_far (p := ⟨gb422, 2, none⟩) (by first | (rw [add_block]; exact hn423_2) | (show (Addr.add _ _).block ≠ _; rw [add_block]; exact hn423_2) | exact hn423_2) (.int .i64 t417)).trans hx423_2
    replace hx423_0 := (cell_far (p := ⟨gb422, 3, none⟩) (by first | (rw [add_block]; exact hn423_3) | (show (Addr.add _ _).block ≠ _; rw [add_block]; exact hn423_3) | exact hn423_3) (.int .i64 t418)).trans hx423_0
    replace hx423_1 := (cell_far (p := ⟨gb422, 3, none⟩) (by first | (rw [add_block]; exact hn423_3) | (show (Addr.add _ _).block ≠ _; rw [add_block]; exact hn423_3) | exact hn423_3) (.int .i64 t418)).trans hx423_1
    replace hx423_2 := (cell_far (p := ⟨gb422, 3, none⟩) (by first | (rw [add_block]; exact hn423_3) | (show (Addr.add _ _).block ≠ _; rw [add_block]; exact hn423_3) | exact hn423_3) (.int .i64 t418)).trans hx423_2
    replace hx423_0 := (cell_far (p := ⟨gb422, 4, none⟩) (by first | (rw [add_block]; exact hn423_4) | (show (Addr.add _ _).block ≠ _; rw [add_block]; exact hn423_4) | exact hn423_4) (.int .i64 t419)).trans hx423_0
    replace hx423_1 := (cell_far (p := ⟨gb422, 4, none⟩) (by first | (rw [add_block]; exact hn423_4) | (show (Addr.add _ _).block ≠ _; rw [add_block]; exact hn423_4) | exact hn423_4) (.int .i64 t419)).trans hx423_1
    replace hx423_2 := (cell_far (p := ⟨gb422, 4, none⟩) (by first | (rw [add_block]; exact hn423_4) | (show (Addr.add _ _).block ≠ _; rw [add_block]; exact hn423_4) | exact hn423_4) (.int .i64 t419)).trans hx423_2
    replace hx423_0 := (cell_far (p := ⟨gb422, 5, none⟩) (by first | (rw [add_block]; exact hn423_5) | (show (Addr.add _ _).block ≠ _; rw [add_block]; exact hn423_5) | exact hn423_5) (.int .u64 t420)).trans hx423_0
    replace hx423_1 := (cell_far (p := ⟨gb422, 5, none⟩) (by first | (rw [add_block]; exact hn423_5) | (show (Addr.add _ _).block ≠ _; rw [add_block]; exact hn423_5) | exact hn423_5) (.int .u64 t420)).trans hx423_1
    replace hx423_2 := (cell_far (p := ⟨gb422, 5, none⟩) (by first | (rw [add_block]; exact hn423_5) | (show (Addr.add _ _).block ≠ _; rw [add_block]; exact hn423_5) | exact hn423_5) (.int .u64 t420)).trans hx423_2
    clear hn423_0
    clear hn423_1
    clear hn423_2
    clear hn423_3
    clear hn423_4
    clear hn423_5
    replace p423 := eq_true p423
    replace q423 := eq_true q423
    try go_wp2_with (first | ((with_reducible refine gate_callee (f := 14) rfl ?_); (try refine ug_ (by rfl) ?_); refine goesA_ (some 68) Try.func14 #[.agg #[.int .i64 ((rd_T23 y396 x2_1).f0), .int .i64 ((rd_T23 y396 x2_1).f1), .int .i64 ((rd_T23 y396 x2_1).f2)]] ?_; (with_reducible refine (bucket_CheckLimit.calls ((rd_T23 y396 x2_1).f0) ((rd_T23 y396 x2_1).f1) ((rd_T23 y396 x2_1).f2) t424 _ A8.out).mono ?_); rintro e w30 ⟨rfl, hb⟩; refine ⟨_, rfl, ?_⟩; replace HO_1 := Aside0.mk (Kd.R_below (by (with_reducible repeat (first | apply Kd.R_alloc | apply Kd.R_drewN | apply Kd.R_drew)); exact (Kd.R_mono (Kd.R_far (p := ⟨gb422, 5, none⟩) (Kd.R_far (p := ⟨gb422, 4, none⟩) (Kd.R_far (p := ⟨gb422, 3, none⟩) (Kd.R_far (p := ⟨gb422, 2, none⟩) (Kd.R_far (p := ⟨gb422, 1, none⟩) (Kd.R_far (p := ⟨gb422, 0, none⟩) (Kd.R_types HO_1.out BK422.out (by decide)) (fun _ hk => hk.2) (.int .i64 t415)) (fun _ hk => hk.2) (.int .i64 t416)) (fun _ hk => hk.2) (.int .i64 t417)) (fun _ hk => hk.2) (.int .i64 t418)) (fun _ hk => hk.2) (.int .i64 t419)) (fun _ hk => hk.2) (.int .u64 t420)) (fun _ h_ => h_.1))) hb); replace BK407 := bf_ BK407 hb; replace BK422 := Aside0.mk (blk_below (g := gb422) (o := .cells #[.int .i64 t415, .int .i64 t416, .int .i64 t417, .int .i64 t418, .int .i64 t419, .int .u64 t420] 26 (0, 0)) (bp6_ (bq_ BK422)) hb); replace HB := bs_ w hb; clear hb; have p425 : 0 ≤ (x2_1 : Int) := of_decide_eq_true (by first | (with_reducible assumption) | assumption); have q425 : x2_1 < (y396.length : Int) := of_decide_eq_true (by first | (with_reducible assumption) | assumption); obtain ⟨ad425, e425, hx425_0, hx425_1, hx425_2⟩ := at_T23 (Kd.R_reads' HO_1.out).2.2 x2_1 p425 q425; obtain rfl : ad399 = ad425 := (by injection e425); replace p425 := eq_true p425; replace q425 := eq_true q425) | (go_at_call 16; (with_reducible refine (bucket_Check.calls ((rd_T23 y396 x2_1).f0) ((rd_T23 y396 x2_1).f1) ((rd_T23 y396 x2_1).f2) 0 0 0 t426 _ A12.out).mono ?_); rintro e w31 ⟨rfl, hb⟩; replace HO_1 := rb_ HO_1 hb; replace BK407 := bb_ BK407 hb; replace BK422 := bb_ BK422 hb; replace HB := bs_ w hb; clear hb))
    go_roundg k1
    case measure => have := HK1.out; omega
    case rel => exact ⟨(wrap64 (x2_1 + 1)), rf_, H', ⟨by have := HK1.out; omega⟩, ⟨rs_ HO_1⟩, bw_⟩
   ·rw [if_neg c3] at H
    have c3b0 : decide (x2_1 < (y396.length : Int)) = false := decide_eq_false c3
    clear c3
    obtain ⟨y428, hy428⟩ : ∃ y_ : List (S26), y_ = (([(⟨(⟨5, 2, 3⟩ : S23), (-1), 0, 0⟩ : S26), (⟨(⟨5, 2, 3⟩ : S23), 6, 0, 0⟩ : S26), (⟨(⟨5, 2, 3⟩ : S23), 0, (-1), 0⟩ : S26), (⟨(⟨5, 2, 3⟩ : S23), 0, 3, 0⟩ : S26), (⟨(⟨5, 2, 3⟩ : S23), 5, 1, 0⟩ : S26)] : List (S26))) := ⟨_, rfl⟩
    replace H : (spigotlaw03_BucketNames.l1 k1 y428 0 5 2 3) = some r := by first | (rw [hy428]; with_reducible exact H) | (have H2_ := (Option.bind_some _ _).symm.trans H; rw [hy428]; with_reducible exact H2_) | (have H2_ := (Option.bind_some _ _).symm.trans H; with_reducible exact H2_) | with_reducible exact H | (rw [hy428]; exact H) | exact H
    have Ny428 := Aside0.mk hy428
    clear hy428
    have H' := Aside0.mk H
    clear H
    obtain ⟨Ao32, co32, eo32⟩ := Kd.R_slice HO_1.out
    subst eo32
    go_wp2_with (first | ((with_reducible refine gate_dst (N := 7) rfl ?_); (try refine ug_ (by rfl) ?_); refine bx_ #[.int .i64 0, .int .i64 0, .int .i64 0] 23 ?_; intro gb427 hg w33 BK427 hb; have GW427 := bz_ w hg; replace HO_1 := Aside0.mk (Kd.R_below (Kd.R_elderB (rs_ HO_1) gb427 (Nat.le_of_eq hg.symm)) hb); replace HB := bs_ w hb; clear hb hg; replace hc427 := ce3_ BK427) | ((with_reducible refine gate_dst (N := 98) rfl ?_); (try refine ug_ (by rfl) ?_); refine Kd.R_lit k26 _ 26 ?hg (N := 98) ?hd (xs := ([(⟨(⟨5, 2, 3⟩ : S23), (-1), 0, 0⟩ : S26), (⟨(⟨5, 2, 3⟩ : S23), 6, 0, 0⟩ : S26), (⟨(⟨5, 2, 3⟩ : S23), 0, (-1), 0⟩ : S26), (⟨(⟨5, 2, 3⟩ : S23), 0, 3, 0⟩ : S26), (⟨(⟨5, 2, 3⟩ : S23), 5, 1, 0⟩ : S26)] : List (S26))) (inner := [.int .i64 5, .int .i64 2, .int .i64 3, .int .i64 (-1), .int .i64 0, .int .u64 0, .int .i64 5, .int .i64 2, .int .i64 3, .int .i64 6, .int .i64 0, .int .u64 0, .int .i64 5, .int .i64 2, .int .i64 3, .int .i64 0, .int .i64 (-1), .int .u64 0, .int .i64 5, .int .i64 2, .int .i64 3, .int .i64 0, .int .i64 3, .int .u64 0, .int .i64 5, .int .i64 2, .int .i64 3, .int .i64 5, .int .i64 1, .int .u64 0]) (ok := fun _ => True) (okp := fun _ => True) ?hr ?hp (fun _ hk => hk) trivial (Below.refl _ _) (Nat.le_refl _) (by simp) ?_; (case hd => rfl); (case hg => rfl); (case hr => first | (go_simp; done) | (go_simp; rfl)); (case hp => exact (Reps.c6 (show Kd.M k26 _ _ _ (⟨(⟨5, 2, 3⟩ : S23), (-1), 0, 0⟩ : S26) [.int .i64 5, .int .i64 2, .int .i64 3, .int .i64 (-1), .int .i64 0, .int .u64 0] from (k26_mkM _ _ _ (⟨(⟨5, 2, 3⟩ : S23), (-1), 0, 0⟩ : S26) )) (Reps.c6 (show Kd.M k26 _ _ _ (⟨(⟨5, 2, 3⟩ : S23), 6, 0, 0⟩ : S26) [.int .i64 5, .int .i64 2, .int .i64 3, .int .i64 6, .int .i64 0, .int .u64 0] from (k26_mkM _ _ _ (⟨(⟨5, 2, 3⟩ : S23), 6, 0, 0⟩ : S26) )) (Reps.c6 (show Kd.M k26 _ _ _ (⟨(⟨5, 2, 3⟩ : S23), 0, (-1), 0⟩ : S26) [.int .i64 5, .int .i64 2, .int .i64 3, .int .i64 0, .int .i64 (-1), .int .u64 0] from (k26_mkM _ _ _ (⟨(⟨5, 2, 3⟩ : S23), 0, (-1), 0⟩ : S26) )) (Reps.c6 (show Kd.M k26 _ _ _ (⟨(⟨5, 2, 3⟩ : S23), 0, 3, 0⟩ : S26) [.int .i64 5, .int .i64 2, .int .i64 3, .int .i64 0, .int .i64 3, .int .u64 0] from (k26_mkM _ _ _ (⟨(⟨5, 2, 3⟩ : S23), 0, 3, 0⟩ : S26) )) (Reps.c6 (show Kd.M k26 _ _ _ (⟨(⟨5, 2, 3⟩ : S23), 5, 1, 0⟩ : S26) [.int .i64 5, .int .i64 2, .int .i64 3, .int .i64 5, .int .i64 1, .int .u64 0] from (k26_mkM _ _ _ (⟨(⟨5, 2, 3⟩ : S23), 5, 1, 0⟩ : S26) )) (Reps.none _ _))))))); intro v429 w35 ho36 hb hg_ hnew_; clear hg_ hnew_; (first | rw [← Ny428.out] at ho36 | (simp only [Int.reduceToNat] at ho36; rw [← Ny428.out] at ho36)); have HO430 := Aside0.mk (Kd.R_lower ho36 (below_size bh_)); replace HO_1 := Aside0.mk (Kd.R_below (by (with_reducible repeat (first | apply Kd.R_alloc | apply Kd.R_drewN | apply Kd.R_drew)); exact (Kd.R_mono (Kd.R_far (p := ⟨gb427, 2, none⟩) (Kd.R_far (p := ⟨gb427, 1, none⟩) (Kd.R_far (p := ⟨gb427, 0, none⟩) (Kd.R_mono HO_1.out (fun k_ hk => (⟨hk, hk.2⟩ : _ ∧ k_ ≠ gb427))) (fun _ hk => hk.2) (.int .i64 5)) (fun _ hk => hk.2) (.int .i64 2)) (fun _ hk => hk.2) (.int .i64 3)) (fun _ h_ => h_.1))) hb); replace BK427 := Aside0.mk (blk_below (g := gb427) (o := .cells #[.int .i64 5, .int .i64 2, .int .i64 3] 23 (0, 0)) (bp3_ (bq_ BK427)) hb); replace HB := bs_ w hb; clear hb ho36))
    go_loopg [9] k1 (fun kq v9 w' => ∃ (x9_2 : Int), v9 = .int .i64 x9_2 ∧ Aside0 (spigotlaw03_BucketNames.l1 kq y428 x9_2 5 2 3 = some r) ∧ Aside0 (kq ≤ k1) ∧ Aside0 (Kd.R k26 26 w' w.heap.size (fun _ => True) v429 y428) ∧ Aside0 (w'.heap[gb427]? = some (.cells #[.int .i64 5, .int .i64 2, .int .i64 3] 23 (0, 0))) ∧ Aside0 (Below w.heap.size w w'))
    case atStart => exact ⟨(0), rf_, H', ⟨Nat.le_refl _⟩, ⟨rs_ HO430⟩, ⟨bq_ BK427⟩, bw_⟩
    case round =>
     clear H'
     try clear c3
     try clear c3b0
     try clear c6
     obtain ⟨x9_2, rfl, HA, HK2, HO_8, BK427, HB⟩ := hrel
     cases gk with
     | zero => exact absurd HA.out (by simp [spigotlaw03_BucketNames.l1])
     | succ k2 =>
      have H := HA.out
      clear HA
      simp only [spigotlaw03_BucketNames.l1] at H
      by_cases c37 : x9_2 < (y428.length : Int)
      ·rw [if_pos c37] at H
       have c37b0 : decide (x9_2 < (y428.length : Int)) = true := decide_eq_true c37
       clear c37
       by_cases c38 : 0 ≤ x9_2
       rotate_left
       ·rw [if_neg c38] at H; exact absurd H (by simp)
       rw [if_pos c38] at H
       have c38b0 : decide (0 ≤ x9_2) = true := decide_eq_true c38
       clear c38
       obtain ⟨⟨t432, t433, t434, t435, t436, t437, t438⟩, A39, H⟩ := bo_ H
       try dsimp only at H
       obtain ⟨⟨t441, t442, t443, t444, t445, t446, t447⟩, A40, H⟩ := bo_ H
       try dsimp only at H
       obtain ⟨⟨t450, t451⟩, A41, H⟩ := bo_ H
       try dsimp only at H
       obtain ⟨t453, A42, H⟩ := bo_ H
       try dsimp only at H
       by_cases c43 : t453 = 8
       rotate_left
       ·rw [if_neg c43] at H; exact absurd H (by simp)
       rw [if_pos c43] at H
       have c43b0 : (t453 == 8) = true := beq_iff_eq.mpr c43
       have c43b1 : (t453 != 8) = false := bne_eq_false_iff_eq.mpr c43
       clear c43
       by_cases c44 : t438 = 8
       rotate_left
       ·rw [if_neg c44] at H; exact absurd H (by simp)
       rw [if_pos c44] at H
       have c44b0 : (t438 == 8) = true := beq_iff_eq.mpr c44
       have c44b1 : (t438 != 8) = false := bne_eq_false_iff_eq.mpr c44
       clear c44
       by_cases c45 : t447 = 8
       rotate_left
       ·rw [if_neg c45] at H; exact absurd H (by simp)
       rw [if_pos c45] at H
       have c45b0 : (t447 == 8) = true := beq_iff_eq.mpr c45
       have c45b1 : (t447 != 8) = false := bne_eq_false_iff_eq.mpr c45
       clear c45
       by_cases c46 : t451 = 8
       rotate_left
       ·rw [if_neg c46] at H; exact absurd H (by simp)
       rw [if_pos c46] at H
       have c46b0 : (t451 == 8) = true := beq_iff_eq.mpr c46
       have c46b1 : (t451 != 8) = false := bne_eq_false_iff_eq.mpr c46
       clear c46
       have H' := Aside0.mk H
       clear H
       obtain ⟨Ao47, co47, eo47⟩ := Kd.R_slice HO_8.out
       subst eo47
       have p431 : 0 ≤ (x9_2 : Int) := of_decide_eq_true (by first | (with_reducible assumption) | assumption)
       have q431 : x9_2 < (y428.length : Int) := of_decide_eq_true (by first | (with_reducible assumption) | assumption)
       obtain ⟨ad431, e431, hx431_0, hx431_1, hx431_2, hx431_3, hx431_4, hx431_5⟩ := at_T26 (Kd.R_reads' HO_8.out).2.2 x9_2 p431 q431
       cases e431
       replace p431 := eq_true p431
       replace q431 := eq_true q431
       go_wp2_with (first | ((with_reducible refine gate_callee (f := 12) rfl ?_); (try refine ug_ (by rfl) ?_); refine goesA_ (some 110) Try.func12 #[.agg #[.int .i64 ((rd_T26 y428 x9_2).f0.f0), .int .i64 ((rd_T26 y428 x9_2).f0.f1), .int .i64 ((rd_T26 y428 x9_2).f0.f2), .int .i64 ((rd_T26 y428 x9_2).f1), .int .i64 ((rd_T26 y428 x9_2).f2), .int .u64 ((rd_T26 y428 x9_2).f3)], .int .u64 9] ?_; (with_reducible refine (bucket_Refill.calls k2 ((rd_T26 y428 x9_2).f0.f0) ((rd_T26 y428 x9_2).f0.f1) ((rd_T26 y428 x9_2).f0.f2) ((rd_T26 y428 x9_2).f1) ((rd_T26 y428 x9_2).f2) ((rd_T26 y428 x9_2).f3) 9 t432 t433 t434 t435 t436 t437 t438 _ A39.out).mono ?_); rintro e w48 ⟨rfl, hb⟩; refine ⟨_, rfl, ?_⟩; replace HO_8 := rb_ HO_8 hb; replace BK427 := bb_ BK427 hb; replace HB := bs_ w hb; clear hb) | ((with_reducible refine gate_dst (N := 10) rfl ?_); (try refine ug_ (by rfl) ?_); refine bx_ #[.int .i64 0, .int .i64 0, .int .i64 0, .int .i64 0, .int .i64 0, .int .u64 0] 26 ?_; intro gb439 hg w49 BK439 hb; have GW439 := bz_ w hg; have NB427_439 := bn_ BK427 hg; have NB439_427 := bm_ BK427 hg; replace HO_8 := Aside0.mk (Kd.R_below (Kd.R_elderB (rs_ HO_8) gb439 (Nat.le_of_eq hg.symm)) hb); replace BK427 := bb_ BK427 hb; replace HB := bs_ w hb; clear hb hg; replace hn439_427 := NB439_427.out; replace hn427_439 := NB427_439.out; replace hc439 := ce6_ BK439; have p440 : 0 ≤ (x9_2 : Int) := of_decide_eq_true (by first | (with_reducible assumption) | assumption); have q440 : x9_2 < (y428.length : Int) := of_decide_eq_true (by first | (with_reducible assumption) | assumption); obtain ⟨ad440, e440, hx440_0, hx440_1, hx440_2, hx440_3, hx440_4, hx440_5⟩ := at_T26 (Kd.R_reads' HO_8.out).2.2 x9_2 p440 q440; obtain rfl : ad431 = ad440 := (by injection e440); have hn440 : ad431.block ≠ gb439 := Kd.own_blk (rn_ HO_8.out BK439.out); replace hx440_0 := cx6_ gb439 (.int .i64 t432) (.int .i64 t433) (.int .i64 t434) (.int .i64 t435) (.int .i64 t436) (.int .u64 t437) hx440_0; replace hx440_1 := cx6_ gb439 (.int .i64 t432) (.int .i64 t433) (.int .i64 t434) (.int .i64 t435) (.int .i64 t436) (.int .u64 t437) hx440_1; replace hx440_2 := cx6_ gb439 (.int .i64 t432) (.int .i64 t433) (.int .i64 t434) (.int .i64 t435) (.int .i64 t436) (.int .u64 t437) hx440_2; replace hx440_3 := cx6_ gb439 (.int .i64 t432) (.int .i64 t433) (.int .i64 t434) (.int .i64 t435) (.int .i64 t436) (.int .u64 t437) hx440_3; replace hx440_4 := cx6_ gb439 (.int .i64 t432) (.int .i64 t433) (.int .i64 t434) (.int .i64 t435) (.int .i64 t436) (.int .u64 t437) hx440_4; replace hx440_5 := cx6_ gb439 (.int .i64 t432) (.int .i64 t433) (.int .i64 t434) (.int .i64 t435) (.int .i64 t436) (.int .u64 t437) hx440_5; clear hn440; replace p440 := eq_true p440; replace q440 := eq_true q440) | ((with_reducible refine gate_callee (f := 18) rfl ?_); (try refine ug_ (by rfl) ?_); refine goesA_ (some 118) Try.func18 #[.agg #[.int .i64 ((rd_T26 y428 x9_2).f0.f0), .int .i64 ((rd_T26 y428 x9_2).f0.f1), .int .i64 ((rd_T26 y428 x9_2).f0.f2), .int .i64 ((rd_T26 y428 x9_2).f1), .int .i64 ((rd_T26 y428 x9_2).f2), .int .u64 ((rd_T26 y428 x9_2).f3)], .int .i64 (-1)] ?_; (with_reducible refine (bucket_Charge.calls ((rd_T26 y428 x9_2).f0.f0) ((rd_T26 y428 x9_2).f0.f1) ((rd_T26 y428 x9_2).f0.f2) ((rd_T26 y428 x9_2).f1) ((rd_T26 y428 x9_2).f2) ((rd_T26 y428 x9_2).f3) (-1) t441 t442 t443 t444 t445 t446 t447 _ A40.out).mono ?_); rintro e w52 ⟨rfl, hb⟩; refine ⟨_, rfl, ?_⟩; replace HO_8 := Aside0.mk (Kd.R_below (by (with_reducible repeat (first | apply Kd.R_alloc | apply Kd.R_drewN | apply Kd.R_drew)); exact (Kd.R_mono (Kd.R_far (p := ⟨gb439, 5, none⟩) (Kd.R_far (p := ⟨gb439, 4, none⟩) (Kd.R_far (p := ⟨gb439, 3, none⟩) (Kd.R_far (p := ⟨gb439, 2, none⟩) (Kd.R_far (p := ⟨gb439, 1, none⟩) (Kd.R_far (p := ⟨gb439, 0, none⟩) (Kd.R_mono HO_8.out (fun k_ hk => (⟨hk, hk.2⟩ : _ ∧ k_ ≠ gb439))) (fun _ hk => hk.2) (.int .i64 t432)) (fun _ hk => hk.2) (.int .i64 t433)) (fun _ hk => hk.2) (.int .i64 t434)) (fun _ hk => hk.2) (.int .i64 t435)) (fun _ hk => hk.2) (.int .i64 t436)) (fun _ hk => hk.2) (.int .u64 t437)) (fun _ h_ => h_.1))) hb); replace BK427 := bf_ BK427 hb; replace BK439 := Aside0.mk (blk_below (g := gb439) (o := .cells #[.int .i64 t432, .int .i64 t433, .int .i64 t434, .int .i64 t435, .int .i64 t436, .int .u64 t437] 26 (0, 0)) (bp6_ (bq_ BK439)) hb); replace HB := bs_ w hb; clear hb) | ((with_reducible refine gate_dst (N := 12) rfl ?_); (try refine ug_ (by rfl) ?_); refine bx_ #[.int .i64 0, .int .i64 0, .int .i64 0, .int .i64 0, .int .i64 0, .int .u64 0] 26 ?_; intro gb448 hg w53 BK448 hb; have GW448 := bz_ w hg; have NB427_448 := bn_ BK427 hg; have NB448_427 := bm_ BK427 hg; have NB439_448 := bn_ BK439 hg; have NB448_439 := bm_ BK439 hg; replace HO_8 := Aside0.mk (Kd.R_below (Kd.R_elderB (rs_ HO_8) gb448 (Nat.le_of_eq hg.symm)) hb); replace BK427 := bb_ BK427 hb; replace BK439 := bb_ BK439 hb; replace HB := bs_ w hb; clear hb hg; replace hn448_427 := NB448_427.out; replace hn427_448 := NB427_448.out; replace hn448_439 := NB448_439.out; replace hn439_448 := NB439_448.out; replace hc448 := ce6_ BK448; have p449 : 0 ≤ (x9_2 : Int) := of_decide_eq_true (by first | (with_reducible assumption) | assumption); have q449 : x9_2 < (y428.length : Int) := of_decide_eq_true (by first | (with_reducible assumption) | assumption); obtain ⟨ad449, e449, hx449_0, hx449_1, hx449_2, hx449_3, hx449_4, hx449_5⟩ := at_T26 (Kd.R_reads' HO_8.out).2.2 x9_2 p449 q449; obtain rfl : ad431 = ad449 := (by injection e449); have hn449 : ad431.block ≠ gb448 := Kd.own_blk (rn_ HO_8.out BK448.out); replace hx449_0 := cx6_ gb448 (.int .i64 t441) (.int .i64 t442) (.int .i64 t443) (.int .i64 t444) (.int .i64 t445) (.int .u64 t446) hx449_0; replace hx449_1 := cx6_ gb448 (.int .i64 t441) (.int .i64 t442) (.int .i64 t443) (.int .i64 t444) (.int .i64 t445) (.int .u64 t446) hx449_1; replace hx449_2 := cx6_ gb448 (.int .i64 t441) (.int .i64 t442) (.int .i64 t443) (.int .i64 t444) (.int .i64 t445) (.int .u64 t446) hx449_2; replace hx449_3 := cx6_ gb448 (.int .i64 t441) (.int .i64 t442) (.int .i64 t443) (.int .i64 t444) (.int .i64 t445) (.int .u64 t446) hx449_3; replace hx449_4 := cx6_ gb448 (.int .i64 t441) (.int .i64 t442) (.int .i64 t443) (.int .i64 t444) (.int .i64 t445) (.int .u64 t446) hx449_4; replace hx449_5 := cx6_ gb448 (.int .i64 t441) (.int .i64 t442) (.int .i64 t443) (.int .i64 t444) (.int .i64 t445) (.int .u64 t446) hx449_5; clear hn449; replace p449 := eq_true p449; replace q449 := eq_true q449) | ((with_reducible refine gate_callee (f := 20) rfl ?_); (try refine ug_ (by rfl) ?_); refine goesA_ (some 126) Try.func20 #[.agg #[.int .i64 ((rd_T26 y428 x9_2).f0.f0), .int .i64 ((rd_T26 y428 x9_2).f0.f1), .int .i64 ((rd_T26 y428 x9_2).f0.f2), .int .i64 ((rd_T26 y428 x9_2).f1), .int .i64 ((rd_T26 y428 x9_2).f2), .int .u64 ((rd_T26 y428 x9_2).f3)], .int .i64 (-1)] ?_; (with_reducible refine (bucket_Wait.calls k2 ((rd_T26 y428 x9_2).f0.f0) ((rd_T26 y428 x9_2).f0.f1) ((rd_T26 y428 x9_2).f0.f2) ((rd_T26 y428 x9_2).f1) ((rd_T26 y428 x9_2).f2) ((rd_T26 y428 x9_2).f3) (-1) t450 t451 _ A41.out).mono ?_); rintro e w57 ⟨rfl, hb⟩; refine ⟨_, rfl, ?_⟩; replace HO_8 := Aside0.mk (Kd.R_below (by (with_reducible repeat (first | apply Kd.R_alloc | apply Kd.R_drewN | apply Kd.R_drew)); exact (Kd.R_mono (Kd.R_far (p := ⟨gb448, 5, none⟩) (Kd.R_far (p := ⟨gb448, 4, none⟩) (Kd.R_far (p := ⟨gb448, 3, none⟩) (Kd.R_far (p := ⟨gb448, 2, none⟩) (Kd.R_far (p := ⟨gb448, 1, none⟩) (Kd.R_far (p := ⟨gb448, 0, none⟩) (Kd.R_mono HO_8.out (fun k_ hk => (⟨hk, hk.2⟩ : _ ∧ k_ ≠ gb448))) (fun _ hk => hk.2) (.int .i64 t441)) (fun _ hk => hk.2) (.int .i64 t442)) (fun _ hk => hk.2) (.int .i64 t443)) (fun _ hk => hk.2) (.int .i64 t444)) (fun _ hk => hk.2) (.int .i64 t445)) (fun _ hk => hk.2) (.int .u64 t446)) (fun _ h_ => h_.1))) hb); replace BK427 := bf_ BK427 hb; replace BK439 := bf_ BK439 hb; replace BK448 := Aside0.mk (blk_below (g := gb448) (o := .cells #[.int .i64 t441, .int .i64 t442, .int .i64 t443, .int .i64 t444, .int .i64 t445, .int .u64 t446] 26 (0, 0)) (bp6_ (bq_ BK448)) hb); replace HB := bs_ w hb; clear hb; have p452 : 0 ≤ (x9_2 : Int) := of_decide_eq_true (by first | (with_reducible assumption) | assumption); have q452 : x9_2 < (y428.length : Int) := of_decide_eq_true (by first | (with_reducible assumption) | assumption); obtain ⟨ad452, e452, hx452_0, hx452_1, hx452_2, hx452_3, hx452_4, hx452_5⟩ := at_T26 (Kd.R_reads' HO_8.out).2.2 x9_2 p452 q452; obtain rfl : ad431 = ad452 := (by injection e452); replace p452 := eq_true p452; replace q452 := eq_true q452) | ((with_reducible refine gate_callee (f := 16) rfl ?_); (try refine ug_ (by rfl) ?_); refine goesA_ (some 133) Try.func16 #[.agg #[.int .i64 ((rd_T26 y428 x9_2).f0.f0), .int .i64 ((rd_T26 y428 x9_2).f0.f1), .int .i64 ((rd_T26 y428 x9_2).f0.f2), .int .i64 ((rd_T26 y428 x9_2).f1), .int .i64 ((rd_T26 y428 x9_2).f2), .int .u64 ((rd_T26 y428 x9_2).f3)]] ?_; (with_reducible refine (bucket_Check.calls ((rd_T26 y428 x9_2).f0.f0) ((rd_T26 y428 x9_2).f0.f1) ((rd_T26 y428 x9_2).f0.f2) ((rd_T26 y428 x9_2).f1) ((rd_T26 y428 x9_2).f2) ((rd_T26 y428 x9_2).f3) t453 _ A42.out).mono ?_); rintro e w58 ⟨rfl, hb⟩; refine ⟨_, rfl, ?_⟩; replace HO_8 := rb_ HO_8 hb; replace BK427 := bb_ BK427 hb; replace BK439 := bb_ BK439 hb; replace BK448 := bb_ BK448 hb; replace HB := bs_ w hb; clear hb))
       go_roundg k2
       case measure => have := HK1.out; have := HK2.out; omega
       case rel => exact ⟨(wrap64 (x9_2 + 1)), rf_, H', ⟨by have := HK1.out; have := HK2.out; omega⟩, ⟨by (with_reducible repeat (first | apply Kd.R_alloc | apply Kd.R_drewN | apply Kd.R_drew)); exact Kd.R_mono HO_8.out (fun _ hk => trivial)⟩, ⟨bq_ BK427⟩, bw_⟩
      ·rw [if_neg c37] at H
       have c37b0 : decide (x9_2 < (y428.length : Int)) = false := decide_eq_false c37
       clear c37
       obtain ⟨⟨t454, t455, t456, t457, t458, t459⟩, A59, H⟩ := bo_ H
       try dsimp only at H
       obtain ⟨⟨t460, t461, t462, t463, t464, t465, t466⟩, A60, H⟩ := bo_ H
       try dsimp only at H
       obtain ⟨⟨t468, t469, t470, t471, t472, t473⟩, A61, H⟩ := bo_ H
       try dsimp only at H
       obtain ⟨⟨t474, t475, t476, t477, t478, t479, t480⟩, A62, H⟩ := bo_ H
       try dsimp only at H
       obtain ⟨⟨t482, t483, t484, t485, t486, t487⟩, A63, H⟩ := bo_ H
       try dsimp only at H
       obtain ⟨⟨t488, t489⟩, A64, H⟩ := bo_ H
       try dsimp only at H
       obtain ⟨⟨t490, t491, t492, t493, t494, t495⟩, A65, H⟩ := bo_ H
       try dsimp only at H
       obtain ⟨⟨t496, t497, t498, t499, t500, t501, t502⟩, A66, H⟩ := bo_ H
       try dsimp only at H
       obtain ⟨⟨t508, t509, t510, t511, t512, t513, t514⟩, A67, H⟩ := bo_ H
       try dsimp only at H
       obtain ⟨t516, A68, H⟩ := bo_ H
       try dsimp only at H
       by_cases c69 : t516 = true
       ·subst c69
        rw [if_pos rfl] at H
        try dsimp only at H
        obtain ⟨t517, A70, H⟩ := bo_ H
        try dsimp only at H
        by_cases c71 : t517 = true
        ·subst c71
         rw [if_pos rfl] at H
         try dsimp only at H
         obtain ⟨t518, A72, H⟩ := bo_ H
         try dsimp only at H
         by_cases c73 : t518 = true
         ·subst c73
          rw [if_pos rfl] at H
          try dsimp only at H
          obtain ⟨t519, A74, H⟩ := bo_ H
          try dsimp only at H
          by_cases c75 : t519 = true
          ·subst c75
           rw [if_pos rfl] at H
           try dsimp only at H
           obtain ⟨t520, A76, H⟩ := bo_ H
           try dsimp only at H
           by_cases c77 : t520 = true
           ·subst c77
            rw [if_pos rfl] at H
            try dsimp only at H
            obtain ⟨t521, A78, H⟩ := bo_ H
            try dsimp only at H
            obtain ⟨t522, A79, H⟩ := bo_ H
            try dsimp only at H
            by_cases c80 : t522 = true
            ·subst c80
             rw [if_pos rfl] at H
             try dsimp only at H
             obtain ⟨t523, A81, H⟩ := bo_ H
             try dsimp only at H
             by_cases c82 : t523 = true
             ·subst c82
              rw [if_pos rfl] at H
              try dsimp only at H
              obtain ⟨t524, A83, H⟩ := bo_ H
              try dsimp only at H
              by_cases c84 : t524 = true
              ·subst c84
               rw [if_pos rfl] at H
               try dsimp only at H
               obtain ⟨t525, A85, H⟩ := bo_ H
               try dsimp only at H
               by_cases c86 : t525 = true
               ·subst c86
                rw [if_pos rfl] at H
                try dsimp only at H
                obtain ⟨t526, A87, H⟩ := bo_ H
                try dsimp only at H
                by_cases c88 : t526 = true
                ·subst c88
                 rw [if_pos rfl] at H
                 try dsimp only at H
                 obtain ⟨t527, A89, H⟩ := bo_ H
                 try dsimp only at H
                 by_cases c90 : t527 = true
                 ·subst c90
                  rw [if_pos rfl] at H
                  try dsimp only at H
                  obtain ⟨t528, A91, H⟩ := bo_ H
                  try dsimp only at H
                  by_cases c92 : t466 = 2
                  rotate_left
                  ·rw [if_neg c92] at H; exact absurd H (by simp)
                  rw [if_pos c92] at H
                  have c92b0 : (t466 == 2) = true := beq_iff_eq.mpr c92
                  have c92b1 : (t466 != 2) = false := bne_eq_false_iff_eq.mpr c92
                  clear c92
                  by_cases c93 : t480 = 20
                  rotate_left
                  ·rw [if_neg c93] at H; exact absurd H (by simp)
                  rw [if_pos c93] at H
                  have c93b0 : (t480 == 20) = true := beq_iff_eq.mpr c93
                  have c93b1 : (t480 != 20) = false := bne_eq_false_iff_eq.mpr c93
                  clear c93
                  by_cases c94 : t489 = 2
                  rotate_left
                  ·rw [if_neg c94] at H; exact absurd H (by simp)
                  rw [if_pos c94] at H
                  have c94b0 : (t489 == 2) = true := beq_iff_eq.mpr c94
                  have c94b1 : (t489 != 2) = false := bne_eq_false_iff_eq.mpr c94
                  clear c94
                  by_cases c95 : t502 = 0
                  rotate_left
                  ·rw [if_neg c95] at H; exact absurd H (by simp)
                  rw [if_pos c95] at H
                  have c95b0 : (t502 == 0) = true := beq_iff_eq.mpr c95
                  have c95b1 : (t502 != 0) = false := bne_eq_false_iff_eq.mpr c95
                  clear c95
                  obtain ⟨⟨t529, t530, t531, t532, t533, t534⟩, A96, H⟩ := bo_ H
                  try dsimp only at H
                  by_cases c97 : ((t496 == t529 && (t497 == t530 && (t498 == t531))) && (t499 == t532 && (t500 == t533 && (t501 == t534)))) = true
                  rotate_left
                  ·rw [if_neg c97] at H; exact absurd H (by simp)
                  rw [if_pos c97] at H
                  have c97b0 : ((t496 == t529 && (t497 == t530 && (t498 == t531))) && (t499 == t532 && (t500 == t533 && (t501 == t534)))) = true := c97
                  clear c97
                  by_cases c98 : t514 = 0
                  rotate_left
                  ·rw [if_neg c98] at H; exact absurd H (by simp)
                  rw [if_pos c98] at H
                  have c98b0 : (t514 == 0) = true := beq_iff_eq.mpr c98
                  have c98b1 : (t514 != 0) = false := bne_eq_false_iff_eq.mpr c98
                  clear c98
                  by_cases c99 : ((t508 == 5 && (t509 == 2 && (t510 == 3))) && (t511 == 0 && (t512 == 0 && (t513 == 7)))) = true
                  rotate_left
                  ·rw [if_neg c99] at H; exact absurd H (by simp)
                  rw [if_pos c99] at H
                  have c99b0 : ((t508 == 5 && (t509 == 2 && (t510 == 3))) && (t511 == 0 && (t512 == 0 && (t513 == 7)))) = true := c99
                  clear c99
                  by_cases c100 : t521 = true
                  ·subst c100
                   rw [if_pos rfl] at H
                   try dsimp only at H
                   by_cases c101 : t528 = true
                   ·subst c101
                    rw [if_pos rfl] at H
                    try dsimp only at H
                    obtain ⟨t535, A102, H⟩ := bo_ H
                    replace H : (some t535) = some r := H
                    obtain rfl := Option.some.inj H
                    obtain ⟨Ao103, co103, eo103⟩ := Kd.R_slice HO_8.out
                    subst eo103
                    try go_wp2_with (first | ((with_reducible refine gate_callee (f := 24) rfl ?_); (try refine ug_ (by rfl) ?_); refine goesA_ (some 148) Try.func24 #[] ?_; (with_reducible refine (spigotlaw03_given.calls  t454 t455 t456 t457 t458 t459 _ A59.out).mono ?_); rintro e w104 ⟨rfl, hb⟩; refine ⟨_, rfl, ?_⟩; replace HO_8 := rb_ HO_8 hb; replace BK427 := bb_ BK427 hb; replace HB := bs_ w hb; clear hb) | ((with_reducible refine gate_callee (f := 18) rfl ?_); (try refine ug_ (by rfl) ?_); refine goesA_ (some 149) Try.func18 #[.agg #[.int .i64 t454, .int .i64 t455, .int .i64 t456, .int .i64 t457, .int .i64 t458, .int .u64 t459], .int .i64 (-1)] ?_; (with_reducible refine (bucket_Charge.calls t454 t455 t456 t457 t458 t459 (-1) t460 t461 t462 t463 t464 t465 t466 _ A60.out).mono ?_); rintro e w105 ⟨rfl, hb⟩; refine ⟨_, rfl, ?_⟩; replace HO_8 := rb_ HO_8 hb; replace BK427 := bb_ BK427 hb; replace HB := bs_ w hb; clear hb) | ((with_reducible refine gate_dst (N := 16) rfl ?_); (try refine ug_ (by rfl) ?_); refine bx_ #[.int .i64 0, .int .i64 0, .int .i64 0, .int .i64 0, .int .i64 0, .int .u64 0] 26 ?_; intro gb467 hg w106 BK467 hb; have GW467 := bz_ w hg; have NB427_467 := bn_ BK427 hg; have NB467_427 := bm_ BK427 hg; replace HO_8 := Aside0.mk (Kd.R_below (Kd.R_elderB (rs_ HO_8) gb467 (Nat.le_of_eq hg.symm)) hb); replace BK427 := bb_ BK427 hb; replace HB := bs_ w hb; clear hb hg; replace hn467_427 := NB467_427.out; replace hn427_467 := NB427_467.out; replace hc467 := ce6_ BK467) | ((with_reducible refine gate_callee (f := 24) rfl ?_); (try refine ug_ (by rfl) ?_); refine goesA_ (some 153) Try.func24 #[] ?_; (with_reducible refine (spigotlaw03_given.calls  t468 t469 t470 t471 t472 t473 _ A61.out).mono ?_); rintro e w109 ⟨rfl, hb⟩; refine ⟨_, rfl, ?_⟩; replace HO_8 := Aside0.mk (Kd.R_below (by (with_reducible repeat (first | apply Kd.R_alloc | apply Kd.R_drewN | apply Kd.R_drew)); exact (Kd.R_mono (Kd.R_far (p := ⟨gb467, 5, none⟩) (Kd.R_far (p := ⟨gb467, 4, none⟩) (Kd.R_far (p := ⟨gb467, 3, none⟩) (Kd.R_far (p := ⟨gb467, 2, none⟩) (Kd.R_far (p := ⟨gb467, 1, none⟩) (Kd.R_far (p := ⟨gb467, 0, none⟩) (Kd.R_mono HO_8.out (fun k_ hk => (⟨hk, hk.2⟩ : _ ∧ k_ ≠ gb467))) (fun _ hk => hk.2) (.int .i64 t460)) (fun _ hk => hk.2) (.int .i64 t461)) (fun _ hk => hk.2) (.int .i64 t462)) (fun _ hk => hk.2) (.int .i64 t463)) (fun _ hk => hk.2) (.int .i64 t464)) (fun _ hk => hk.2) (.int .u64 t465)) (fun _ h_ => h_.1))) hb); replace BK427 := bf_ BK427 hb; replace BK467 := Aside0.mk (blk_below (g := gb467) (o := .cells #[.int .i64 t460, .int .i64 t461, .int .i64 t462, .int .i64 t463, .int .i64 t464, .int .u64 t465] 26 (0, 0)) (bp6_ (bq_ BK467)) hb); replace HB := bs_ w hb; clear hb) | ((with_reducible refine gate_callee (f := 18) rfl ?_); (try refine ug_ (by rfl) ?_); refine goesA_ (some 154) Try.func18 #[.agg #[.int .i64 t468, .int .i64 t469, .int .i64 t470, .int .i64 t471, .int .i64 t472, .int .u64 t473], .int .i64 2] ?_; (with_reducible refine (bucket_Charge.calls t468 t469 t470 t471 t472 t473 2 t474 t475 t476 t477 t478 t479 t480 _ A62.out).mono ?_); rintro e w110 ⟨rfl, hb⟩; refine ⟨_, rfl, ?_⟩; replace HO_8 := rb_ HO_8 hb; replace BK427 := bb_ BK427 hb; replace BK467 := bb_ BK467 hb; replace HB := bs_ w hb; clear hb) | ((with_reducible refine gate_dst (N := 18) rfl ?_); (try refine ug_ (by rfl) ?_); refine bx_ #[.int .i64 0, .int .i64 0, .int .i64 0, .int .i64 0, .int .i64 0, .int .u64 0] 26 ?_; intro gb481 hg w111 BK481 hb; have GW481 := bz_ w hg; have NB427_481 := bn_ BK427 hg; have NB481_427 := bm_ BK427 hg; have NB467_481 := bn_ BK467 hg; have NB481_467 := bm_ BK467 hg; replace HO_8 := Aside0.mk (Kd.R_below (Kd.R_elderB (rs_ HO_8) gb481 (Nat.le_of_eq hg.symm)) hb); replace BK427 := bb_ BK427 hb; replace BK467 := bb_ BK467 hb; replace HB := bs_ w hb; clear hb hg; replace hn481_427 := NB481_427.out; replace hn427_481 := NB427_481.out; replace hn481_467 := NB481_467.out; replace hn467_481 := NB467_481.out; replace hc481 := ce6_ BK481) | ((with_reducible refine gate_callee (f := 24) rfl ?_); (try refine ug_ (by rfl) ?_); refine goesA_ (some 158) Try.func24 #[] ?_; (with_reducible refine (spigotlaw03_given.calls  t482 t483 t484 t485 t486 t487 _ A63.out).mono ?_); rintro e w115 ⟨rfl, hb⟩; refine ⟨_, rfl, ?_⟩; replace HO_8 := Aside0.mk (Kd.R_below (by (with_reducible repeat (first | apply Kd.R_alloc | apply Kd.R_drewN | apply Kd.R_drew)); exact (Kd.R_mono (Kd.R_far (p := ⟨gb481, 5, none⟩) (Kd.R_far (p := ⟨gb481, 4, none⟩) (Kd.R_far (p := ⟨gb481, 3, none⟩) (Kd.R_far (p := ⟨gb481, 2, none⟩) (Kd.R_far (p := ⟨gb481, 1, none⟩) (Kd.R_far (p := ⟨gb481, 0, none⟩) (Kd.R_mono HO_8.out (fun k_ hk => (⟨hk, hk.2⟩ : _ ∧ k_ ≠ gb481))) (fun _ hk => hk.2) (.int .i64 t474)) (fun _ hk => hk.2) (.int .i64 t475)) (fun _ hk => hk.2) (.int .i64 t476)) (fun _ hk => hk.2) (.int .i64 t477)) (fun _ hk => hk.2) (.int .i64 t478)) (fun _ hk => hk.2) (.int .u64 t479)) (fun _ h_ => h_.1))) hb); replace BK427 := bf_ BK427 hb; replace BK467 := bf_ BK467 hb; replace BK481 := Aside0.mk (blk_below (g := gb481) (o := .cells #[.int .i64 t474, .int .i64 t475, .int .i64 t476, .int .i64 t477, .int .i64 t478, .int .u64 t479] 26 (0, 0)) (bp6_ (bq_ BK481)) hb); replace HB := bs_ w hb; clear hb) | ((with_reducible refine gate_callee (f := 20) rfl ?_); (try refine ug_ (by rfl) ?_); refine goesA_ (some 159) Try.func20 #[.agg #[.int .i64 t482, .int .i64 t483, .int .i64 t484, .int .i64 t485, .int .i64 t486, .int .u64 t487], .int .i64 (-1)] ?_; (with_reducible refine (bucket_Wait.calls k2 t482 t483 t484 t485 t486 t487 (-1) t488 t489 _ A64.out).mono ?_); rintro e w116 ⟨rfl, hb⟩; refine ⟨_, rfl, ?_⟩; replace HO_8 := rb_ HO_8 hb; replace BK427 := bb_ BK427 hb; replace BK467 := bb_ BK467 hb; replace BK481 := bb_ BK481 hb; replace HB := bs_ w hb; clear hb) | ((with_reducible refine gate_callee (f := 24) rfl ?_); (try refine ug_ (by rfl) ?_); refine goesA_ (some 163) Try.func24 #[] ?_; (with_reducible refine (spigotlaw03_given.calls  t490 t491 t492 t493 t494 t495 _ A65.out).mono ?_); rintro e w117 ⟨rfl, hb⟩; refine ⟨_, rfl, ?_⟩; replace HO_8 := rb_ HO_8 hb; replace BK427 := bb_ BK427 hb; replace BK467 := bb_ BK467 hb; replace BK481 := bb_ BK481 hb; replace HB := bs_ w hb; clear hb) | ((with_reducible refine gate_callee (f := 18) rfl ?_); (try refine ug_ (by rfl) ?_); refine goesA_ (some 164) Try.func18 #[.agg #[.int .i64 t490, .int .i64 t491, .int .i64 t492, .int .i64 t493, .int .i64 t494, .int .u64 t495], .int .i64 0] ?_; (with_reducible refine (bucket_Charge.calls t490 t491 t492 t493 t494 t495 0 t496 t497 t498 t499 t500 t501 t502 _ A66.out).mono ?_); rintro e w118 ⟨rfl, hb⟩; refine ⟨_, rfl, ?_⟩; replace HO_8 := rb_ HO_8 hb; replace BK427 := bb_ BK427 hb; replace BK467 := bb_ BK467 hb; replace BK481 := bb_ BK481 hb; replace HB := bs_ w hb; clear hb) | ((with_reducible refine gate_dst (N := 22) rfl ?_); (try refine ug_ (by rfl) ?_); refine bx_ #[.int .i64 0, .int .i64 0, .int .i64 0, .int .i64 0, .int .i64 0, .int .u64 0] 26 ?_; intro gb503 hg w119 BK503 hb; have GW503 := bz_ w hg; have NB427_503 := bn_ BK427 hg; have NB503_427 := bm_ BK427 hg; have NB467_503 := bn_ BK467 hg; have NB503_467 := bm_ BK467 hg; have NB481_503 := bn_ BK481 hg; have NB503_481 := bm_ BK481 hg; replace HO_8 := Aside0.mk (Kd.R_below (Kd.R_elderB (rs_ HO_8) gb503 (Nat.le_of_eq hg.symm)) hb); replace BK427 := bb_ BK427 hb; replace BK467 := bb_ BK467 hb; replace BK481 := bb_ BK481 hb; replace HB := bs_ w hb; clear hb hg; replace hn503_427 := NB503_427.out; replace hn427_503 := NB427_503.out; replace hn503_467 := NB503_467.out; replace hn467_503 := NB467_503.out; replace hn503_481 := NB503_481.out; replace hn481_503 := NB481_503.out; replace hc503 := ce6_ BK503) | ((with_reducible refine gate_dst (N := 24) rfl ?_); (try refine ug_ (by rfl) ?_); refine bx_ #[.int .i64 0, .int .i64 0, .int .i64 0, .int .i64 0, .int .i64 0, .int .u64 0] 26 ?_; intro gb504 hg w124 BK504 hb; have GW504 := bz_ w hg; have NB427_504 := Aside0.mk ((by rw [hg]; exact Nat.ne_of_lt (blk_lt (g := gb427) (o := .cells #[.int .i64 5, .int .i64 2, .int .i64 3] 23 (0, 0)) (bt_ BK427)) : gb427 ≠ gb504)); have NB504_427 := Aside0.mk ((by rw [hg]; exact Nat.ne_of_gt (blk_lt (g := gb427) (o := .cells #[.int .i64 5, .int .i64 2, .int .i64 3] 23 (0, 0)) (bt_ BK427)) : gb504 ≠ gb427)); have NB467_504 := Aside0.mk ((by rw [hg]; exact Nat.ne_of_lt (blk_lt (g := gb467) (o := .cells #[.int .i64 t460, .int .i64 t461, .int .i64 t462, .int .i64 t463, .int .i64 t464, .int .u64 t465] 26 (0, 0)) (bt_ BK467)) : gb467 ≠ gb504)); have NB504_467 := Aside0.mk ((by rw [hg]; exact Nat.ne_of_gt (blk_lt (g := gb467) (o := .cells #[.int .i64 t460, .int .i64 t461, .int .i64 t462, .int .i64 t463, .int .i64 t464, .int .u64 t465] 26 (0, 0)) (bt_ BK467)) : gb504 ≠ gb467)); have NB481_504 := Aside0.mk ((by rw [hg]; exact Nat.ne_of_lt (blk_lt (g := gb481) (o := .cells #[.int .i64 t474, .int .i64 t475, .int .i64 t476, .int .i64 t477, .int .i64 t478, .int .u64 t479] 26 (0, 0)) (bt_ BK481)) : gb481 ≠ gb504)); have NB504_481 := Aside0.mk ((by rw [hg]; exact Nat.ne_of_gt (blk_lt (g := gb481) (o := .cells #[.int .i64 t474, .int .i64 t475, .int .i64 t476, .int .i64 t477, .int .i64 t478, .int .u64 t479] 26 (0, 0)) (bt_ BK481)) : gb504 ≠ gb481)); have NB503_504 := Aside0.mk ((by rw [hg]; exact Nat.ne_of_lt (blk_lt (g := gb503) (o := .cells #[.int .i64 t496, .int .i64 t497, .int .i64 t498, .int .i64 t499, .int .i64 t500, .int .u64 t501] 26 (0, 0)) (bp6_ (bq_ BK503))) : gb503 ≠ gb504)); have NB504_503 := Aside0.mk ((by rw [hg]; exact Nat.ne_of_gt (blk_lt (g := gb503) (o := .cells #[.int .i64 t496, .int .i64 t497, .int .i64 t498, .int .i64 t499, .int .i64 t500, .int .u64 t501] 26 (0, 0)) (bp6_ (bq_ BK503))) : gb504 ≠ gb503)); replace HO_8 := Aside0.mk (Kd.R_below (Kd.R_elderB (by (with_reducible repeat (first | apply Kd.R_alloc | apply Kd.R_drewN | apply Kd.R_drew)); exact (Kd.R_mono (Kd.R_far (p := ⟨gb503, 5, none⟩) (Kd.R_far (p := ⟨gb503, 4, none⟩) (Kd.R_far (p := ⟨gb503, 3, none⟩) (Kd.R_far (p := ⟨gb503, 2, none⟩) (Kd.R_far (p := ⟨gb503, 1, none⟩) (Kd.R_far (p := ⟨gb503, 0, none⟩) (Kd.R_mono HO_8.out (fun k_ hk => (⟨hk, hk.2⟩ : _ ∧ k_ ≠ gb503))) (fun _ hk => hk.2) (.int .i64 t496)) (fun _ hk => hk.2) (.int .i64 t497)) (fun _ hk => hk.2) (.int .i64 t498)) (fun _ hk => hk.2) (.int .i64 t499)) (fun _ hk => hk.2) (.int .i64 t500)) (fun _ hk => hk.2) (.int .u64 t501)) (fun _ h_ => h_.1))) gb504 (Nat.le_of_eq hg.symm)) hb); replace BK427 := bf_ BK427 hb; replace BK467 := bf_ BK467 hb; replace BK481 := bf_ BK481 hb; replace BK503 := Aside0.mk (blk_below (g := gb503) (o := .cells #[.int .i64 t496, .int .i64 t497, .int .i64 t498, .int .i64 t499, .int .i64 t500, .int .u64 t501] 26 (0, 0)) (bp6_ (bq_ BK503)) hb); replace HB := bs_ w hb; clear hb hg; replace hn504_427 := NB504_427.out; replace hn427_504 := NB427_504.out; replace hn504_467 := NB504_467.out; replace hn467_504 := NB467_504.out; replace hn504_481 := NB504_481.out; replace hn481_504 := NB481_504.out; replace hn504_503 := NB504_503.out; replace hn503_504 := NB503_504.out; replace hc504 := ce6_ BK504) | ((with_reducible refine gate_dst (N := 25) rfl ?_); (try refine ug_ (by rfl) ?_); refine bx_ #[.int .i64 0, .int .i64 0, .int .i64 0, .int .i64 0, .int .i64 0, .int .u64 0] 26 ?_; intro gb505 hg w130 BK505 hb; have GW505 := bz_ w hg; have NB427_505 := Aside0.mk ((by rw [hg]; exact Nat.ne_of_lt (blk_lt (g := gb427) (o := .cells #[.int .i64 5, .int .i64 2, .int .i64 3] 23 (0, 0)) (bt_ BK427)) : gb427 ≠ gb505)); have NB505_427 := Aside0.mk ((by rw [hg]; exact Nat.ne_of_gt (blk_lt (g := gb427) (o := .cells #[.int .i64 5, .int .i64 2, .int .i64 3] 23 (0, 0)) (bt_ BK427)) : gb505 ≠ gb427)); have NB467_505 := Aside0.mk ((by rw [hg]; exact Nat.ne_of_lt (blk_lt (g := gb467) (o := .cells #[.int .i64 t460, .int .i64 t461, .int .i64 t462, .int .i64 t463, .int .i64 t464, .int .u64 t465] 26 (0, 0)) (bt_ BK467)) : gb467 ≠ gb505)); have NB505_467 := Aside0.mk ((by rw [hg]; exact Nat.ne_of_gt (blk_lt (g := gb467) (o := .cells #[.int .i64 t460, .int .i64 t461, .int .i64 t462, .int .i64 t463, .int .i64 t464, .int .u64 t465] 26 (0, 0)) (bt_ BK467)) : gb505 ≠ gb467)); have NB481_505 := Aside0.mk ((by rw [hg]; exact Nat.ne_of_lt (blk_lt (g := gb481) (o := .cells #[.int .i64 t474, .int .i64 t475, .int .i64 t476, .int .i64 t477, .int .i64 t478, .int .u64 t479] 26 (0, 0)) (bt_ BK481)) : gb481 ≠ gb505)); have NB505_481 := Aside0.mk ((by rw [hg]; exact Nat.ne_of_gt (blk_lt (g := gb481) (o := .cells #[.int .i64 t474, .int .i64 t475, .int .i64 t476, .int .i64 t477, .int .i64 t478, .int .u64 t479] 26 (0, 0)) (bt_ BK481)) : gb505 ≠ gb481)); have NB503_505 := Aside0.mk ((by rw [hg]; exact Nat.ne_of_lt (blk_lt (g := gb503) (o := .cells #[.int .i64 t496, .int .i64 t497, .int .i64 t498, .int .i64 t499, .int .i64 t500, .int .u64 t501] 26 (0, 0)) (bt_ BK503)) : gb503 ≠ gb505)); have NB505_503 := Aside0.mk ((by rw [hg]; exact Nat.ne_of_gt (blk_lt (g := gb503) (o := .cells #[.int .i64 t496, .int .i64 t497, .int .i64 t498, .int .i64 t499, .int .i64 t500, .int .u64 t501] 26 (0, 0)) (bt_ BK503)) : gb505 ≠ gb503)); have NB504_505 := Aside0.mk ((by rw [hg]; exact Nat.ne_of_lt (blk_lt (g := gb504) (o := .cells #[.int .i64 1000000000, .int .i64 0, .int .i64 1000000000, .int .i64 0, .int .i64 0, .int .u64 0] 26 (0, 0)) (bp6_ (bq_ BK504))) : gb504 ≠ gb505)); have NB505_504 := Aside0.mk ((by rw [hg]; exact Nat.ne_of_gt (blk_lt (g := gb504) (o := .cells #[.int .i64 1000000000, .int .i64 0, .int .i64 1000000000, .int .i64 0, .int .i64 0, .int .u64 0] 26 (0, 0)) (bp6_ (bq_ BK504))) : gb505 ≠ gb504)); replace HO_8 := Aside0.mk (Kd.R_below (Kd.R_elderB (by (with_reducible repeat (first | apply Kd.R_alloc | apply Kd.R_drewN | apply Kd.R_drew)); exact (Kd.R_mono (Kd.R_far (p := ⟨gb504, 5, none⟩) (Kd.R_far (p := ⟨gb504, 4, none⟩) (Kd.R_far (p := ⟨gb504, 3, none⟩) (Kd.R_far (p := ⟨gb504, 2, none⟩) (Kd.R_far (p := ⟨gb504, 1, none⟩) (Kd.R_far (p := ⟨gb504, 0, none⟩) (Kd.R_mono HO_8.out (fun k_ hk => (⟨hk, hk.2⟩ : _ ∧ k_ ≠ gb504))) (fun _ hk => hk.2) (.int .i64 1000000000)) (fun _ hk => hk.2) (.int .i64 0)) (fun _ hk => hk.2) (.int .i64 1000000000)) (fun _ hk => hk.2) (.int .i64 0)) (fun _ hk => hk.2) (.int .i64 0)) (fun _ hk => hk.2) (.int .u64 0)) (fun _ h_ => h_.1))) gb505 (Nat.le_of_eq hg.symm)) hb); replace BK427 := bf_ BK427 hb; replace BK467 := bf_ BK467 hb; replace BK481 := bf_ BK481 hb; replace BK503 := bf_ BK503 hb; replace BK504 := Aside0.mk (blk_below (g := gb504) (o := .cells #[.int .i64 1000000000, .int .i64 0, .int .i64 1000000000, .int .i64 0, .int .i64 0, .int .u64 0] 26 (0, 0)) (bp6_ (bq_ BK504)) hb); replace HB := bs_ w hb; clear hb hg; replace hn505_427 := NB505_427.out; replace hn427_505 := NB427_505.out; replace hn505_467 := NB505_467.out; replace hn467_505 := NB467_505.out; replace hn505_481 := NB505_481.out; replace hn481_505 := NB481_505.out; replace hn505_503 := NB505_503.out; replace hn503_505 := NB503_505.out; replace hn505_504 := NB505_504.out; replace hn504_505 := NB504_505.out; replace hc505 := ce6_ BK505) | ((with_reducible refine gate_dst (N := 26) rfl ?_); (try refine ug_ (by rfl) ?_); refine bx_ #[.int .i64 0, .int .i64 0, .int .i64 0, .int .i64 0, .int .i64 0, .int .u64 0] 26 ?_; intro gb506 hg w137 BK506 hb; have GW506 := bz_ w hg; have NB427_506 := Aside0.mk ((by rw [hg]; exact Nat.ne_of_lt (blk_lt (g := gb427) (o := .cells #[.int .i64 5, .int .i64 2, .int .i64 3] 23 (0, 0)) (bt_ BK427)) : gb427 ≠ gb506)); have NB506_427 := Aside0.mk ((by rw [hg]; exact Nat.ne_of_gt (blk_lt (g := gb427) (o := .cells #[.int .i64 5, .int .i64 2, .int .i64 3] 23 (0, 0)) (bt_ BK427)) : gb506 ≠ gb427)); have NB467_506 := Aside0.mk ((by rw [hg]; exact Nat.ne_of_lt (blk_lt (g := gb467) (o := .cells #[.int .i64 t460, .int .i64 t461, .int .i64 t462, .int .i64 t463, .int .i64 t464, .int .u64 t465] 26 (0, 0)) (bt_ BK467)) : gb467 ≠ gb506)); have NB506_467 := Aside0.mk ((by rw [hg]; exact Nat.ne_of_gt (blk_lt (g := gb467) (o := .cells #[.int .i64 t460, .int .i64 t461, .int .i64 t462, .int .i64 t463, .int .i64 t464, .int .u64 t465] 26 (0, 0)) (bt_ BK467)) : gb506 ≠ gb467)); have NB481_506 := Aside0.mk ((by rw [hg]; exact Nat.ne_of_lt (blk_lt (g := gb481) (o := .cells #[.int .i64 t474, .int .i64 t475, .int .i64 t476, .int .i64 t477, .int .i64 t478, .int .u64 t479] 26 (0, 0)) (bt_ BK481)) : gb481 ≠ gb506)); have NB506_481 := Aside0.mk ((by rw [hg]; exact Nat.ne_of_gt (blk_lt (g := gb481) (o := .cells #[.int .i64 t474, .int .i64 t475, .int .i64 t476, .int .i64 t477, .int .i64 t478, .int .u64 t479] 26 (0, 0)) (bt_ BK481)) : gb506 ≠ gb481)); have NB503_506 := Aside0.mk ((by rw [hg]; exact Nat.ne_of_lt (blk_lt (g := gb503) (o := .cells #[.int .i64 t496, .int .i64 t497, .int .i64 t498, .int .i64 t499, .int .i64 t500, .int .u64 t501] 26 (0, 0)) (bt_ BK503)) : gb503 ≠ gb506)); have NB506_503 := Aside0.mk ((by rw [hg]; exact Nat.ne_of_gt (blk_lt (g := gb503) (o := .cells #[.int .i64 t496, .int .i64 t497, .int .i64 t498, .int .i64 t499, .int .i64 t500, .int .u64 t501] 26 (0, 0)) (bt_ BK503)) : gb506 ≠ gb503)); have NB504_506 := Aside0.mk ((by rw [hg]; exact Nat.ne_of_lt (blk_lt (g := gb504) (o := .cells #[.int .i64 1000000000, .int .i64 0, .int .i64 1000000000, .int .i64 0, .int .i64 0, .int .u64 0] 26 (0, 0)) (bt_ BK504)) : gb504 ≠ gb506)); have NB506_504 := Aside0.mk ((by rw [hg]; exact Nat.ne_of_gt (blk_lt (g := gb504) (o := .cells #[.int .i64 1000000000, .int .i64 0, .int .i64 1000000000, .int .i64 0, .int .i64 0, .int .u64 0] 26 (0, 0)) (bt_ BK504)) : gb506 ≠ gb504)); have NB505_506 := Aside0.mk ((by rw [hg]; exact Nat.ne_of_lt (blk_lt (g := gb505) (o := .cells #[.int .i64 1000000000, .int .i64 1, .int .i64 1000000000, .int .i64 0, .int .i64 0, .int .u64 0] 26 (0, 0)) (bp6_ (bq_ BK505))) : gb505 ≠ gb506)); have NB506_505 := Aside0.mk ((by rw [hg]; exact Nat.ne_of_gt (blk_lt (g := gb505) (o := .cells #[.int .i64 1000000000, .int .i64 1, .int .i64 1000000000, .int .i64 0, .int .i64 0, .int .u64 0] 26 (0, 0)) (bp6_ (bq_ BK505))) : gb506 ≠ gb505)); replace HO_8 := Aside0.mk (Kd.R_below (Kd.R_elderB (by (with_reducible repeat (first | apply Kd.R_alloc | apply Kd.R_drewN | apply Kd.R_drew)); exact (Kd.R_mono (Kd.R_far (p := ⟨gb505, 5, none⟩) (Kd.R_far (p := ⟨gb505, 4, none⟩) (Kd.R_far (p := ⟨gb505, 3, none⟩) (Kd.R_far (p := ⟨gb505, 2, none⟩) (Kd.R_far (p := ⟨gb505, 1, none⟩) (Kd.R_far (p := ⟨gb505, 0, none⟩) (Kd.R_mono HO_8.out (fun k_ hk => (⟨hk, hk.2⟩ : _ ∧ k_ ≠ gb505))) (fun _ hk => hk.2) (.int .i64 1000000000)) (fun _ hk => hk.2) (.int .i64 1)) (fun _ hk => hk.2) (.int .i64 1000000000)) (fun _ hk => hk.2) (.int .i64 0)) (fun _ hk => hk.2) (.int .i64 0)) (fun _ hk => hk.2) (.int .u64 0)) (fun _ h_ => h_.1))) gb506 (Nat.le_of_eq hg.symm)) hb); replace BK427 := bf_ BK427 hb; replace BK467 := bf_ BK467 hb; replace BK481 := bf_ BK481 hb; replace BK503 := bf_ BK503 hb; replace BK504 := bf_ BK504 hb; replace BK505 := Aside0.mk (blk_below (g := gb505) (o := .cells #[.int .i64 1000000000, .int .i64 1, .int .i64 1000000000, .int .i64 0, .int .i64 0, .int .u64 0] 26 (0, 0)) (bp6_ (bq_ BK505)) hb); replace HB := bs_ w hb; clear hb hg; replace hn506_427 := NB506_427.out; replace hn427_506 := NB427_506.out; replace hn506_467 := NB506_467.out; replace hn467_506 := NB467_506.out; replace hn506_481 := NB506_481.out; replace hn481_506 := NB481_506.out; replace hn506_503 := NB506_503.out; replace hn503_506 := NB503_506.out; replace hn506_504 := NB506_504.out; replace hn504_506 := NB504_506.out; replace hn506_505 := NB506_505.out; replace hn505_506 := NB505_506.out; replace hc506 := ce6_ BK506) | ((with_reducible refine gate_dst (N := 27) rfl ?_); (try refine ug_ (by rfl) ?_); refine bx_ #[.int .i64 0, .int .i64 0, .int .i64 0, .int .i64 0, .int .i64 0, .int .u64 0] 26 ?_; intro gb507 hg w145 BK507 hb; have GW507 := bz_ w hg; have NB427_507 := Aside0.mk ((by rw [hg]; exact Nat.ne_of_lt (blk_lt (g := gb427) (o := .cells #[.int .i64 5, .int .i64 2, .int .i64 3] 23 (0, 0)) (bt_ BK427)) : gb427 ≠ gb507)); have NB507_427 := Aside0.mk ((by rw [hg]; exact Nat.ne_of_gt (blk_lt (g := gb427) (o := .cells #[.int .i64 5, .int .i64 2, .int .i64 3] 23 (0, 0)) (bt_ BK427)) : gb507 ≠ gb427)); have NB467_507 := Aside0.mk ((by rw [hg]; exact Nat.ne_of_lt (blk_lt (g := gb467) (o := .cells #[.int .i64 t460, .int .i64 t461, .int .i64 t462, .int .i64 t463, .int .i64 t464, .int .u64 t465] 26 (0, 0)) (bt_ BK467)) : gb467 ≠ gb507)); have NB507_467 := Aside0.mk ((by rw [hg]; exact Nat.ne_of_gt (blk_lt (g := gb467) (o := .cells #[.int .i64 t460, .int .i64 t461, .int .i64 t462, .int .i64 t463, .int .i64 t464, .int .u64 t465] 26 (0, 0)) (bt_ BK467)) : gb507 ≠ gb467)); have NB481_507 := Aside0.mk ((by rw [hg]; exact Nat.ne_of_lt (blk_lt (g := gb481) (o := .cells #[.int .i64 t474, .int .i64 t475, .int .i64 t476, .int .i64 t477, .int .i64 t478, .int .u64 t479] 26 (0, 0)) (bt_ BK481)) : gb481 ≠ gb507)); have NB507_481 := Aside0.mk ((by rw [hg]; exact Nat.ne_of_gt (blk_lt (g := gb481) (o := .cells #[.int .i64 t474, .int .i64 t475, .int .i64 t476, .int .i64 t477, .int .i64 t478, .int .u64 t479] 26 (0, 0)) (bt_ BK481)) : gb507 ≠ gb481)); have NB503_507 := Aside0.mk ((by rw [hg]; exact Nat.ne_of_lt (blk_lt (g := gb503) (o := .cells #[.int .i64 t496, .int .i64 t497, .int .i64 t498, .int .i64 t499, .int .i64 t500, .int .u64 t501] 26 (0, 0)) (bt_ BK503)) : gb503 ≠ gb507)); have NB507_503 := Aside0.mk ((by rw [hg]; exact Nat.ne_of_gt (blk_lt (g := gb503) (o := .cells #[.int .i64 t496, .int .i64 t497, .int .i64 t498, .int .i64 t499, .int .i64 t500, .int .u64 t501] 26 (0, 0)) (bt_ BK503)) : gb507 ≠ gb503)); have NB504_507 := Aside0.mk ((by rw [hg]; exact Nat.ne_of_lt (blk_lt (g := gb504) (o := .cells #[.int .i64 1000000000, .int .i64 0, .int .i64 1000000000, .int .i64 0, .int .i64 0, .int .u64 0] 26 (0, 0)) (bt_ BK504)) : gb504 ≠ gb507)); have NB507_504 := Aside0.mk ((by rw [hg]; exact Nat.ne_of_gt (blk_lt (g := gb504) (o := .cells #[.int .i64 1000000000, .int .i64 0, .int .i64 1000000000, .int .i64 0, .int .i64 0, .int .u64 0] 26 (0, 0)) (bt_ BK504)) : gb507 ≠ gb504)); have NB505_507 := Aside0.mk ((by rw [hg]; exact Nat.ne_of_lt (blk_lt (g := gb505) (o := .cells #[.int .i64 1000000000, .int .i64 1, .int .i64 1000000000, .int .i64 0, .int .i64 0, .int .u64 0] 26 (0, 0)) (bt_ BK505)) : gb505 ≠ gb507)); have NB507_505 := Aside0.mk ((by rw [hg]; exact Nat.ne_of_gt (blk_lt (g := gb505) (o := .cells #[.int .i64 1000000000, .int .i64 1, .int .i64 1000000000, .int .i64 0, .int .i64 0, .int .u64 0] 26 (0, 0)) (bt_ BK505)) : gb507 ≠ gb505)); have NB506_507 := Aside0.mk ((by rw [hg]; exact Nat.ne_of_lt (blk_lt (g := gb506) (o := .cells #[.int .i64 1000000000, .int .i64 1000000000, .int .i64 1, .int .i64 0, .int .i64 0, .int .u64 0] 26 (0, 0)) (bp6_ (bq_ BK506))) : gb506 ≠ gb507)); have NB507_506 := Aside0.mk ((by rw [hg]; exact Nat.ne_of_gt (blk_lt (g := gb506) (o := .cells #[.int .i64 1000000000, .int .i64 1000000000, .int .i64 1, .int .i64 0, .int .i64 0, .int .u64 0] 26 (0, 0)) (bp6_ (bq_ BK506))) : gb507 ≠ gb506)); replace HO_8 := Aside0.mk (Kd.R_below (Kd.R_elderB (by (with_reducible repeat (first | apply Kd.R_alloc | apply Kd.R_drewN | apply Kd.R_drew)); exact (Kd.R_mono (Kd.R_far (p := ⟨gb506, 5, none⟩) (Kd.R_far (p := ⟨gb506, 4, none⟩) (Kd.R_far (p := ⟨gb506, 3, none⟩) (Kd.R_far (p := ⟨gb506, 2, none⟩) (Kd.R_far (p := ⟨gb506, 1, none⟩) (Kd.R_far (p := ⟨gb506, 0, none⟩) (Kd.R_mono HO_8.out (fun k_ hk => (⟨hk, hk.2⟩ : _ ∧ k_ ≠ gb506))) (fun _ hk => hk.2) (.int .i64 1000000000)) (fun _ hk => hk.2) (.int .i64 1000000000)) (fun _ hk => hk.2) (.int .i64 1)) (fun _ hk => hk.2) (.int .i64 0)) (fun _ hk => hk.2) (.int .i64 0)) (fun _ hk => hk.2) (.int .u64 0)) (fun _ h_ => h_.1))) gb507 (Nat.le_of_eq hg.symm)) hb); replace BK427 := bf_ BK427 hb; replace BK467 := bf_ BK467 hb; replace BK481 := bf_ BK481 hb; replace BK503 := bf_ BK503 hb; replace BK504 := bf_ BK504 hb; replace BK505 := bf_ BK505 hb; replace BK506 := Aside0.mk (blk_below (g := gb506) (o := .cells #[.int .i64 1000000000, .int .i64 1000000000, .int .i64 1, .int .i64 0, .int .i64 0, .int .u64 0] 26 (0, 0)) (bp6_ (bq_ BK506)) hb); replace HB := bs_ w hb; clear hb hg; replace hn507_427 := NB507_427.out; replace hn427_507 := NB427_507.out; replace hn507_467 := NB507_467.out; replace hn467_507 := NB467_507.out; replace hn507_481 := NB507_481.out; replace hn481_507 := NB481_507.out; replace hn507_503 := NB507_503.out; replace hn503_507 := NB503_507.out; replace hn507_504 := NB507_504.out; replace hn504_507 := NB504_507.out; replace hn507_505 := NB507_505.out; replace hn505_507 := NB505_507.out; replace hn507_506 := NB507_506.out; replace hn506_507 := NB506_507.out; replace hc507 := ce6_ BK507; replace hc427 := ce3_ BK427) | ((with_reducible refine gate_callee (f := 12) rfl ?_); (try refine ug_ (by rfl) ?_); refine goesA_ (some 178) Try.func12 #[.agg #[.int .i64 5, .int .i64 2, .int .i64 3, .int .i64 0, .int .i64 0, .int .u64 7], .int .u64 6] ?_; (with_reducible refine (bucket_Refill.calls k2 5 2 3 0 0 7 6 t508 t509 t510 t511 t512 t513 t514 _ A67.out).mono ?_); rintro e w155 ⟨rfl, hb⟩; refine ⟨_, rfl, ?_⟩; replace HO_8 := Aside0.mk (Kd.R_below (by (with_reducible repeat (first | apply Kd.R_alloc | apply Kd.R_drewN | apply Kd.R_drew)); exact (Kd.R_mono (Kd.R_far (p := ⟨gb507, 5, none⟩) (Kd.R_far (p := ⟨gb507, 4, none⟩) (Kd.R_far (p := ⟨gb507, 3, none⟩) (Kd.R_far (p := ⟨gb507, 2, none⟩) (Kd.R_far (p := ⟨gb507, 1, none⟩) (Kd.R_far (p := ⟨gb507, 0, none⟩) (Kd.R_mono HO_8.out (fun k_ hk => (⟨hk, hk.2⟩ : _ ∧ k_ ≠ gb507))) (fun _ hk => hk.2) (.int .i64 3)) (fun _ hk => hk.2) (.int .i64 1)) (fun _ hk => hk.2) (.int .i64 2)) (fun _ hk => hk.2) (.int .i64 0)) (fun _ hk => hk.2) (.int .i64 0)) (fun _ hk => hk.2) (.int .u64 18446744073709551612)) (fun _ h_ => h_.1))) hb); replace BK427 := bf_ BK427 hb; replace BK467 := bf_ BK467 hb; replace BK481 := bf_ BK481 hb; replace BK503 := bf_ BK503 hb; replace BK504 := bf_ BK504 hb; replace BK505 := bf_ BK505 hb; replace BK506 := bf_ BK506 hb; replace BK507 := Aside0.mk (blk_below (g := gb507) (o := .cells #[.int .i64 3, .int .i64 1, .int .i64 2, .int .i64 0, .int .i64 0, .int .u64 18446744073709551612] 26 (0, 0)) (bp6_ (bq_ BK507)) hb); replace HB := bs_ w hb; clear hb) | ((with_reducible refine gate_dst (N := 28) rfl ?_); (try refine ug_ (by rfl) ?_); refine bx_ #[.int .i64 0, .int .i64 0, .int .i64 0, .int .i64 0, .int .i64 0, .int .u64 0] 26 ?_; intro gb515 hg w156 BK515 hb; have GW515 := bz_ w hg; have NB427_515 := bn_ BK427 hg; have NB515_427 := bm_ BK427 hg; have NB467_515 := bn_ BK467 hg; have NB515_467 := bm_ BK467 hg; have NB481_515 := bn_ BK481 hg; have NB515_481 := bm_ BK481 hg; have NB503_515 := bn_ BK503 hg; have NB515_503 := bm_ BK503 hg; have NB504_515 := bn_ BK504 hg; have NB515_504 := bm_ BK504 hg; have NB505_515 := bn_ BK505 hg; have NB515_505 := bm_ BK505 hg; have NB506_515 := bn_ BK506 hg; have NB515_506 := bm_ BK506 hg; have NB507_515 := bn_ BK507 hg; have NB515_507 := bm_ BK507 hg; replace HO_8 := Aside0.mk (Kd.R_below (Kd.R_elderB (rs_ HO_8) gb515 (Nat.le_of_eq hg.symm)) hb); replace BK427 := bb_ BK427 hb; replace BK467 := bb_ BK467 hb; replace BK481 := bb_ BK481 hb; replace BK503 := bb_ BK503 hb; replace BK504 := bb_ BK504 hb; replace BK505 := bb_ BK505 hb; replace BK506 := bb_ BK506 hb; replace BK507 := bb_ BK507 hb; replace HB := bs_ w hb; clear hb hg; replace hn515_427 := NB515_427.out; replace hn427_515 := NB427_515.out; replace hn515_467 := NB515_467.out; replace hn467_515 := NB467_515.out; replace hn515_481 := NB515_481.out; replace hn481_515 := NB481_515.out; replace hn515_503 := NB515_503.out; replace hn503_515 := NB503_515.out; replace hn515_504 := NB515_504.out; replace hn504_515 := NB504_515.out; replace hn515_505 := NB515_505.out; replace hn505_515 := NB505_515.out; replace hn515_506 := NB515_506.out; replace hn506_515 := NB506_515.out; replace hn515_507 := NB515_507.out; replace hn507_515 := NB507_515.out; replace hc515 := ce6_ BK515; replace hc504 := ce6_ BK504) | ((with_reducible refine gate_callee (f := 25) rfl ?_); (try refine ug_ (by rfl) ?_); refine goesA_ (some 182) Try.func25 #[.agg #[.int .i64 1000000000, .int .i64 0, .int .i64 1000000000, .int .i64 0, .int .i64 0, .int .u64 0], .int .u64 18446744073709551615, .int .i64 0, .int .i64 0] ?_; (with_reducible refine (spigotlaw03_holds.calls k2 1000000000 0 1000000000 0 0 0 18446744073709551615 0 0 true _ A68.out).mono ?_); rintro e w167 ⟨rfl, hb⟩; refine ⟨_, rfl, ?_⟩; replace HO_8 := Aside0.mk (Kd.R_below (by (with_reducible repeat (first | apply Kd.R_alloc | apply Kd.R_drewN | apply Kd.R_drew)); exact (Kd.R_mono (Kd.R_far (p := ⟨gb515, 5, none⟩) (Kd.R_far (p := ⟨gb515, 4, none⟩) (Kd.R_far (p := ⟨gb515, 3, none⟩) (Kd.R_far (p := ⟨gb515, 2, none⟩) (Kd.R_far (p := ⟨gb515, 1, none⟩) (Kd.R_far (p := ⟨gb515, 0, none⟩) (Kd.R_mono HO_8.out (fun k_ hk => (⟨hk, hk.2⟩ : _ ∧ k_ ≠ gb515))) (fun _ hk => hk.2) (.int .i64 t508)) (fun _ hk => hk.2) (.int .i64 t509)) (fun _ hk => hk.2) (.int .i64 t510)) (fun _ hk => hk.2) (.int .i64 t511)) (fun _ hk => hk.2) (.int .i64 t512)) (fun _ hk => hk.2) (.int .u64 t513)) (fun _ h_ => h_.1))) hb); replace BK427 := bf_ BK427 hb; replace BK467 := bf_ BK467 hb; replace BK481 := bf_ BK481 hb; replace BK503 := bf_ BK503 hb; replace BK504 := bf_ BK504 hb; replace BK505 := bf_ BK505 hb; replace BK506 := bf_ BK506 hb; replace BK507 := bf_ BK507 hb; replace BK515 := Aside0.mk (blk_below (g := gb515) (o := .cells #[.int .i64 t508, .int .i64 t509, .int .i64 t510, .int .i64 t511, .int .i64 t512, .int .u64 t513] 26 (0, 0)) (bp6_ (bq_ BK515)) hb); replace HB := bs_ w hb; clear hb; replace hc505 := ce6_ BK505) | (go_at_call 25; (with_reducible refine (spigotlaw03_holds.calls k2 1000000000 1 1000000000 0 0 0 18446744073709551615 1000000000 0 true _ A70.out).mono ?_); rintro e w169 ⟨rfl, hb⟩; replace HO_8 := rb_ HO_8 hb; replace BK427 := bb_ BK427 hb; replace BK467 := bb_ BK467 hb; replace BK481 := bb_ BK481 hb; replace BK503 := bb_ BK503 hb; replace BK504 := bb_ BK504 hb; replace BK505 := bb_ BK505 hb; replace BK506 := bb_ BK506 hb; replace BK507 := bb_ BK507 hb; replace BK515 := bb_ BK515 hb; replace HB := bs_ w hb; clear hb; replace hc505 := ce6_ BK505) | (go_at_call 25; (with_reducible refine (spigotlaw03_holds.calls k2 1000000000 1 1000000000 0 0 0 999999999 0 999999999 true _ A72.out).mono ?_); rintro e w171 ⟨rfl, hb⟩; replace HO_8 := rb_ HO_8 hb; replace BK427 := bb_ BK427 hb; replace BK467 := bb_ BK467 hb; replace BK481 := bb_ BK481 hb; replace BK503 := bb_ BK503 hb; replace BK504 := bb_ BK504 hb; replace BK505 := bb_ BK505 hb; replace BK506 := bb_ BK506 hb; replace BK507 := bb_ BK507 hb; replace BK515 := bb_ BK515 hb; replace HB := bs_ w hb; clear hb; replace hc506 := ce6_ BK506) | (go_at_call 25; (with_reducible refine (spigotlaw03_holds.calls k2 1000000000 1000000000 1 0 0 0 1 1000000000 0 true _ A74.out).mono ?_); rintro e w173 ⟨rfl, hb⟩; replace HO_8 := rb_ HO_8 hb; replace BK427 := bb_ BK427 hb; replace BK467 := bb_ BK467 hb; replace BK481 := bb_ BK481 hb; replace BK503 := bb_ BK503 hb; replace BK504 := bb_ BK504 hb; replace BK505 := bb_ BK505 hb; replace BK506 := bb_ BK506 hb; replace BK507 := bb_ BK507 hb; replace BK515 := bb_ BK515 hb; replace HB := bs_ w hb; clear hb; replace hc506 := ce6_ BK506) | (go_at_call 25; (with_reducible refine (spigotlaw03_holds.calls k2 1000000000 1000000000 1 0 0 0 18446744073709551615 1000000000 0 true _ A76.out).mono ?_); rintro e w175 ⟨rfl, hb⟩; replace HO_8 := rb_ HO_8 hb; replace BK427 := bb_ BK427 hb; replace BK467 := bb_ BK467 hb; replace BK481 := bb_ BK481 hb; replace BK503 := bb_ BK503 hb; replace BK504 := bb_ BK504 hb; replace BK505 := bb_ BK505 hb; replace BK506 := bb_ BK506 hb; replace BK507 := bb_ BK507 hb; replace BK515 := bb_ BK515 hb; replace HB := bs_ w hb; clear hb; replace hc507 := ce6_ BK507) | (go_at_call 25; (with_reducible refine (spigotlaw03_holds.calls k2 3 1 2 0 0 18446744073709551612 18446744073709551615 1 1 true _ A78.out).mono ?_); rintro e w177 ⟨rfl, hb⟩; replace HO_8 := rb_ HO_8 hb; replace BK427 := bb_ BK427 hb; replace BK467 := bb_ BK467 hb; replace BK481 := bb_ BK481 hb; replace BK503 := bb_ BK503 hb; replace BK504 := bb_ BK504 hb; replace BK505 := bb_ BK505 hb; replace BK506 := bb_ BK506 hb; replace BK507 := bb_ BK507 hb; replace BK515 := bb_ BK515 hb; replace HB := bs_ w hb; clear hb; replace hc504 := ce6_ BK504) | ((with_reducible refine gate_callee (f := 26) rfl ?_); (try refine ug_ (by rfl) ?_); refine goesA_ (some 204) Try.func26 #[.agg #[.int .i64 1000000000, .int .i64 0, .int .i64 1000000000, .int .i64 0, .int .i64 0, .int .u64 0], .int .i64 1, .int .u64 18446744073709551615] ?_; (with_reducible refine (spigotlaw03_waits.calls k2 1000000000 0 1000000000 0 0 0 1 18446744073709551615 true _ A79.out).mono ?_); rintro e w179 ⟨rfl, hb⟩; refine ⟨_, rfl, ?_⟩; replace HO_8 := rb_ HO_8 hb; replace BK427 := bb_ BK427 hb; replace BK467 := bb_ BK467 hb; replace BK481 := bb_ BK481 hb; replace BK503 := bb_ BK503 hb; replace BK504 := bb_ BK504 hb; replace BK505 := bb_ BK505 hb; replace BK506 := bb_ BK506 hb; replace BK507 := bb_ BK507 hb; replace BK515 := bb_ BK515 hb; replace HB := bs_ w hb; clear hb; replace hc504 := ce6_ BK504) | (go_at_call 26; (with_reducible refine (spigotlaw03_waits.calls k2 1000000000 0 1000000000 0 0 0 0 0 true _ A81.out).mono ?_); rintro e w181 ⟨rfl, hb⟩; replace HO_8 := rb_ HO_8 hb; replace BK427 := bb_ BK427 hb; replace BK467 := bb_ BK467 hb; replace BK481 := bb_ BK481 hb; replace BK503 := bb_ BK503 hb; replace BK504 := bb_ BK504 hb; replace BK505 := bb_ BK505 hb; replace BK506 := bb_ BK506 hb; replace BK507 := bb_ BK507 hb; replace BK515 := bb_ BK515 hb; replace HB := bs_ w hb; clear hb; replace hc505 := ce6_ BK505) | (go_at_call 26; (with_reducible refine (spigotlaw03_waits.calls k2 1000000000 1 1000000000 0 0 0 1000000000 1000000000000000000 true _ A83.out).mono ?_); rintro e w183 ⟨rfl, hb⟩; replace HO_8 := rb_ HO_8 hb; replace BK427 := bb_ BK427 hb; replace BK467 := bb_ BK467 hb; replace BK481 := bb_ BK481 hb; replace BK503 := bb_ BK503 hb; replace BK504 := bb_ BK504 hb; replace BK505 := bb_ BK505 hb; replace BK506 := bb_ BK506 hb; replace BK507 := bb_ BK507 hb; replace BK515 := bb_ BK515 hb; replace HB := bs_ w hb; clear hb; replace hc506 := ce6_ BK506) | (go_at_call 26; (with_reducible refine (spigotlaw03_waits.calls k2 1000000000 1000000000 1 0 0 0 1000000000 1 true _ A85.out).mono ?_); rintro e w185 ⟨rfl, hb⟩; replace HO_8 := rb_ HO_8 hb; replace BK427 := bb_ BK427 hb; replace BK467 := bb_ BK467 hb; replace BK481 := bb_ BK481 hb; replace BK503 := bb_ BK503 hb; replace BK504 := bb_ BK504 hb; replace BK505 := bb_ BK505 hb; replace BK506 := bb_ BK506 hb; replace BK507 := bb_ BK507 hb; replace BK515 := bb_ BK515 hb; replace HB := bs_ w hb; clear hb; replace hc507 := ce6_ BK507) | (go_at_call 26; (with_reducible refine (spigotlaw03_waits.calls k2 3 1 2 0 0 18446744073709551612 1 2 true _ A87.out).mono ?_); rintro e w187 ⟨rfl, hb⟩; replace HO_8 := rb_ HO_8 hb; replace BK427 := bb_ BK427 hb; replace BK467 := bb_ BK467 hb; replace BK481 := bb_ BK481 hb; replace BK503 := bb_ BK503 hb; replace BK504 := bb_ BK504 hb; replace BK505 := bb_ BK505 hb; replace BK506 := bb_ BK506 hb; replace BK507 := bb_ BK507 hb; replace BK515 := bb_ BK515 hb; replace HB := bs_ w hb; clear hb; replace hc507 := ce6_ BK507) | (go_at_call 26; (with_reducible refine (spigotlaw03_waits.calls k2 3 1 2 0 0 18446744073709551612 2 18446744073709551615 true _ A89.out).mono ?_); rintro e w189 ⟨rfl, hb⟩; replace HO_8 := rb_ HO_8 hb; replace BK427 := bb_ BK427 hb; replace BK467 := bb_ BK467 hb; replace BK481 := bb_ BK481 hb; replace BK503 := bb_ BK503 hb; replace BK504 := bb_ BK504 hb; replace BK505 := bb_ BK505 hb; replace BK506 := bb_ BK506 hb; replace BK507 := bb_ BK507 hb; replace BK515 := bb_ BK515 hb; replace HB := bs_ w hb; clear hb; replace hc507 := ce6_ BK507) | (go_at_call 26; (with_reducible refine (spigotlaw03_waits.calls k2 3 1 2 0 0 18446744073709551612 9223372036854775807 18446744073709551615 true _ A91.out).mono ?_); rintro e w191 ⟨rfl, hb⟩; replace HO_8 := rb_ HO_8 hb; replace BK427 := bb_ BK427 hb; replace BK467 := bb_ BK467 hb; replace BK481 := bb_ BK481 hb; replace BK503 := bb_ BK503 hb; replace BK504 := bb_ BK504 hb; replace BK505 := bb_ BK505 hb; replace BK506 := bb_ BK506 hb; replace BK507 := bb_ BK507 hb; replace BK515 := bb_ BK515 hb; replace HB := bs_ w hb; clear hb))
                    replace HO_8 := Aside0.mk (Kd.R_drew HO_8.out)
                    replace BK427 := Aside0.mk (blk_drew BK427.out)
                    replace BK467 := Aside0.mk (blk_drew BK467.out)
                    replace BK481 := Aside0.mk (blk_drew BK481.out)
                    replace BK503 := Aside0.mk (blk_drew BK503.out)
                    replace BK504 := Aside0.mk (blk_drew BK504.out)
                    replace BK505 := Aside0.mk (blk_drew BK505.out)
                    replace BK506 := Aside0.mk (blk_drew BK506.out)
                    replace BK507 := Aside0.mk (blk_drew BK507.out)
                    replace BK515 := Aside0.mk (blk_drew BK515.out)
                    replace HB := Aside0.mk (below_drew1 HB.out)
                    refine start_ (n := 41) (S := fun w' => w'.cell? ⟨gb503, 0, none⟩ = some (.int .i64 t496) ∧ w'.cell? ⟨gb503, 1, none⟩ = some (.int .i64 t497) ∧ w'.cell? ⟨gb503, 2, none⟩ = some (.int .i64 t498) ∧ w'.cell? ⟨gb503, 3, none⟩ = some (.int .i64 t499) ∧ w'.cell? ⟨gb503, 4, none⟩ = some (.int .i64 t500) ∧ w'.cell? ⟨gb503, 5, none⟩ = some (.int .u64 t501) ∧ w'.cell? ⟨gb515, 0, none⟩ = some (.int .i64 t508) ∧ w'.cell? ⟨gb515, 1, none⟩ = some (.int .i64 t509) ∧ w'.cell? ⟨gb515, 2, none⟩ = some (.int .i64 t510) ∧ w'.cell? ⟨gb515, 3, none⟩ = some (.int .i64 t511) ∧ w'.cell? ⟨gb515, 4, none⟩ = some (.int .i64 t512) ∧ w'.cell? ⟨gb515, 5, none⟩ = some (.int .u64 t513) ∧ w'.cell? ⟨gb427, 0, none⟩ = some (.int .i64 5) ∧ w'.cell? ⟨gb427, 1, none⟩ = some (.int .i64 2) ∧ w'.cell? ⟨gb427, 2, none⟩ = some (.int .i64 3)) (ds := []) (bl_ 41 0) (by kernel_rfl) rfl (by kernel_rfl) ⟨(blk_cell BK503.out 0).trans rfl, (blk_cell BK503.out 1).trans rfl, (blk_cell BK503.out 2).trans rfl, (blk_cell BK503.out 3).trans rfl, (blk_cell BK503.out 4).trans rfl, (blk_cell BK503.out 5).trans rfl, (blk_cell BK515.out 0).trans rfl, (blk_cell BK515.out 1).trans rfl, (blk_cell BK515.out 2).trans rfl, (blk_cell BK515.out 3).trans rfl, (blk_cell BK515.out 4).trans rfl, (blk_cell BK515.out 5).trans rfl, (blk_cell BK427.out 0).trans rfl, (blk_cell BK427.out 1).trans rfl, (blk_cell BK427.out 2).trans rfl⟩ (fun hHeld => ?_); refine with_tabW spigotlaw03_BucketNames.tab30 spigotlaw03_BucketNames.bits30 (fun HT_ HW_ => ?_)
                    generalize w191.drew = w192 at HO_8 BK427 BK467 BK481 BK503 BK504 BK505 BK506 BK507 BK515 HB hHeld ⊢
                    refine pa_ 0 (some 229) (bl_ 41 1) HT_ ?_
                    refine pa_ 1 (some 230) (bl_ 41 3) HT_ ?_
                    refine pa_ 2 (some 231) (bl_ 41 7) HT_ ?_
                    refine pa_ 3 (some 232) (bl_ 41 15) HT_ ?_
                    refine pa_ 4 (some 233) (bl_ 41 31) HT_ ?_
                    refine pa_ 5 (some 234) (bl_ 41 63) HT_ ?_
                    refine pa_ 6 (some 235) (bl_ 41 127) HT_ ?_
                    refine pa_ 7 (some 236) (bl_ 41 255) HT_ ?_
                    refine pa_ 8 (some 237) (bl_ 41 511) HT_ ?_
                    refine pa_ 9 (some 238) (bl_ 41 1023) HT_ ?_
                    refine pa_ 10 (some 239) (bl_ 41 2047) HT_ ?_
                    refine pa_ 11 (some 240) (bl_ 41 4095) HT_ ?_
                    refine pa_ 12 (some 241) (bl_ 41 8191) HT_ ?_
                    refine pa_ 13 (some 242) (bl_ 41 16383) HT_ ?_
                    refine pa_ 14 (some 243) (bl_ 41 32767) HT_ ?_
                    refine pa_ 15 (some 244) (bl_ 41 65535) HT_ ?_
                    refine pa_ 16 (some 245) (bl_ 41 131071) HT_ ?_
                    refine ta_ 17 (some 246) (bl_ 41 262143) HT_ HW_ hHeld ?_
                    refine oa_ 18 (some 247) (bl_ 41 524287) HT_ fun K hK => ?_
                    refine goesB_ Try.func24 #[] ?_
                    with_reducible refine (spigotlaw03_given.calls  t529 t530 t531 t532 t533 t534 _ A96.out).mono ?_
                    rintro e w193 ⟨rfl, hb⟩
                    refine ⟨_, rfl, ?_⟩
                    replace HO_8 := rb_ HO_8 hb
                    replace BK427 := bb_ BK427 hb
                    replace BK467 := bb_ BK467 hb
                    replace BK481 := bb_ BK481 hb
                    replace BK503 := bb_ BK503 hb
                    replace BK504 := bb_ BK504 hb
                    replace BK505 := bb_ BK505 hb
                    replace BK506 := bb_ BK506 hb
                    replace BK507 := bb_ BK507 hb
                    replace BK515 := bb_ BK515 hb
                    replace HB := bs_ w hb
                    clear hb
                    refine hK.out _ _ ⟨(blk_cell BK503.out 0).trans rfl, (blk_cell BK503.out 1).trans rfl, (blk_cell BK503.out 2).trans rfl, (blk_cell BK503.out 3).trans rfl, (blk_cell BK503.out 4).trans rfl, (blk_cell BK503.out 5).trans rfl, (blk_cell BK515.out 0).trans rfl, (blk_cell BK515.out 1).trans rfl, (blk_cell BK515.out 2).trans rfl, (blk_cell BK515.out 3).trans rfl, (blk_cell BK515.out 4).trans rfl, (blk_cell BK515.out 5).trans rfl, (blk_cell BK427.out 0).trans rfl, (blk_cell BK427.out 1).trans rfl, (blk_cell BK427.out 2).trans rfl⟩ (fun hHeld => ?_)
                    clear hK K
                    refine nm_ (some 247) ?_
                    refine pa_ 19 (some 248) (bl_ 41 1048575) HT_ ?_
                    refine pa_ 20 (some 249) (bl_ 41 2097151) HT_ ?_
                    refine pa_ 21 (some 250) (bl_ 41 4194303) HT_ ?_
                    refine pa_ 22 (some 251) (bl_ 41 8388607) HT_ ?_
                    refine pa_ 23 (some 252) (bl_ 41 16777215) HT_ ?_
                    refine pa_ 24 (some 253) (bl_ 41 33554431) HT_ ?_
                    refine pa_ 25 (some 254) (bl_ 41 67108863) HT_ ?_
                    refine ta_ 26 (some 255) (bl_ 41 134217727) HT_ HW_ hHeld ?_
                    refine ta_ 27 (some 256) (bl_ 41 268435455) HT_ HW_ hHeld ?_
                    refine pa_ 28 (some 257) (bl_ 41 536870911) HT_ ?_
                    refine pa_ 29 (some 258) (bl_ 41 1073741823) HT_ ?_
                    refine pa_ 30 (some 259) (bl_ 41 2147483647) HT_ ?_
                    refine pa_ 31 (some 260) (bl_ 41 4294967295) HT_ ?_
                    refine pa_ 32 (some 261) (bl_ 41 8589934591) HT_ ?_
                    refine pa_ 33 (some 262) (bl_ 41 17179869183) HT_ ?_
                    refine pa_ 34 (some 263) (bl_ 41 34359738367) HT_ ?_
                    refine pa_ 35 (some 264) (bl_ 41 68719476735) HT_ ?_
                    refine pa_ 36 (some 265) (bl_ 41 137438953471) HT_ ?_
                    refine pa_ 37 (some 266) (bl_ 41 274877906943) HT_ ?_
                    refine oa_ 38 (some 267) (bl_ 41 549755813887) HT_ fun K hK => ?_
                    refine goesB_ Try.func27 #[] ?_
                    with_reducible refine (spigotlaw03_alive.calls k2  t535 _ A102.out).mono ?_
                    rintro e w194 ⟨rfl, hb⟩
                    refine ⟨_, rfl, ?_⟩
                    replace HO_8 := rb_ HO_8 hb
                    replace BK427 := bb_ BK427 hb
                    replace BK467 := bb_ BK467 hb
                    replace BK481 := bb_ BK481 hb
                    replace BK503 := bb_ BK503 hb
                    replace BK504 := bb_ BK504 hb
                    replace BK505 := bb_ BK505 hb
                    replace BK506 := bb_ BK506 hb
                    replace BK507 := bb_ BK507 hb
                    replace BK515 := bb_ BK515 hb
                    replace HB := bs_ w hb
                    clear hb
                    refine hK.out _ _ ⟨(blk_cell BK503.out 0).trans rfl, (blk_cell BK503.out 1).trans rfl, (blk_cell BK503.out 2).trans rfl, (blk_cell BK503.out 3).trans rfl, (blk_cell BK503.out 4).trans rfl, (blk_cell BK503.out 5).trans rfl, (blk_cell BK515.out 0).trans rfl, (blk_cell BK515.out 1).trans rfl, (blk_cell BK515.out 2).trans rfl, (blk_cell BK515.out 3).trans rfl, (blk_cell BK515.out 4).trans rfl, (blk_cell BK515.out 5).trans rfl, (blk_cell BK427.out 0).trans rfl, (blk_cell BK427.out 1).trans rfl, (blk_cell BK427.out 2).trans rfl⟩ (fun hHeld => ?_)
                    clear hK K
                    refine nm_ (some 267) ?_
                    refine pa_ 39 (some 268) (bl_ 41 1099511627775) HT_ ?_
                    refine pa_ 40 (some 0) (bl_ 41 2199023255551) HT_ ?_
                    refine done_ (done_of HT_.out (by kernel_rfl)) ?_
                    try go_wp2
                    go_ret
                    exact fi_
                   ·replace c101 := Bool.eq_false_iff.mpr c101
                    subst c101
                    replace H : (none) = some r := by rw [if_neg (show ¬ (false = true) by decide)] at H; exact H
                    exact absurd H (by simp)
                  ·replace c100 := Bool.eq_false_iff.mpr c100
                   subst c100
                   replace H : (none) = some r := by rw [if_neg (show ¬ (false = true) by decide)] at H; exact H
                   exact absurd H (by simp)
                 ·replace c90 := Bool.eq_false_iff.mpr c90
                  subst c90
                  replace H : (none) = some r := by rw [if_neg (show ¬ (false = true) by decide)] at H; exact H
                  exact absurd H (by simp)
                ·replace c88 := Bool.eq_false_iff.mpr c88
                 subst c88
                 replace H : (none) = some r := by rw [if_neg (show ¬ (false = true) by decide)] at H; exact H
                 exact absurd H (by simp)
               ·replace c86 := Bool.eq_false_iff.mpr c86
                subst c86
                replace H : (none) = some r := by rw [if_neg (show ¬ (false = true) by decide)] at H; exact H
                exact absurd H (by simp)
              ·replace c84 := Bool.eq_false_iff.mpr c84
               subst c84
               replace H : (none) = some r := by rw [if_neg (show ¬ (false = true) by decide)] at H; exact H
               exact absurd H (by simp)
             ·replace c82 := Bool.eq_false_iff.mpr c82
              subst c82
              replace H : (none) = some r := by rw [if_neg (show ¬ (false = true) by decide)] at H; exact H
              exact absurd H (by simp)
            ·replace c80 := Bool.eq_false_iff.mpr c80
             subst c80
             replace H : (none) = some r := by rw [if_neg (show ¬ (false = true) by decide)] at H; exact H
             exact absurd H (by simp)
           ·replace c77 := Bool.eq_false_iff.mpr c77
            subst c77
            replace H : (none) = some r := by rw [if_neg (show ¬ (false = true) by decide)] at H; exact H
            exact absurd H (by simp)
          ·replace c75 := Bool.eq_false_iff.mpr c75
           subst c75
           replace H : (none) = some r := by rw [if_neg (show ¬ (false = true) by decide)] at H; exact H
           exact absurd H (by simp)
         ·replace c73 := Bool.eq_false_iff.mpr c73
          subst c73
          replace H : (none) = some r := by rw [if_neg (show ¬ (false = true) by decide)] at H; exact H
          exact absurd H (by simp)
        ·replace c71 := Bool.eq_false_iff.mpr c71
         subst c71
         replace H : (none) = some r := by rw [if_neg (show ¬ (false = true) by decide)] at H; exact H
         exact absurd H (by simp)
       ·replace c69 := Bool.eq_false_iff.mpr c69
        subst c69
        replace H : (none) = some r := by rw [if_neg (show ¬ (false = true) by decide)] at H; exact H
        exact absurd H (by simp)

end Go.Proofs.Ytmfkedeaifdfdaa.X
