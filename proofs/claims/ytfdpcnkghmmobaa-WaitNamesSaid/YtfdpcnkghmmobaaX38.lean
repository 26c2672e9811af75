-- written by xprint.py, a program of this session over the kit's print
import Derived.Test.YtfdpcnkghmmobaaX0
import Derived.Test.YtfdpcnkghmmobaaX3
import Derived.Test.YtfdpcnkghmmobaaX22
import Derived.Test.YtfdpcnkghmmobaaX33
import Derived.Test.YtfdpcnkghmmobaaX36
import Derived.Test.YtfdpcnkghmmobaaX37
namespace Go.Proofs.Ytfdpcnkghmmobaa.X
open Go.RowKit Go.Proofs.YtfdpcnkghmmobaaW.PrintWords Go.Proofs.YtfdpcnkghmmobaaW.PrintLast Go.Proofs.YtfdpcnkghmmobaaW.PrintMore
attribute [local go_sem] max2_int min2_int max_two min_two max_three min_three max_four min_four   -- for this text's walks alone
set_option linter.unusedVariables false
set_option linter.unusedSimpArgs false

/-! ### spigotlaw39_alive: function 13 -/
def spigotlaw39_alive.f (k : Nat)  : Option (Bool) := (spigotlaw39_given.f).bind fun bt387 => ((some (([(⟨(⟨bt387.1, bt387.2.1, bt387.2.2.1⟩ : S61), bt387.2.2.2.1, bt387.2.2.2.2.1, bt387.2.2.2.2.2⟩ : S63)] : List (S63)) : List (S63))).bind fun y393 => ((wait_Plan.f k y393 10 (([4, 1, 2] : List Int))).bind fun bt399 => ((wait_Plan.f k y393 0 (([4, 1] : List Int))).bind fun bt409 => ((spigotlaw39_given.f).bind fun bt417 => ((wait_First.f k (([(⟨(⟨bt417.1, bt417.2.1, bt417.2.2.1⟩ : S61), bt417.2.2.2.1, bt417.2.2.2.2.1, bt417.2.2.2.2.2⟩ : S63), (⟨(⟨2, 1, 1⟩ : S61), 2, 0, 0⟩ : S63)] : List (S63))) 10 4).bind fun bt426 => (if bt399.2.2 = 0 then ((spigotref39_Same.f k bt399.1 (([10, 13, 19] : List Int))).bind fun t431 => (if t431 = true then (if bt409.2.2 = 0 then ((spigotref39_Same.f k bt409.1 (([0, 13] : List Int))).bind fun t435 => (if t435 = true then (some (bt426.2 == 6)) else (none))) else (none)) else (none))) else (none)))))))
theorem spigotlaw39_alive.mono : ∀ k, LeO (spigotlaw39_alive.f k ) (spigotlaw39_alive.f (k + 1) ) := by
  intro  k
  unfold spigotlaw39_alive.f
  repeat' first
      | (with_reducible exact spigotref39_Same.mono _ _ _)
      | (with_reducible exact wait_First.mono _ _ _ _)
      | (with_reducible exact wait_Plan.mono _ _ _ _)
      | (with_reducible exact LeO.refl _)
      | (with_reducible exact LeO.none _)
      | (with_reducible refine LeO.ite ?_ ?_)
      | (with_reducible refine LeO.bind ?_ (fun _ => ?_))
      | exact spigotref39_Same.mono _ _ _
      | exact wait_First.mono _ _ _ _
      | exact wait_Plan.mono _ _ _ _
      | exact LeO.none _
      | refine LeO.ite ?_ ?_
      | refine LeO.bind ?_ (fun _ => ?_)
def spigotlaw39_alive.T5 : Bool × List (List Nat × List Nat) := (true, [([], []), ([], []), ([0, 1], [0, 1]), ([2, 0], [2]), ([3], [3]), ([4], [4]), ([4], [4]), ([5, 3, 0, 1, 2, 3, 4, 5], [5]), ([6, 7, 0, 1, 2, 3, 4, 5, 6, 7], [6])])
def spigotlaw39_alive.B5 : List Nat := [0, 0, 3, 7, 15, 31, 31, 63, 255]
theorem spigotlaw39_alive.tab5 : rtab .any (opsOf Try.f13 5) = spigotlaw39_alive.T5 := by kernel_rfl
theorem spigotlaw39_alive.bits5 : waitsOk spigotlaw39_alive.T5.2 spigotlaw39_alive.B5 = true := by kernel_rfl
set_option maxHeartbeats 8000000 in
set_option maxRecDepth 100000 in
theorem spigotlaw39_alive.calls (k : Nat)  (r : Bool) (w : World) (h : spigotlaw39_alive.f k  = some r) :
  Calls Try.prog 13 #[] w fun e w' => e = .returned (.bool r) ∧ Below w.heap.size w w' := by
 have hu61 := Try.underlying61
 have hu63 := Try.underlying63
 have HB := Aside0.mk (Below.refl w.heap.size w)
 have H : ((spigotlaw39_given.f).bind fun bt387 => ((some (([(⟨(⟨bt387.1, bt387.2.1, bt387.2.2.1⟩ : S61), bt387.2.2.2.1, bt387.2.2.2.2.1, bt387.2.2.2.2.2⟩ : S63)] : List (S63)) : List (S63))).bind fun y393 => ((wait_Plan.f k y393 10 (([4, 1, 2] : List Int))).bind fun bt399 => ((wait_Plan.f k y393 0 (([4, 1] : List Int))).bind fun bt409 => ((spigotlaw39_given.f).bind fun bt417 => ((wait_First.f k (([(⟨(⟨bt417.1, bt417.2.1, bt417.2.2.1⟩ : S61), bt417.2.2.2.1, bt417.2.2.2.2.1, bt417.2.2.2.2.2⟩ : S63), (⟨(⟨2, 1, 1⟩ : S61), 2, 0, 0⟩ : S63)] : List (S63))) 10 4).bind fun bt426 => (if bt399.2.2 = 0 then ((spigotref39_Same.f k bt399.1 (([10, 13, 19] : List Int))).bind fun t431 => (if t431 = true then (if bt409.2.2 = 0 then ((spigotref39_Same.f k bt409.1 (([0, 13] : List Int))).bind fun t435 => (if t435 = true then (some (bt426.2 == 6)) else (none))) else (none)) else (none))) else (none)))))))) = some r := h
 clear h
 have H0_ := bo_ H; clear H; obtain ⟨⟨t387, t388, t389, t390, t391, t392⟩, A1, H⟩ := H0_
 try dsimp only at H
 obtain ⟨y393, hy393⟩ : ∃ y_ : List (S63), y_ = (([(⟨(⟨t387, t388, t389⟩ : S61), t390, t391, t392⟩ : S63)] : List (S63))) := ⟨_, rfl⟩
 replace H : ((wait_Plan.f k y393 10 (([4, 1, 2] : List Int))).bind fun bt399 => ((wait_Plan.f k y393 0 (([4, 1] : List Int))).bind fun bt409 => ((spigotlaw39_given.f).bind fun bt417 => ((wait_First.f k (([(⟨(⟨bt417.1, bt417.2.1, bt417.2.2.1⟩ : S61), bt417.2.2.2.1, bt417.2.2.2.2.1, bt417.2.2.2.2.2⟩ : S63), (⟨(⟨2, 1, 1⟩ : S61), 2, 0, 0⟩ : S63)] : List (S63))) 10 4).bind fun bt426 => (if bt399.2.2 = 0 then ((spigotref39_Same.f k bt399.1 (([10, 13, 19] : List Int))).bind fun t431 => (if t431 = true then (if bt409.2.2 = 0 then ((spigotref39_Same.f k bt409.1 (([0, 13] : List Int))).bind fun t435 => (if t435 = true then (some (bt426.2 == 6)) else (none))) else (none)) else (none))) else (none)))))) = some r := by first | (rw [hy393]; with_reducible exact H) | (have H2_ := (Option.bind_some _ _).symm.trans H; rw [hy393]; with_reducible exact H2_) | (have H2_ := (Option.bind_some _ _).symm.trans H; with_reducible exact H2_) | with_reducible exact H | (rw [hy393]; exact H) | exact H
 have Ny393 := Aside0.mk hy393
 clear hy393
 obtain ⟨y396, hy396⟩ : ∃ y_ : List Int, y_ = (([4, 1, 2] : List Int)) := ⟨_, rfl⟩
 replace H : ((wait_Plan.f k y393 10 y396).bind fun bt399 => ((wait_Plan.f k y393 0 (([4, 1] : List Int))).bind fun bt409 => ((spigotlaw39_given.f).bind fun bt417 => ((wait_First.f k (([(⟨(⟨bt417.1, bt417.2.1, bt417.2.2.1⟩ : S61), bt417.2.2.2.1, bt417.2.2.2.2.1, bt417.2.2.2.2.2⟩ : S63), (⟨(⟨2, 1, 1⟩ : S61), 2, 0, 0⟩ : S63)] : List (S63))) 10 4).bind fun bt426 => (if bt399.2.2 = 0 then ((spigotref39_Same.f k bt399.1 (([10, 13, 19] : List Int))).bind fun t431 => (if t431 = true then (if bt409.2.2 = 0 then ((spigotref39_Same.f k bt409.1 (([0, 13] : List Int))).bind fun t435 => (if t435 = true then (some (bt426.2 == 6)) else (none))) else (none)) else (none))) else (none)))))) = some r := by first | (rw [hy396]; with_reducible exact H) | (have H2_ := (Option.bind_some _ _).symm.trans H; rw [hy396]; with_reducible exact H2_) | (have H2_ := (Option.bind_some _ _).symm.trans H; with_reducible exact H2_) | with_reducible exact H | (rw [hy396]; exact H) | exact H
 have Ny396 := Aside0.mk hy396
 clear hy396
 have H0_ := bo_ H; clear H; obtain ⟨⟨t399, t400, t401⟩, A2, H⟩ := H0_
 try dsimp only at H
 obtain ⟨y406, hy406⟩ : ∃ y_ : List Int, y_ = (([4, 1] : List Int)) := ⟨_, rfl⟩
 replace H : ((wait_Plan.f k y393 0 y406).bind fun bt409 => ((spigotlaw39_given.f).bind fun bt417 => ((wait_First.f k (([(⟨(⟨bt417.1, bt417.2.1, bt417.2.2.1⟩ : S61), bt417.2.2.2.1, bt417.2.2.2.2.1, bt417.2.2.2.2.2⟩ : S63), (⟨(⟨2, 1, 1⟩ : S61), 2, 0, 0⟩ : S63)] : List (S63))) 10 4).bind fun bt426 => (if t401 = 0 then ((spigotref39_Same.f k t399 (([10, 13, 19] : List Int))).bind fun t431 => (if t431 = true then (if bt409.2.2 = 0 then ((spigotref39_Same.f k bt409.1 (([0, 13] : List Int))).bind fun t435 => (if t435 = true then (some (bt426.2 == 6)) else (none))) else (none)) else (none))) else (none))))) = some r := by first | (rw [hy406]; with_reducible exact H) | (have H2_ := (Option.bind_some _ _).symm.trans H; rw [hy406]; with_reducible exact H2_) | (have H2_ := (Option.bind_some _ _).symm.trans H; with_reducible exact H2_) | with_reducible exact H | (rw [hy406]; exact H) | exact H
 have Ny406 := Aside0.mk hy406
 clear hy406
 have H0_ := bo_ H; clear H; obtain ⟨⟨t409, t410, t411⟩, A3, H⟩ := H0_
 try dsimp only at H
 have H0_ := bo_ H; clear H; obtain ⟨⟨t417, t418, t419, t420, t421, t422⟩, A4, H⟩ := H0_
 try dsimp only at H
 obtain ⟨y423, hy423⟩ : ∃ y_ : List (S63), y_ = (([(⟨(⟨t417, t418, t419⟩ : S61), t420, t421, t422⟩ : S63), (⟨(⟨2, 1, 1⟩ : S61), 2, 0, 0⟩ : S63)] : List (S63))) := ⟨_, rfl⟩
 replace H : ((wait_First.f k y423 10 4).bind fun bt426 => (if t401 = 0 then ((spigotref39_Same.f k t399 (([10, 13, 19] : List Int))).bind fun t431 => (if t431 = true then (if t411 = 0 then ((spigotref39_Same.f k t409 (([0, 13] : List Int))).bind fun t435 => (if t435 = true then (some (bt426.2 == 6)) else (none))) else (none)) else (none))) else (none))) = some r := by first | (rw [hy423]; with_reducible exact H) | (have H2_ := (Option.bind_some _ _).symm.trans H; rw [hy423]; with_reducible exact H2_) | (have H2_ := (Option.bind_some _ _).symm.trans H; with_reducible exact H2_) | with_reducible exact H | (rw [hy423]; exact H) | exact H
 have Ny423 := Aside0.mk hy423
 clear hy423
 have H0_ := bo_ H; clear H; obtain ⟨⟨t426, t427⟩, A5, H⟩ := H0_
 try dsimp only at H
 replace H := ct_ H; obtain ⟨c6b0, c6b1, H⟩ := H
 obtain ⟨y428, hy428⟩ : ∃ y_ : List Int, y_ = (([10, 13, 19] : List Int)) := ⟨_, rfl⟩
 replace H : ((spigotref39_Same.f k t399 y428).bind fun t431 => (if t431 = true then (if t411 = 0 then ((spigotref39_Same.f k t409 (([0, 13] : List Int))).bind fun t435 => (if t435 = true then (some (t427 == 6)) else (none))) else (none)) else (none))) = some r := by first | (rw [hy428]; with_reducible exact H) | (have H2_ := (Option.bind_some _ _).symm.trans H; rw [hy428]; with_reducible exact H2_) | (have H2_ := (Option.bind_some _ _).symm.trans H; with_reducible exact H2_) | with_reducible exact H | (rw [hy428]; exact H) | exact H
 have Ny428 := Aside0.mk hy428
 clear hy428
 have H0_ := bo_ H; clear H; obtain ⟨t431, A7, H⟩ := H0_
 try dsimp only at H
 by_cases c8 : t431 = true
 ·subst c8
  rw [if_pos rfl] at H
  try dsimp only at H
  replace H := ct_ H; obtain ⟨c9b0, c9b1, H⟩ := H
  obtain ⟨y432, hy432⟩ : ∃ y_ : List Int, y_ = (([0, 13] : List Int)) := ⟨_, rfl⟩
  replace H : ((spigotref39_Same.f k t409 y432).bind fun t435 => (if t435 = true then (some (t427 == 6)) else (none))) = some r := by first | (rw [hy432]; with_reducible exact H) | (have H2_ := (Option.bind_some _ _).symm.trans H; rw [hy432]; with_reducible exact H2_) | (have H2_ := (Option.bind_some _ _).symm.trans H; with_reducible exact H2_) | with_reducible exact H | (rw [hy432]; exact H) | exact H
  have Ny432 := Aside0.mk hy432
  clear hy432
  have H0_ := bo_ H; clear H; obtain ⟨t435, A10, H⟩ := H0_
  replace H : (if t435 = true then (some (t427 == 6)) else (none)) = some r := H
  by_cases c11 : t435 = true
  ·subst c11
   replace H : (some (t427 == 6)) = some r := by rw [if_pos rfl] at H; exact H
   obtain rfl := Option.some.inj H
   go_enter Try.func13, Try.ntmps13
   try go_wp2_with (first | ((with_reducible refine gate_callee (f := 28) rfl ?_); (try refine ug_ (by rfl) ?_); refine goesA_ (some 11) Try.func28 #[] ?_; (with_reducible refine (spigotlaw39_given.calls  t387 t388 t389 t390 t391 t392 _ A1.out).mono ?_); rintro e w12 ⟨rfl, hb⟩; refine ⟨_, rfl, ?_⟩; replace HB := bs_ w hb; clear hb) | ((with_reducible refine gate_dst (N := 12) rfl ?_); (try refine ug_ (by rfl) ?_); refine Kd.R_lit k63 _ 63 ?hg (N := 12) ?hd (xs := ([(⟨(⟨t387, t388, t389⟩ : S61), t390, t391, t392⟩ : S63)] : List (S63))) (inner := [.int .i64 t387, .int .i64 t388, .int .i64 t389, .int .i64 t390, .int .i64 t391, .int .u64 t392]) (ok := fun _ => True) (okp := fun _ => True) ?hr ?hp (fun _ hk => hk) trivial (Below.refl _ _) (Nat.le_refl _) (by simp) ?_; (case hd => rfl); (case hg => rfl); (case hr => first | (go_simp; done) | (go_simp; rfl)); (case hp => exact (Reps.c6 (show Kd.M k63 _ _ _ (⟨(⟨t387, t388, t389⟩ : S61), t390, t391, t392⟩ : S63) [.int .i64 t387, .int .i64 t388, .int .i64 t389, .int .i64 t390, .int .i64 t391, .int .u64 t392] from (k63_mkM _ _ _ (⟨(⟨t387, t388, t389⟩ : S61), t390, t391, t392⟩ : S63) )) (Reps.none _ _))); intro v394 w13 ho14 hb hg_ hnew_; clear hg_ hnew_; (first | rw [← Ny393.out] at ho14 | (simp only [Int.reduceToNat] at ho14; rw [← Ny393.out] at ho14)); have HO395 := Aside0.mk (Kd.R_lower ho14 (below_size (hq_ HB))); replace HB := bs_ w hb; clear hb ho14) | ((with_reducible refine gate_dst (N := 15) rfl ?_); (try refine ug_ (by rfl) ?_); refine Kd.R_lit (Kd.int .i64) _ 2 ?hg (N := 15) ?hd (xs := ([4, 1, 2] : List Int)) (inner := [.int .i64 4, .int .i64 1, .int .i64 2]) (ok := fun _ => True) (okp := fun _ => True) ?hr ?hp (fun _ hk => hk) trivial (Below.refl _ _) (Nat.le_refl _) (by simp) ?_; (case hd => rfl); (case hg => rfl); (case hr => first | (go_simp; done) | (go_simp; rfl)); (case hp => exact (Reps.one (show Kd.M (Kd.int .i64) _ _ _ 4 [.int .i64 4] from rfl) (Reps.one (show Kd.M (Kd.int .i64) _ _ _ 1 [.int .i64 1] from rfl) (Reps.one (show Kd.M (Kd.int .i64) _ _ _ 2 [.int .i64 2] from rfl) (Reps.none _ _))))); intro v397 w15 ho16 hb hg_ hnew_; clear hg_ hnew_; (first | rw [← Ny396.out] at ho16 | (simp only [Int.reduceToNat] at ho16; rw [← Ny396.out] at ho16)); have HO398 := Aside0.mk (Kd.R_lower ho16 (below_size (hq_ HB))); replace HO395 := rb_ HO395 hb; replace HB := bs_ w hb; clear hb ho16; obtain ⟨Ao17, co17, eo17⟩ := Kd.R_slice HO395.out; subst eo17; obtain ⟨Ao18, co18, eo18⟩ := Kd.R_slice HO398.out; subst eo18) | ((with_reducible refine gate_callee (f := 15) rfl ?_); (try refine ug_ (by rfl) ?_); refine goesA_ (some 16) Try.func15 #[.slice Ao17 y393.length co17, .int .u64 10, .slice Ao18 y396.length co18] ?_; (with_reducible refine (wait_Plan.calls k _ _ y393 10 _ _ y396 t399 t400 t401 _ ?side1 ?side2 ?side3 ?side4 A2.out).mono ?_); (case side1 => exact cr_ HO395); (case side2 => exact (Kd.R_reads' HO395.out).2.1); (case side3 => exact cr_ HO398); (case side4 => exact (Kd.R_reads' HO398.out).2.1); rintro e w19 ⟨v402, v404, rfl, ho0, ho1, hb⟩; refine ⟨_, rfl, ?_⟩; have HO403 := Aside0.mk (Kd.R_lower ho0 (below_size (hq_ HB))); have HO405 := Aside0.mk (Kd.R_lower (Kd.R_new' ho1 (Kd.R_lt (rs_ HO395))) (below_size (hq_ HB))); replace HO395 := Aside0.mk (Kd.R_elder' (rs_ HO395) (Kd.R_base ho1) hb); replace HO398 := rb_ HO398 hb; replace HB := bs_ w hb; (try clear hb); (try clear hb2); (try clear hk); (try clear hi); (try clear ho0); (try clear ho1)) | ((with_reducible refine gate_dst (N := 22) rfl ?_); (try refine ug_ (by rfl) ?_); refine Kd.R_lit (Kd.int .i64) _ 2 ?hg (N := 22) ?hd (xs := ([4, 1] : List Int)) (inner := [.int .i64 4, .int .i64 1]) (ok := fun _ => True) (okp := fun _ => True) ?hr ?hp (fun _ hk => hk) trivial (Below.refl _ _) (Nat.le_refl _) (by simp) ?_; (case hd => rfl); (case hg => rfl); (case hr => first | (go_simp; done) | (go_simp; rfl)); (case hp => exact (Reps.one (show Kd.M (Kd.int .i64) _ _ _ 4 [.int .i64 4] from rfl) (Reps.one (show Kd.M (Kd.int .i64) _ _ _ 1 [.int .i64 1] from rfl) (Reps.none _ _)))); intro v407 w20 ho21 hb hg_ hnew_; clear hg_ hnew_; (first | rw [← Ny406.out] at ho21 | (simp only [Int.reduceToNat] at ho21; rw [← Ny406.out] at ho21)); have HO408 := Aside0.mk (Kd.R_lower (Kd.R_new' ho21 (Kd.R_lt (rs_ HO398))) (below_size (hq_ HB))); replace HO395 := rb_ HO395 hb; replace HO398 := Aside0.mk (Kd.R_elder' (rs_ HO398) (Kd.R_base ho21) hb); replace HO403 := rb_ HO403 hb; replace HO405 := rb_ HO405 hb; replace HB := bs_ w hb; clear hb ho21; obtain ⟨Ao22, co22, eo22⟩ := Kd.R_slice HO408.out; subst eo22) | ((with_reducible refine gate_callee (f := 15) rfl ?_); (try refine ug_ (by rfl) ?_); refine goesA_ (some 23) Try.func15 #[.slice Ao17 y393.length co17, .int .u64 0, .slice Ao22 y406.length co22] ?_; (with_reducible refine (wait_Plan.calls k _ _ y393 0 _ _ y406 t409 t410 t411 _ ?side1 ?side2 ?side3 ?side4 A3.out).mono ?_); (case side1 => exact cr_ HO395); (case side2 => exact (Kd.R_reads' HO395.out).2.1); (case side3 => exact cr_ HO408); (case side4 => exact (Kd.R_reads' HO408.out).2.1); rintro e w23 ⟨v412, v414, rfl, ho0, ho1, hb⟩; refine ⟨_, rfl, ?_⟩; have HO413 := Aside0.mk (Kd.R_lower (Kd.R_new' ho0 (Kd.R_lt (rs_ HO403))) (below_size (hq_ HB))); have HO415 := Aside0.mk (Kd.R_lower (Kd.R_new' (Kd.R_new' ho1 (Kd.R_lt (rs_ HO395))) (Kd.R_lt (rs_ HO405))) (below_size (hq_ HB))); replace HO395 := Aside0.mk (Kd.R_elder' (rs_ HO395) (Kd.R_base ho1) hb); replace HO398 := rb_ HO398 hb; replace HO403 := Aside0.mk (Kd.R_elder' (rs_ HO403) (Kd.R_base ho0) hb); replace HO405 := Aside0.mk (Kd.R_elder' (rs_ HO405) (Kd.R_base ho1) hb); replace HO408 := rb_ HO408 hb; replace HB := bs_ w hb; (try clear hb); (try clear hb2); (try clear hk); (try clear hi); (try clear ho0); (try clear ho1)) | ((with_reducible refine gate_dst (N := 8) rfl ?_); (try refine ug_ (by rfl) ?_); refine bx_ #[.int .i64 0, .int .i64 0, .int .i64 0, .int .i64 0, .int .i64 0, .int .u64 0] 63 ?_; intro gb416 hg w24 BK416 hb; have GW416 := bz_ w hg; replace HO395 := Aside0.mk (Kd.R_below (Kd.R_elderB (rs_ HO395) gb416 (Nat.le_of_eq hg.symm)) hb); replace HO398 := rb_ HO398 hb; replace HO403 := rb_ HO403 hb; replace HO405 := Aside0.mk (Kd.R_below (Kd.R_elderB (rs_ HO405) gb416 (Nat.le_of_eq hg.symm)) hb); replace HO408 := rb_ HO408 hb; replace HO413 := rb_ HO413 hb; replace HO415 := Aside0.mk (Kd.R_below (Kd.R_elderB (rs_ HO415) gb416 (Nat.le_of_eq hg.symm)) hb); replace HB := bs_ w hb; clear hb hg; replace hc416 := ce6_ BK416))
   have n0_ : Aside0 (Kd.R k63 63 ((((((w24.setCell ⟨gb416, 0, none⟩ (.int .i64 2)).setCell ⟨gb416, 1, none⟩ (.int .i64 1)).setCell ⟨gb416, 2, none⟩ (.int .i64 1)).setCell ⟨gb416, 3, none⟩ (.int .i64 2)).setCell ⟨gb416, 4, none⟩ (.int .i64 0)).setCell ⟨gb416, 5, none⟩ (.int .u64 0)) w.heap.size (fun k_ => some k_ ≠ (v404 : Value).ownBlock ∧ some k_ ≠ (v414 : Value).ownBlock ∧ k_ ≠ gb416) (.slice Ao17 y393.length co17) y393) := ⟨by (with_reducible repeat (first | apply Kd.R_alloc | apply Kd.R_drewN | apply Kd.R_drew)); exact Kd.R_mono (rf6_ (g := gb416) (Kd.R_mono HO395.out (fun k_ hk => (⟨hk, hk.2⟩ : _ ∧ k_ ≠ gb416))) (fun _ hk => hk.2)) (fun _ hk => ⟨hk.1.1.1.2, ⟨hk.1.1.2, hk.1.2⟩⟩)⟩
   have n1_ : Aside0 (Kd.R (Kd.int .i64) 2 ((((((w24.setCell ⟨gb416, 0, none⟩ (.int .i64 2)).setCell ⟨gb416, 1, none⟩ (.int .i64 1)).setCell ⟨gb416, 2, none⟩ (.int .i64 1)).setCell ⟨gb416, 3, none⟩ (.int .i64 2)).setCell ⟨gb416, 4, none⟩ (.int .i64 0)).setCell ⟨gb416, 5, none⟩ (.int .u64 0)) w.heap.size (fun k_ => some k_ ≠ (.slice Ao22 y406.length co22 : Value).ownBlock) (.slice Ao18 y396.length co18) y396) := ⟨by (with_reducible repeat (first | apply Kd.R_alloc | apply Kd.R_drewN | apply Kd.R_drew)); exact Kd.R_mono (rf6_ (g := gb416) (Kd.R_types HO398.out BK416.out (by decide)) (fun _ hk => hk.2)) (fun _ hk => hk.1.2)⟩
   have n2_ : Aside0 (Kd.R (Kd.int .u64) 23 ((((((w24.setCell ⟨gb416, 0, none⟩ (.int .i64 2)).setCell ⟨gb416, 1, none⟩ (.int .i64 1)).setCell ⟨gb416, 2, none⟩ (.int .i64 1)).setCell ⟨gb416, 3, none⟩ (.int .i64 2)).setCell ⟨gb416, 4, none⟩ (.int .i64 0)).setCell ⟨gb416, 5, none⟩ (.int .u64 0)) w.heap.size (fun k_ => some k_ ≠ (v412 : Value).ownBlock) v402 t399) := ⟨by (with_reducible repeat (first | apply Kd.R_alloc | apply Kd.R_drewN | apply Kd.R_drew)); exact Kd.R_mono (rf6_ (g := gb416) (Kd.R_types HO403.out BK416.out (by decide)) (fun _ hk => hk.2)) (fun _ hk => hk.1.2)⟩
   have n3_ : Aside0 (Kd.R k63 63 ((((((w24.setCell ⟨gb416, 0, none⟩ (.int .i64 2)).setCell ⟨gb416, 1, none⟩ (.int .i64 1)).setCell ⟨gb416, 2, none⟩ (.int .i64 1)).setCell ⟨gb416, 3, none⟩ (.int .i64 2)).setCell ⟨gb416, 4, none⟩ (.int .i64 0)).setCell ⟨gb416, 5, none⟩ (.int .u64 0)) w.heap.size (fun k_ => some k_ ≠ (.slice Ao17 y393.length co17 : Value).ownBlock ∧ some k_ ≠ (v414 : Value).ownBlock ∧ k_ ≠ gb416) v404 t400) := ⟨by (with_reducible repeat (first | apply Kd.R_alloc | apply Kd.R_drewN | apply Kd.R_drew)); exact Kd.R_mono (rf6_ (g := gb416) (Kd.R_mono HO405.out (fun k_ hk => (⟨hk, hk.2⟩ : _ ∧ k_ ≠ gb416))) (fun _ hk => hk.2)) (fun _ hk => ⟨hk.1.1.1.2, ⟨hk.1.1.2, hk.1.2⟩⟩)⟩
   have n4_ : Aside0 (Kd.R (Kd.int .i64) 2 ((((((w24.setCell ⟨gb416, 0, none⟩ (.int .i64 2)).setCell ⟨gb416, 1, none⟩ (.int .i64 1)).setCell ⟨gb416, 2, none⟩ (.int .i64 1)).setCell ⟨gb416, 3, none⟩ (.int .i64 2)).setCell ⟨gb416, 4, none⟩ (.int .i64 0)).setCell ⟨gb416, 5, none⟩ (.int .u64 0)) w.heap.size (fun k_ => some k_ ≠ (.slice Ao18 y396.length co18 : Value).ownBlock) (.slice Ao22 y406.length co22) y406) := ⟨by (with_reducible repeat (first | apply Kd.R_alloc | apply Kd.R_drewN | apply Kd.R_drew)); exact Kd.R_mono (rf6_ (g := gb416) (Kd.R_types HO408.out BK416.out (by decide)) (fun _ hk => hk.2)) (fun _ hk => hk.1.2)⟩
   have n5_ : Aside0 (Kd.R (Kd.int .u64) 23 ((((((w24.setCell ⟨gb416, 0, none⟩ (.int .i64 2)).setCell ⟨gb416, 1, none⟩ (.int .i64 1)).setCell ⟨gb416, 2, none⟩ (.int .i64 1)).setCell ⟨gb416, 3, none⟩ (.int .i64 2)).setCell ⟨gb416, 4, none⟩ (.int .i64 0)).setCell ⟨gb416, 5, none⟩ (.int .u64 0)) w.heap.size (fun k_ => some k_ ≠ (v402 : Value).ownBlock) v412 t409) := ⟨by (with_reducible repeat (first | apply Kd.R_alloc | apply Kd.R_drewN | apply Kd.R_drew)); exact Kd.R_mono (rf6_ (g := gb416) (Kd.R_types HO413.out BK416.out (by decide)) (fun _ hk => hk.2)) (fun _ hk => hk.1.2)⟩
   have n6_ : Aside0 (Kd.R k63 63 ((((((w24.setCell ⟨gb416, 0, none⟩ (.int .i64 2)).setCell ⟨gb416, 1, none⟩ (.int .i64 1)).setCell ⟨gb416, 2, none⟩ (.int .i64 1)).setCell ⟨gb416, 3, none⟩ (.int .i64 2)).setCell ⟨gb416, 4, none⟩ (.int .i64 0)).setCell ⟨gb416, 5, none⟩ (.int .u64 0)) w.heap.size (fun k_ => some k_ ≠ (.slice Ao17 y393.length co17 : Value).ownBlock ∧ some k_ ≠ (v404 : Value).ownBlock ∧ k_ ≠ gb416) v414 t410) := ⟨by (with_reducible repeat (first | apply Kd.R_alloc | apply Kd.R_drewN | apply Kd.R_drew)); exact Kd.R_mono (rf6_ (g := gb416) (Kd.R_mono HO415.out (fun k_ hk => (⟨hk, hk.2⟩ : _ ∧ k_ ≠ gb416))) (fun _ hk => hk.2)) (fun _ hk => ⟨hk.1.1.1.2, ⟨hk.1.1.2, hk.1.2⟩⟩)⟩
   have n7_ : Aside0 (((((((w24.setCell ⟨gb416, 0, none⟩ (.int .i64 2)).setCell ⟨gb416, 1, none⟩ (.int .i64 1)).setCell ⟨gb416, 2, none⟩ (.int .i64 1)).setCell ⟨gb416, 3, none⟩ (.int .i64 2)).setCell ⟨gb416, 4, none⟩ (.int .i64 0)).setCell ⟨gb416, 5, none⟩ (.int .u64 0)).heap[gb416]? = some (.cells #[.int .i64 2, .int .i64 1, .int .i64 1, .int .i64 2, .int .i64 0, .int .u64 0] 63 (0, 0))) := ⟨(bp6_ (bq_ BK416))⟩
   have n8_ : Aside0 (Below w.heap.size w ((((((w24.setCell ⟨gb416, 0, none⟩ (.int .i64 2)).setCell ⟨gb416, 1, none⟩ (.int .i64 1)).setCell ⟨gb416, 2, none⟩ (.int .i64 1)).setCell ⟨gb416, 3, none⟩ (.int .i64 2)).setCell ⟨gb416, 4, none⟩ (.int .i64 0)).setCell ⟨gb416, 5, none⟩ (.int .u64 0))) := bw_
   (try clear HO395)
   (try clear HO398)
   (try clear HO403)
   (try clear HO405)
   (try clear HO408)
   (try clear HO413)
   (try clear HO415)
   (try clear BK416)
   (try clear HB)
   generalize ((((((w24.setCell ⟨gb416, 0, none⟩ (.int .i64 2)).setCell ⟨gb416, 1, none⟩ (.int .i64 1)).setCell ⟨gb416, 2, none⟩ (.int .i64 1)).setCell ⟨gb416, 3, none⟩ (.int .i64 2)).setCell ⟨gb416, 4, none⟩ (.int .i64 0)).setCell ⟨gb416, 5, none⟩ (.int .u64 0)) = w26 at n0_ n1_ n2_ n3_ n4_ n5_ n6_ n7_ n8_ ⊢
   have HO395 := n0_
   have HO398 := n1_
   have HO403 := n2_
   have HO405 := n3_
   have HO408 := n4_
   have HO413 := n5_
   have HO415 := n6_
   have BK416 := n7_
   have HB := n8_
   clear n0_ n1_ n2_ n3_ n4_ n5_ n6_ n7_ n8_
   replace HO395 := Aside0.mk (Kd.R_drew HO395.out)
   replace HO398 := Aside0.mk (Kd.R_drew HO398.out)
   replace HO403 := Aside0.mk (Kd.R_drew HO403.out)
   replace HO405 := Aside0.mk (Kd.R_drew HO405.out)
   replace HO408 := Aside0.mk (Kd.R_drew HO408.out)
   replace HO413 := Aside0.mk (Kd.R_drew HO413.out)
   replace HO415 := Aside0.mk (Kd.R_drew HO415.out)
   replace BK416 := Aside0.mk (blk_drew BK416.out)
   replace HB := Aside0.mk (below_drew1 HB.out)
   refine start_ (n := 9) (S := fun w' => w'.cell? ⟨gb416, 0, none⟩ = some (.int .i64 2) ∧ w'.cell? ⟨gb416, 1, none⟩ = some (.int .i64 1) ∧ w'.cell? ⟨gb416, 2, none⟩ = some (.int .i64 1) ∧ w'.cell? ⟨gb416, 3, none⟩ = some (.int .i64 2) ∧ w'.cell? ⟨gb416, 4, none⟩ = some (.int .i64 0) ∧ w'.cell? ⟨gb416, 5, none⟩ = some (.int .u64 0)) (ds := []) (bl_ 9 0) (by kernel_rfl) rfl (by kernel_rfl) (cc6_ BK416) (fun hHeld => ?_); refine with_tabW spigotlaw39_alive.tab5 spigotlaw39_alive.bits5 (fun HT_ HW_ => ?_)
   generalize w26.drew = w27 at HO395 HO398 HO403 HO405 HO408 HO413 HO415 BK416 HB hHeld ⊢
   refine ta_ 1 (some 31) (bl_ 9 2) HT_ HW_ hHeld ?_
   refine oa_ 0 (some 30) (bl_ 9 3) HT_ fun K hK => ?_
   refine goesB_ Try.func28 #[] ?_
   with_reducible refine (spigotlaw39_given.calls  t417 t418 t419 t420 t421 t422 _ A4.out).mono ?_
   rintro e w28 ⟨rfl, hb⟩
   refine ⟨_, rfl, ?_⟩
   replace HO395 := rb_ HO395 hb
   replace HO398 := rb_ HO398 hb
   replace HO403 := rb_ HO403 hb
   replace HO405 := rb_ HO405 hb
   replace HO408 := rb_ HO408 hb
   replace HO413 := rb_ HO413 hb
   replace HO415 := rb_ HO415 hb
   replace BK416 := bb_ BK416 hb
   replace HB := bs_ w hb
   clear hb
   refine hK.out _ _ (cc6_ BK416) (fun hHeld => ?_)
   clear hK K
   refine nm_ (some 30) ?_
   refine oa_ 2 (some 32) (bl_ 9 7) HT_ fun K hK => ?_
   refine Kd.R_lit_step k63 _ 63 ?hg (N := 32) ?hd (xs := ([(⟨(⟨t417, t418, t419⟩ : S61), t420, t421, t422⟩ : S63), (⟨(⟨2, 1, 1⟩ : S61), 2, 0, 0⟩ : S63)] : List (S63))) (inner := [.int .i64 t417, .int .i64 t418, .int .i64 t419, .int .i64 t420, .int .i64 t421, .int .u64 t422, .int .i64 2, .int .i64 1, .int .i64 1, .int .i64 2, .int .i64 0, .int .u64 0]) (ok := fun _ => True) (okp := fun _ => True) ?hr ?hp (fun _ hk => hk) trivial (Below.refl _ _) (Nat.le_refl _) (by simp) ?_; (case hd => rfl); (case hg => rfl); (case hr => first | (go_simp; done) | (go_simp; rfl)); (case hp => exact (Reps.c6 (show Kd.M k63 _ _ _ (⟨(⟨t417, t418, t419⟩ : S61), t420, t421, t422⟩ : S63) [.int .i64 t417, .int .i64 t418, .int .i64 t419, .int .i64 t420, .int .i64 t421, .int .u64 t422] from (k63_mkM _ _ _ (⟨(⟨t417, t418, t419⟩ : S61), t420, t421, t422⟩ : S63) )) (Reps.c6 (show Kd.M k63 _ _ _ (⟨(⟨2, 1, 1⟩ : S61), 2, 0, 0⟩ : S63) [.int .i64 2, .int .i64 1, .int .i64 1, .int .i64 2, .int .i64 0, .int .u64 0] from (k63_mkM _ _ _ (⟨(⟨2, 1, 1⟩ : S61), 2, 0, 0⟩ : S63) )) (Reps.none _ _))))
   intro v424 w29 ho30 hb hg_ hnew_
   clear hg_ hnew_
   (first | rw [← Ny423.out] at ho30 | (simp only [Int.reduceToNat] at ho30; rw [← Ny423.out] at ho30))
   have HO425 := Aside0.mk (Kd.R_lower (Kd.R_newB (Kd.R_new' (Kd.R_new' (Kd.R_new' ho30 (Kd.R_lt (rs_ HO395))) (Kd.R_lt (rs_ HO405))) (Kd.R_lt (rs_ HO415))) (g := gb416) (o := .cells #[.int .i64 2, .int .i64 1, .int .i64 1, .int .i64 2, .int .i64 0, .int .u64 0] 63 (0, 0)) (bq_ BK416)) (below_size bh_))
   replace HO395 := Aside0.mk (Kd.R_elder' (rs_ HO395) (Kd.R_base ho30) hb)
   replace HO398 := rb_ HO398 hb
   replace HO403 := rb_ HO403 hb
   replace HO405 := Aside0.mk (Kd.R_elder' (rs_ HO405) (Kd.R_base ho30) hb)
   replace HO408 := rb_ HO408 hb
   replace HO413 := rb_ HO413 hb
   replace HO415 := Aside0.mk (Kd.R_elder' (rs_ HO415) (Kd.R_base ho30) hb)
   replace BK416 := bb_ BK416 hb
   replace HB := bs_ w hb
   clear hb ho30
   obtain ⟨Ao31, co31, eo31⟩ := Kd.R_slice HO425.out
   (first | subst eo31 | (injection eo31 with f1_ f2_ f3_; have f4_ := f1_.symm; have f5_ := f3_.symm; clear f1_ f2_ f3_; subst f4_; subst f5_))
   refine hK.out _ _ (cc6_ BK416) (fun hHeld => ?_)
   clear hK K
   refine nm_ (some 32) ?_
   refine oa_ 3 (some 33) (bl_ 9 15) HT_ fun K hK => ?_
   refine goesB_ Try.func16 #[.slice Ao31 y423.length co31, .int .u64 10, .int .i64 4] ?_
   with_reducible refine (wait_First.calls k _ _ y423 10 4 t426 t427 _ ?side1 ?side2 A5.out).mono ?_
   (case side1 => exact cr_ HO425)
   (case side2 => exact (Kd.R_reads' HO425.out).2.1)
   rintro e w32 ⟨rfl, hb⟩
   refine ⟨_, rfl, ?_⟩
   replace HO395 := rb_ HO395 hb
   replace HO398 := rb_ HO398 hb
   replace HO403 := rb_ HO403 hb
   replace HO405 := rb_ HO405 hb
   replace HO408 := rb_ HO408 hb
   replace HO413 := rb_ HO413 hb
   replace HO415 := rb_ HO415 hb
   replace HO425 := rb_ HO425 hb
   replace BK416 := bb_ BK416 hb
   replace HB := bs_ w hb
   clear hb
   refine hK.out _ _ (cc6_ BK416) (fun hHeld => ?_)
   clear hK K
   refine nm_ (some 33) ?_
   refine pa_ 4 (some 29) (bl_ 9 31) HT_ ?_
   refine pa_ 5 (some 34) (bl_ 9 63) HT_ ?_
   refine pa_ 6 (some 35) (bl_ 9 127) HT_ ?_
   refine pa_ 7 (some 9) (bl_ 9 255) HT_ ?_
   refine pa_ 8 (some 10) (bl_ 9 511) HT_ ?_
   refine done_ (done_of HT_.out (by kernel_rfl)) ?_
   try go_wp2_with (first | ((with_reducible refine gate_dst (N := 40) rfl ?_); (try refine ug_ (by rfl) ?_); refine Kd.R_lit (Kd.int .u64) _ 23 ?hg (N := 40) ?hd (xs := ([10, 13, 19] : List Int)) (inner := [.int .u64 10, .int .u64 13, .int .u64 19]) (ok := fun _ => True) (okp := fun _ => True) ?hr ?hp (fun _ hk => hk) trivial (Below.refl _ _) (Nat.le_refl _) (by simp) ?_; (case hd => rfl); (case hg => rfl); (case hr => first | (go_simp; done) | (go_simp; rfl)); (case hp => exact (Reps.one (show Kd.M (Kd.int .u64) _ _ _ 10 [.int .u64 10] from rfl) (Reps.one (show Kd.M (Kd.int .u64) _ _ _ 13 [.int .u64 13] from rfl) (Reps.one (show Kd.M (Kd.int .u64) _ _ _ 19 [.int .u64 19] from rfl) (Reps.none _ _))))); intro v429 w33 ho34 hb hg_ hnew_; clear hg_ hnew_; (first | rw [← Ny428.out] at ho34 | (simp only [Int.reduceToNat] at ho34; rw [← Ny428.out] at ho34)); have HO430 := Aside0.mk (Kd.R_lower (Kd.R_new' (Kd.R_new' ho34 (Kd.R_lt (rs_ HO403))) (Kd.R_lt (rs_ HO413))) (below_size bh_)); replace HO395 := rb_ HO395 hb; replace HO398 := rb_ HO398 hb; replace HO403 := Aside0.mk (Kd.R_elder' (rs_ HO403) (Kd.R_base ho34) hb); replace HO405 := rb_ HO405 hb; replace HO408 := rb_ HO408 hb; replace HO413 := Aside0.mk (Kd.R_elder' (rs_ HO413) (Kd.R_base ho34) hb); replace HO415 := rb_ HO415 hb; replace HO425 := rb_ HO425 hb; replace BK416 := bb_ BK416 hb; replace HB := bs_ w hb; clear hb ho34; obtain ⟨Ao35, co35, eo35⟩ := Kd.R_slice HO403.out; subst eo35; obtain ⟨Ao36, co36, eo36⟩ := Kd.R_slice HO430.out; subst eo36) | (go_at_call 23; (with_reducible refine (spigotref39_Same.calls k _ _ t399 _ _ y428 true _ ?side1 ?side2 ?side3 ?side4 A7.out).mono ?_); (case side1 => exact cr_ HO403); (case side2 => exact (Kd.R_reads' HO403.out).2.1); (case side3 => exact cr_ HO430); (case side4 => exact (Kd.R_reads' HO430.out).2.1); rintro e w' ⟨rfl, ⟨nd, rfl⟩⟩) | ((with_reducible refine gate_dst (N := 49) rfl ?_); (try refine ug_ (by rfl) ?_); refine Kd.R_lit (Kd.int .u64) _ 23 ?hg (N := 49) ?hd (xs := ([0, 13] : List Int)) (inner := [.int .u64 0, .int .u64 13]) (ok := fun _ => True) (okp := fun _ => True) ?hr ?hp (fun _ hk => hk) trivial (Below.refl _ _) (Nat.le_refl _) (by simp) ?_; (case hd => rfl); (case hg => rfl); (case hr => first | (go_simp; done) | (go_simp; rfl)); (case hp => exact (Reps.one (show Kd.M (Kd.int .u64) _ _ _ 0 [.int .u64 0] from rfl) (Reps.one (show Kd.M (Kd.int .u64) _ _ _ 13 [.int .u64 13] from rfl) (Reps.none _ _)))); intro v433 w37 ho38 hb hg_ hnew_; clear hg_ hnew_; (first | rw [← Ny432.out] at ho38 | (simp only [Int.reduceToNat] at ho38; rw [← Ny432.out] at ho38)); have HO434 := Aside0.mk (Kd.R_lower (Kd.R_new' (Kd.R_new' (Kd.R_new' ho38 (Kd.R_lt (rs_ HO403))) (Kd.R_lt (rs_ HO413))) (Kd.R_lt (rs_ HO430))) (below_size bh_)); replace HO395 := rb_ HO395 hb; replace HO398 := rb_ HO398 hb; replace HO403 := Aside0.mk (Kd.R_elder' (rs_ HO403) (Kd.R_base ho38) hb); replace HO405 := rb_ HO405 hb; replace HO408 := rb_ HO408 hb; replace HO413 := Aside0.mk (Kd.R_elder' (rs_ HO413) (Kd.R_base ho38) hb); replace HO415 := rb_ HO415 hb; replace HO425 := rb_ HO425 hb; replace HO430 := Aside0.mk (Kd.R_elder' (rs_ HO430) (Kd.R_base ho38) hb); replace BK416 := bb_ BK416 hb; replace HB := bs_ w hb; clear hb ho38; obtain ⟨Ao39, co39, eo39⟩ := Kd.R_slice HO413.out; subst eo39; obtain ⟨Ao40, co40, eo40⟩ := Kd.R_slice HO434.out; subst eo40) | (go_at_call 23; (with_reducible refine (spigotref39_Same.calls k _ _ t409 _ _ y432 true _ ?side1 ?side2 ?side3 ?side4 A10.out).mono ?_); (case side1 => exact cr_ HO413); (case side2 => exact (Kd.R_reads' HO413.out).2.1); (case side3 => exact cr_ HO434); (case side4 => exact (Kd.R_reads' HO434.out).2.1); rintro e w' ⟨rfl, ⟨nd, rfl⟩⟩))
   go_ret
   exact fi_
  ·replace c11 := Bool.eq_false_iff.mpr c11
   subst c11
   replace H : (none) = some r := by rw [if_neg (show ¬ (false = true) by decide)] at H; exact H
   exact absurd H (by simp)
 ·replace c8 := Bool.eq_false_iff.mpr c8
  subst c8
  replace H : (none) = some r := by rw [if_neg (show ¬ (false = true) by decide)] at H; exact H
  exact absurd H (by simp)

/-! ### spigotlaw39_fit: function 14 -/
def spigotlaw39_fit.f (k : Nat) (l0 : List (S63)) (l1 : List Int) : Option (Bool) := (spigotref39_Great.f l0 l1).bind fun t436 => (if t436 = true then (some false) else ((spigotref39_Both.f k l0 l1).bind fun t437 => (some (t437 == 0))))
theorem spigotlaw39_fit.mono : ∀ a0 a1 k, LeO (spigotlaw39_fit.f k a0 a1) (spigotlaw39_fit.f (k + 1) a0 a1) := by
  intro a0 a1 k
  unfold spigotlaw39_fit.f
  repeat' first
      | (with_reducible exact spigotref39_Both.mono _ _ _)
      | (with_reducible exact LeO.refl _)
      | (with_reducible exact LeO.none _)
      | (with_reducible refine LeO.ite ?_ ?_)
      | (with_reducible refine LeO.bind ?_ (fun _ => ?_))
      | exact spigotref39_Both.mono _ _ _
      | exact LeO.none _
      | refine LeO.ite ?_ ?_
      | refine LeO.bind ?_ (fun _ => ?_)
set_option maxHeartbeats 8000000 in
set_option maxRecDepth 100000 in
theorem spigotlaw39_fit.calls (k : Nat) (A0 : Option Addr) (c0 : Nat) (l0 : List (S63)) (A1 : Option Addr) (c1 : Nat) (l1 : List Int) (r : Bool) (w : World) (hr0 : Kd.C k63 w A0 l0.length l0) (hc0 : l0.length ≤ c0) (hr1 : Kd.C (Kd.int .i64) w A1 l1.length l1) (hc1 : l1.length ≤ c1) (h : spigotlaw39_fit.f k l0 l1 = some r) :
  Calls Try.prog 14 #[.slice A0 l0.length c0, .slice A1 l1.length c1] w fun e w' => e = .returned (.bool r) ∧ Below w.heap.size w w' := by
 have HR0 := Aside0.mk hr0
 have HC0 := Aside0.mk hc0
 clear hr0 hc0
 have HR1 := Aside0.mk hr1
 have HC1 := Aside0.mk hc1
 clear hr1 hc1
 have HB := Aside0.mk (Below.refl w.heap.size w)
 have H : ((spigotref39_Great.f l0 l1).bind fun t436 => (if t436 = true then (some false) else ((spigotref39_Both.f k l0 l1).bind fun t437 => (some (t437 == 0))))) = some r := h
 clear h
 have H0_ := bo_ H; clear H; obtain ⟨t436, A3, H⟩ := H0_
 replace H : (if t436 = true then (some false) else ((spigotref39_Both.f k l0 l1).bind fun t437 => (some (t437 == 0)))) = some r := H
 by_cases c4 : t436 = true
 ·subst c4
  replace H : (some false) = some r := by rw [if_pos rfl] at H; exact H
  obtain rfl := Option.some.inj H
  go_enter Try.func14, Try.ntmps14
  go_wp2_with (first | ((with_reducible refine gate_callee (f := 10) rfl ?_); (try refine ug_ (by rfl) ?_); refine goesA_ (some 7) Try.func10 #[.slice A0 l0.length c0, .slice A1 l1.length c1] ?_; (with_reducible refine (spigotref39_Great.calls _ _ l0 _ _ l1 true _ ?side1 ?side2 ?side3 ?side4 A3.out).mono ?_); (case side1 => exact ch_ HR0); (case side2 => exact HC0.out); (case side3 => exact ch_ HR1); (case side4 => exact HC1.out); rintro e w' ⟨rfl, ⟨nd, rfl⟩⟩; refine ⟨_, rfl, ?_⟩))
  go_ret
  exact fi_
 ·replace c4 := Bool.eq_false_iff.mpr c4
  subst c4
  rw [if_neg (show ¬ (false = true) by decide)] at H
  try dsimp only at H
  have H0_ := bo_ H; clear H; obtain ⟨t437, A5, H⟩ := H0_
  replace H : (some (t437 == 0)) = some r := H
  obtain rfl := Option.some.inj H
  go_enter Try.func14, Try.ntmps14
  go_wp2_with (first | ((with_reducible refine gate_callee (f := 10) rfl ?_); (try refine ug_ (by rfl) ?_); refine goesA_ (some 7) Try.func10 #[.slice A0 l0.length c0, .slice A1 l1.length c1] ?_; (with_reducible refine (spigotref39_Great.calls _ _ l0 _ _ l1 false _ ?side1 ?side2 ?side3 ?side4 A3.out).mono ?_); (case side1 => exact ch_ HR0); (case side2 => exact HC0.out); (case side3 => exact ch_ HR1); (case side4 => exact HC1.out); rintro e w' ⟨rfl, ⟨nd, rfl⟩⟩; refine ⟨_, rfl, ?_⟩) | (go_at_call 33; (with_reducible refine (spigotref39_Both.calls k _ _ l0 _ _ l1 t437 _ ?side1 ?side2 ?side3 ?side4 A5.out).mono ?_); (case side1 => exact ch_ HR0); (case side2 => exact HC0.out); (case side3 => exact ch_ HR1); (case side4 => exact HC1.out); rintro e w6 ⟨rfl, hb⟩; replace HB := bs_ w hb; clear hb))
  go_ret
  exact fi_

end Go.Proofs.Ytfdpcnkghmmobaa.X
