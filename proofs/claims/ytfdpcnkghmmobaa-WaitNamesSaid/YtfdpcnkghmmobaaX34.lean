-- written by xprint.py, a program of this session over the kit's print
import Derived.Test.YtfdpcnkghmmobaaX0
import Derived.Test.YtfdpcnkghmmobaaX5
import Derived.Test.YtfdpcnkghmmobaaX13
namespace Go.Proofs.Ytfdpcnkghmmobaa.X
open Go.RowKit Go.Proofs.YtfdpcnkghmmobaaW.PrintWords Go.Proofs.YtfdpcnkghmmobaaW.PrintLast Go.Proofs.YtfdpcnkghmmobaaW.PrintMore
attribute [local go_sem] max2_int min2_int max_two min_two max_three min_three max_four min_four   -- for this text's walks alone
set_option linter.unusedVariables false
set_option linter.unusedSimpArgs false

/-! ### levels_Take: function 53 -/
def levels_Take.f (k : Nat) (l0 : List (S63)) (a1 : Int) (a2 : Int) : Option ((List (S63)) × Bool × Int) := (levels_check.f k l0 (([a2] : List Int))).bind fun t357 => (if t357 = 0 then ((levels_take.f k l0 a1 a2).bind fun bt358 => (some (bt358.1, bt358.2, 0))) else (some (([] : List (S63)), false, t357)))
theorem levels_Take.mono : ∀ a0 a1 a2 k, LeO (levels_Take.f k a0 a1 a2) (levels_Take.f (k + 1) a0 a1 a2) := by
  intro a0 a1 a2 k
  unfold levels_Take.f
  repeat' first
      | (with_reducible exact levels_check.mono _ _ _)
      | (with_reducible exact levels_take.mono _ _ _ _)
      | (with_reducible exact LeO.refl _)
      | (with_reducible exact LeO.none _)
      | (with_reducible refine LeO.ite ?_ ?_)
      | (with_reducible refine LeO.bind ?_ (fun _ => ?_))
      | exact levels_check.mono _ _ _
      | exact levels_take.mono _ _ _ _
      | exact LeO.none _
      | refine LeO.ite ?_ ?_
      | refine LeO.bind ?_ (fun _ => ?_)
set_option maxHeartbeats 8000000 in
set_option maxRecDepth 100000 in
theorem levels_Take.calls (k : Nat) (A0 : Option Addr) (c0 : Nat) (l0 : List (S63)) (a1 : Int) (a2 : Int) (r1 : List (S63)) (r2 : Bool) (r3 : Int) (w : World) (hr0 : Kd.C k63 w A0 l0.length l0) (hc0 : l0.length ≤ c0) (h : levels_Take.f k l0 a1 a2 = some (r1, r2, r3)) :
  Calls Try.prog 53 #[.slice A0 l0.length c0, .int .u64 a1, .int .i64 a2] w fun e w' => ∃ v0_ : Value, e = .returned (.tuple #[v0_, .bool r2, .int .i64 r3]) ∧ Kd.R k63 63 w' w.heap.size (fun _ => True) v0_ r1 ∧ Below w.heap.size w w' := by
 have HR0 := Aside0.mk hr0
 have HC0 := Aside0.mk hc0
 clear hr0 hc0
 have HB := Aside0.mk (Below.refl w.heap.size w)
 have H : ((levels_check.f k l0 (([a2] : List Int))).bind fun t357 => (if t357 = 0 then ((levels_take.f k l0 a1 a2).bind fun bt358 => (some (bt358.1, bt358.2, 0))) else (some (([] : List (S63)), false, t357)))) = some (r1, r2, r3) := h
 clear h
 obtain ⟨y354, hy354⟩ : ∃ y_ : List Int, y_ = (([a2] : List Int)) := ⟨_, rfl⟩
 replace H : ((levels_check.f k l0 y354).bind fun t357 => (if t357 = 0 then ((levels_take.f k l0 a1 a2).bind fun bt358 => (some (bt358.1, bt358.2, 0))) else (some (([] : List (S63)), false, t357)))) = some (r1, r2, r3) := by first | (rw [hy354]; with_reducible exact H) | (have H2_ := (Option.bind_some _ _).symm.trans H; rw [hy354]; with_reducible exact H2_) | (have H2_ := (Option.bind_some _ _).symm.trans H; with_reducible exact H2_) | with_reducible exact H | (rw [hy354]; exact H) | exact H
 have Ny354 := Aside0.mk hy354
 clear hy354
 have H0_ := bo_ H; clear H; obtain ⟨t357, A4, H⟩ := H0_
 replace H : (if t357 = 0 then ((levels_take.f k l0 a1 a2).bind fun bt358 => (some (bt358.1, bt358.2, 0))) else (some (([] : List (S63)), false, t357))) = some (r1, r2, r3) := H
 by_cases c5 : t357 = 0
 ·rw [if_pos c5] at H
  have c5b0 : (t357 == 0) = true := beq_iff_eq.mpr c5
  have c5b1 : (t357 != 0) = false := bne_eq_false_iff_eq.mpr c5
  clear c5
  have H0_ := bo_ H; clear H; obtain ⟨⟨t358, t359⟩, A6, H⟩ := H0_
  replace H : (some (t358, t359, 0)) = some (r1, r2, r3) := H
  simp only [Option.some.injEq, Prod.mk.injEq] at H
  obtain ⟨rfl, rfl, rfl⟩ := H
  go_enter Try.func53, Try.ntmps53
  go_wp2_with (first | ((with_reducible refine gate_dst (N := 14) rfl ?_); refine Kd.R_lit (Kd.int .i64) _ 2 ?hg (N := 14) ?hd (xs := ([a2] : List Int)) (inner := [.int .i64 a2]) (ok := fun _ => True) (okp := fun _ => True) ?hr ?hp (fun _ hk => hk) trivial (Below.refl _ _) (Nat.le_refl _) (by simp) ?_; (case hd => rfl); (case hg => rfl); (case hr => first | (go_simp; done) | (go_simp; rfl)); (case hp => exact (Reps.one (show Kd.M (Kd.int .i64) _ _ _ a2 [.int .i64 a2] from rfl) (Reps.none _ _))); intro v355 w7 ho8 hb hg_ hnew_; clear hg_ hnew_; (first | rw [← Ny354.out] at ho8 | (simp only [Int.reduceToNat] at ho8; rw [← Ny354.out] at ho8)); have HO356 := Aside0.mk (Kd.R_lower ho8 (below_size (hq_ HB))); replace HB := bs_ w hb; clear hb ho8; obtain ⟨Ao9, co9, eo9⟩ := Kd.R_slice HO356.out; subst eo9) | ((with_reducible refine gate_callee (f := 42) rfl ?_); refine goesA_ (some 15) Try.func42 #[.slice A0 l0.length c0, .slice Ao9 y354.length co9] ?_; (with_reducible refine (levels_check.calls k _ _ l0 _ _ y354 t357 _ ?side1 ?side2 ?side3 ?side4 A4.out).mono ?_); (case side1 => exact cs_ HR0 HB); (case side2 => exact HC0.out); (case side3 => exact cr_ HO356); (case side4 => exact (Kd.R_reads' HO356.out).2.1); rintro e w10 ⟨rfl, hb⟩; refine ⟨_, rfl, ?_⟩; replace HO356 := rb_ HO356 hb; replace HB := bs_ w hb; clear hb) | ((with_reducible refine gate_callee (f := 46) rfl ?_); refine goesA_ (some 23) Try.func46 #[.slice A0 l0.length c0, .int .u64 a1, .int .i64 a2] ?_; (with_reducible refine (levels_take.calls k _ _ l0 a1 a2 t358 t359 _ ?side1 ?side2 A6.out).mono ?_); (case side1 => exact cs_ HR0 HB); (case side2 => exact HC0.out); rintro e w11 ⟨v360, rfl, ho0, hb⟩; refine ⟨_, rfl, ?_⟩; have HO361 := Aside0.mk (Kd.R_lower ho0 (below_size (hq_ HB))); replace HO356 := rb_ HO356 hb; replace HB := bs_ w hb; (try clear hb); (try clear hb2); (try clear hk); (try clear hi); (try clear ho0)))
  go_ret3
  exact ⟨_, by first | rfl | (simp [errW_none, errW_some] <;> rfl) | (simp [*, errW_none, errW_some] <;> rfl), by (with_reducible repeat (first | apply Kd.R_alloc | apply Kd.R_drewN | apply Kd.R_drew)); exact HO361.out, by repeat (first | (with_reducible first | exact HB.out | apply below_alloc | apply pw_below_drewN | apply below_drew1) | exact HB.out)⟩
 ·rw [if_neg c5] at H
  have c5b0 : (t357 == 0) = false := beq_eq_false_iff_ne.mpr c5
  have c5b1 : (t357 != 0) = true := bne_iff_ne.mpr c5
  simp only [Option.some.injEq, Prod.mk.injEq] at H
  obtain ⟨rfl, rfl, rfl⟩ := H
  go_enter Try.func53, Try.ntmps53
  go_wp2_with (first | ((with_reducible refine gate_dst (N := 14) rfl ?_); refine Kd.R_lit (Kd.int .i64) _ 2 ?hg (N := 14) ?hd (xs := ([a2] : List Int)) (inner := [.int .i64 a2]) (ok := fun _ => True) (okp := fun _ => True) ?hr ?hp (fun _ hk => hk) trivial (Below.refl _ _) (Nat.le_refl _) (by simp) ?_; (case hd => rfl); (case hg => rfl); (case hr => first | (go_simp; done) | (go_simp; rfl)); (case hp => exact (Reps.one (show Kd.M (Kd.int .i64) _ _ _ a2 [.int .i64 a2] from rfl) (Reps.none _ _))); intro v355 w12 ho13 hb hg_ hnew_; clear hg_ hnew_; (first | rw [← Ny354.out] at ho13 | (simp only [Int.reduceToNat] at ho13; rw [← Ny354.out] at ho13)); have HO356 := Aside0.mk (Kd.R_lower ho13 (below_size (hq_ HB))); replace HB := bs_ w hb; clear hb ho13; obtain ⟨Ao14, co14, eo14⟩ := Kd.R_slice HO356.out; subst eo14) | ((with_reducible refine gate_callee (f := 42) rfl ?_); refine goesA_ (some 15) Try.func42 #[.slice A0 l0.length c0, .slice Ao14 y354.length co14] ?_; (with_reducible refine (levels_check.calls k _ _ l0 _ _ y354 t357 _ ?side1 ?side2 ?side3 ?side4 A4.out).mono ?_); (case side1 => exact cs_ HR0 HB); (case side2 => exact HC0.out); (case side3 => exact cr_ HO356); (case side4 => exact (Kd.R_reads' HO356.out).2.1); rintro e w15 ⟨rfl, hb⟩; refine ⟨_, rfl, ?_⟩; replace HO356 := rb_ HO356 hb; replace HB := bs_ w hb; clear hb))
  go_ret3
  exact ⟨_, by first | rfl | (simp [errW_none, errW_some] <;> rfl) | (simp [*, errW_none, errW_some] <;> rfl), by first | exact Kd.R_nil _ _ _ _ _ | exact Kd.N_nil _ _ _ _ _ | exact Kd.V_nil _ _ _ _ _ | exact Kd.Q_nil _ _ _ _ _ | exact Kd.S_nil _ _ _ _ _, by repeat (first | (with_reducible first | exact HB.out | apply below_alloc | apply pw_below_drewN | apply below_drew1) | exact HB.out)⟩

end Go.Proofs.Ytfdpcnkghmmobaa.X
