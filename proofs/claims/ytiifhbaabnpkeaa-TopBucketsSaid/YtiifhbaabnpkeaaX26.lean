-- written by xprint.py, a program of this session over the kit's print
import Derived.Test.YtiifhbaabnpkeaaX0
import Derived.Test.YtiifhbaabnpkeaaX4
import Derived.Test.YtiifhbaabnpkeaaX11
import Derived.Test.YtiifhbaabnpkeaaX12
namespace Go.Proofs.Ytiifhbaabnpkeaa.X
open Go.RowKit Go.Proofs.YtiifhbaabnpkeaaW.PrintWords Go.Proofs.YtiifhbaabnpkeaaW.PrintLast Go.Proofs.YtiifhbaabnpkeaaW.PrintMore
attribute [local go_sem] max2_int min2_int max_two min_two max_three min_three max_four min_four   -- for this text's walks alone
set_option linter.unusedVariables false
set_option linter.unusedSimpArgs false

/-! ### levels_Holds: function 28 -/
def levels_Holds.f (k : Nat) (l0 : List (S32)) (a1 : Int) : Option (Bool × Int) := (levels_check.f k l0 (([a1] : List Int))).bind fun t332 => (if t332 = 0 then ((levels_holds.f l0 a1).bind fun t333 => (some (t333, 0))) else (some (false, t332)))
theorem levels_Holds.mono : ∀ a0 a1 k, LeO (levels_Holds.f k a0 a1) (levels_Holds.f (k + 1) a0 a1) := by
  intro a0 a1 k
  unfold levels_Holds.f
  repeat' first
      | (with_reducible exact levels_check.mono _ _ _)
      | (with_reducible exact LeO.refl _)
      | (with_reducible exact LeO.none _)
      | (with_reducible refine LeO.ite ?_ ?_)
      | (with_reducible refine LeO.bind ?_ (fun _ => ?_))
      | exact levels_check.mono _ _ _
      | exact LeO.none _
      | refine LeO.ite ?_ ?_
      | refine LeO.bind ?_ (fun _ => ?_)
set_option maxHeartbeats 8000000 in
set_option maxRecDepth 100000 in
theorem levels_Holds.calls (k : Nat) (A0 : Option Addr) (c0 : Nat) (l0 : List (S32)) (a1 : Int) (r1 : Bool) (r2 : Int) (w : World) (hr0 : Kd.C k32 w A0 l0.length l0) (hc0 : l0.length ≤ c0) (h : levels_Holds.f k l0 a1 = some (r1, r2)) :
  Calls Try.prog 28 #[.slice A0 l0.length c0, .int .i64 a1] w fun e w' => e = .returned (.tuple #[.bool r1, .int .i64 r2]) ∧ Below w.heap.size w w' := by
 have HR0 := Aside0.mk hr0
 have HC0 := Aside0.mk hc0
 clear hr0 hc0
 have HB := Aside0.mk (Below.refl w.heap.size w)
 have H : ((levels_check.f k l0 (([a1] : List Int))).bind fun t332 => (if t332 = 0 then ((levels_holds.f l0 a1).bind fun t333 => (some (t333, 0))) else (some (false, t332)))) = some (r1, r2) := h
 clear h
 obtain ⟨y329, hy329⟩ : ∃ y_ : List Int, y_ = (([a1] : List Int)) := ⟨_, rfl⟩
 replace H : ((levels_check.f k l0 y329).bind fun t332 => (if t332 = 0 then ((levels_holds.f l0 a1).bind fun t333 => (some (t333, 0))) else (some (false, t332)))) = some (r1, r2) := by first | (rw [hy329]; with_reducible exact H) | (have H2_ := (Option.bind_some _ _).symm.trans H; rw [hy329]; with_reducible exact H2_) | (have H2_ := (Option.bind_some _ _).symm.trans H; with_reducible exact H2_) | with_reducible exact H | (rw [hy329]; exact H) | exact H
 have Ny329 := Aside0.mk hy329
 clear hy329
 have H0_ := bo_ H; clear H; obtain ⟨t332, A3, H⟩ := H0_
 replace H : (if t332 = 0 then ((levels_holds.f l0 a1).bind fun t333 => (some (t333, 0))) else (some (false, t332))) = some (r1, r2) := H
 by_cases c4 : t332 = 0
 ·rw [if_pos c4] at H
  have c4b0 : (t332 == 0) = true := beq_iff_eq.mpr c4
  have c4b1 : (t332 != 0) = false := bne_eq_false_iff_eq.mpr c4
  clear c4
  have H0_ := bo_ H; clear H; obtain ⟨t333, A5, H⟩ := H0_
  replace H : (some (t333, 0)) = some (r1, r2) := H
  simp only [Option.some.injEq, Prod.mk.injEq] at H
  obtain ⟨rfl, rfl⟩ := H
  go_enter Try.func28, Try.ntmps28
  go_wp2_with (first | ((with_reducible refine gate_dst (N := 9) rfl ?_); refine Kd.R_lit (Kd.int .i64) _ 2 ?hg (N := 9) ?hd (xs := ([a1] : List Int)) (inner := [.int .i64 a1]) (ok := fun _ => True) (okp := fun _ => True) ?hr ?hp (fun _ hk => hk) trivial (Below.refl _ _) (Nat.le_refl _) (by simp) ?_; (case hd => rfl); (case hg => rfl); (case hr => first | (go_simp; done) | (go_simp; rfl)); (case hp => exact (Reps.one (show Kd.M (Kd.int .i64) _ _ _ a1 [.int .i64 a1] from rfl) (Reps.none _ _))); intro v330 w6 ho7 hb hg_ hnew_; clear hg_ hnew_; (first | rw [← Ny329.out] at ho7 | (simp only [Int.reduceToNat] at ho7; rw [← Ny329.out] at ho7)); have HO331 := Aside0.mk (Kd.R_lower ho7 (below_size (hq_ HB))); replace HB := bs_ w hb; clear hb ho7; obtain ⟨Ao8, co8, eo8⟩ := Kd.R_slice HO331.out; subst eo8) | ((with_reducible refine gate_callee (f := 17) rfl ?_); refine goesA_ (some 10) Try.func17 #[.slice A0 l0.length c0, .slice Ao8 y329.length co8] ?_; (with_reducible refine (levels_check.calls k _ _ l0 _ _ y329 t332 _ ?side1 ?side2 ?side3 ?side4 A3.out).mono ?_); (case side1 => exact cs_ HR0 HB); (case side2 => exact HC0.out); (case side3 => exact cr_ HO331); (case side4 => exact (Kd.R_reads' HO331.out).2.1); rintro e w9 ⟨rfl, hb⟩; refine ⟨_, rfl, ?_⟩; replace HO331 := rb_ HO331 hb; replace HB := bs_ w hb; clear hb) | ((with_reducible refine gate_callee (f := 35) rfl ?_); refine goesA_ (some 16) Try.func35 #[.slice A0 l0.length c0, .int .i64 a1] ?_; (with_reducible refine (levels_holds.calls _ _ l0 a1 t333 _ ?side1 ?side2 A5.out).mono ?_); (case side1 => exact cs_ HR0 HB); (case side2 => exact HC0.out); rintro e w10 ⟨rfl, hb⟩; refine ⟨_, rfl, ?_⟩; replace HO331 := rb_ HO331 hb; replace HB := bs_ w hb; clear hb))
  go_ret2
  exact fi_
 ·rw [if_neg c4] at H
  have c4b0 : (t332 == 0) = false := beq_eq_false_iff_ne.mpr c4
  have c4b1 : (t332 != 0) = true := bne_iff_ne.mpr c4
  simp only [Option.some.injEq, Prod.mk.injEq] at H
  obtain ⟨rfl, rfl⟩ := H
  go_enter Try.func28, Try.ntmps28
  go_wp2_with (first | ((with_reducible refine gate_dst (N := 9) rfl ?_); refine Kd.R_lit (Kd.int .i64) _ 2 ?hg (N := 9) ?hd (xs := ([a1] : List Int)) (inner := [.int .i64 a1]) (ok := fun _ => True) (okp := fun _ => True) ?hr ?hp (fun _ hk => hk) trivial (Below.refl _ _) (Nat.le_refl _) (by simp) ?_; (case hd => rfl); (case hg => rfl); (case hr => first | (go_simp; done) | (go_simp; rfl)); (case hp => exact (Reps.one (show Kd.M (Kd.int .i64) _ _ _ a1 [.int .i64 a1] from rfl) (Reps.none _ _))); intro v330 w11 ho12 hb hg_ hnew_; clear hg_ hnew_; (first | rw [← Ny329.out] at ho12 | (simp only [Int.reduceToNat] at ho12; rw [← Ny329.out] at ho12)); have HO331 := Aside0.mk (Kd.R_lower ho12 (below_size (hq_ HB))); replace HB := bs_ w hb; clear hb ho12; obtain ⟨Ao13, co13, eo13⟩ := Kd.R_slice HO331.out; subst eo13) | ((with_reducible refine gate_callee (f := 17) rfl ?_); refine goesA_ (some 10) Try.func17 #[.slice A0 l0.length c0, .slice Ao13 y329.length co13] ?_; (with_reducible refine (levels_check.calls k _ _ l0 _ _ y329 t332 _ ?side1 ?side2 ?side3 ?side4 A3.out).mono ?_); (case side1 => exact cs_ HR0 HB); (case side2 => exact HC0.out); (case side3 => exact cr_ HO331); (case side4 => exact (Kd.R_reads' HO331.out).2.1); rintro e w14 ⟨rfl, hb⟩; refine ⟨_, rfl, ?_⟩; replace HO331 := rb_ HO331 hb; replace HB := bs_ w hb; clear hb))
  go_ret2
  exact fi_

/-! ### levels_Take: function 29 -/
def levels_Take.f (k : Nat) (l0 : List (S32)) (a1 : Int) (a2 : Int) : Option ((List (S32)) × Bool × Int) := (levels_check.f k l0 (([a2] : List Int))).bind fun t337 => (if t337 = 0 then ((levels_take.f k l0 a1 a2).bind fun bt338 => (some (bt338.1, bt338.2, 0))) else (some (([] : List (S32)), false, t337)))
theorem levels_Take.mono : ∀ a0 a1 a2 k, LeO (levels_Take.f k a0 a1 a2) (levels_Take.f (k + 1) a0 a1 a2) := by
  intro a0 a1 a2 k
  unfold levels_Take.f
  repeat' first
      | (with_reducible exact levels_check.mono _ _ _)
      | (with_reducible exact levels_take.mono _ _ _ _)
      | (with_reducible exact LeO.refl _)
      | (with_reducible exact LeO.none _)
      | (with_reducible refine LeO.ite ?_ ?_)
      | (with_reducible refine LeO.bind ?_ (fun _ => ?_))
      | exact levels_check.mono _ _ _
      | exact levels_take.mono _ _ _ _
      | exact LeO.none _
      | refine LeO.ite ?_ ?_
      | refine LeO.bind ?_ (fun _ => ?_)
set_option maxHeartbeats 8000000 in
set_option maxRecDepth 100000 in
theorem levels_Take.calls (k : Nat) (A0 : Option Addr) (c0 : Nat) (l0 : List (S32)) (a1 : Int) (a2 : Int) (r1 : List (S32)) (r2 : Bool) (r3 : Int) (w : World) (hr0 : Kd.C k32 w A0 l0.length l0) (hc0 : l0.length ≤ c0) (h : levels_Take.f k l0 a1 a2 = some (r1, r2, r3)) :
  Calls Try.prog 29 #[.slice A0 l0.length c0, .int .u64 a1, .int .i64 a2] w fun e w' => ∃ v0_ : Value, e = .returned (.tuple #[v0_, .bool r2, .int .i64 r3]) ∧ Kd.R k32 32 w' w.heap.size (fun _ => True) v0_ r1 ∧ Below w.heap.size w w' := by
 have HR0 := Aside0.mk hr0
 have HC0 := Aside0.mk hc0
 clear hr0 hc0
 have HB := Aside0.mk (Below.refl w.heap.size w)
 have H : ((levels_check.f k l0 (([a2] : List Int))).bind fun t337 => (if t337 = 0 then ((levels_take.f k l0 a1 a2).bind fun bt338 => (some (bt338.1, bt338.2, 0))) else (some (([] : List (S32)), false, t337)))) = some (r1, r2, r3) := h
 clear h
 obtain ⟨y334, hy334⟩ : ∃ y_ : List Int, y_ = (([a2] : List Int)) := ⟨_, rfl⟩
 replace H : ((levels_check.f k l0 y334).bind fun t337 => (if t337 = 0 then ((levels_take.f k l0 a1 a2).bind fun bt338 => (some (bt338.1, bt338.2, 0))) else (some (([] : List (S32)), false, t337)))) = some (r1, r2, r3) := by first | (rw [hy334]; with_reducible exact H) | (have H2_ := (Option.bind_some _ _).symm.trans H; rw [hy334]; with_reducible exact H2_) | (have H2_ := (Option.bind_some _ _).symm.trans H; with_reducible exact H2_) | with_reducible exact H | (rw [hy334]; exact H) | exact H
 have Ny334 := Aside0.mk hy334
 clear hy334
 have H0_ := bo_ H; clear H; obtain ⟨t337, A4, H⟩ := H0_
 replace H : (if t337 = 0 then ((levels_take.f k l0 a1 a2).bind fun bt338 => (some (bt338.1, bt338.2, 0))) else (some (([] : List (S32)), false, t337))) = some (r1, r2, r3) := H
 by_cases c5 : t337 = 0
 ·rw [if_pos c5] at H
  have c5b0 : (t337 == 0) = true := beq_iff_eq.mpr c5
  have c5b1 : (t337 != 0) = false := bne_eq_false_iff_eq.mpr c5
  clear c5
  have H0_ := bo_ H; clear H; obtain ⟨⟨t338, t339⟩, A6, H⟩ := H0_
  replace H : (some (t338, t339, 0)) = some (r1, r2, r3) := H
  simp only [Option.some.injEq, Prod.mk.injEq] at H
  obtain ⟨rfl, rfl, rfl⟩ := H
  go_enter Try.func29, Try.ntmps29
  go_wp2_with (first | ((with_reducible refine gate_dst (N := 14) rfl ?_); refine Kd.R_lit (Kd.int .i64) _ 2 ?hg (N := 14) ?hd (xs := ([a2] : List Int)) (inner := [.int .i64 a2]) (ok := fun _ => True) (okp := fun _ => True) ?hr ?hp (fun _ hk => hk) trivial (Below.refl _ _) (Nat.le_refl _) (by simp) ?_; (case hd => rfl); (case hg => rfl); (case hr => first | (go_simp; done) | (go_simp; rfl)); (case hp => exact (Reps.one (show Kd.M (Kd.int .i64) _ _ _ a2 [.int .i64 a2] from rfl) (Reps.none _ _))); intro v335 w7 ho8 hb hg_ hnew_; clear hg_ hnew_; (first | rw [← Ny334.out] at ho8 | (simp only [Int.reduceToNat] at ho8; rw [← Ny334.out] at ho8)); have HO336 := Aside0.mk (Kd.R_lower ho8 (below_size (hq_ HB))); replace HB := bs_ w hb; clear hb ho8; obtain ⟨Ao9, co9, eo9⟩ := Kd.R_slice HO336.out; subst eo9) | ((with_reducible refine gate_callee (f := 17) rfl ?_); refine goesA_ (some 15) Try.func17 #[.slice A0 l0.length c0, .slice Ao9 y334.length co9] ?_; (with_reducible refine (levels_check.calls k _ _ l0 _ _ y334 t337 _ ?side1 ?side2 ?side3 ?side4 A4.out).mono ?_); (case side1 => exact cs_ HR0 HB); (case side2 => exact HC0.out); (case side3 => exact cr_ HO336); (case side4 => exact (Kd.R_reads' HO336.out).2.1); rintro e w10 ⟨rfl, hb⟩; refine ⟨_, rfl, ?_⟩; replace HO336 := rb_ HO336 hb; replace HB := bs_ w hb; clear hb) | ((with_reducible refine gate_callee (f := 19) rfl ?_); refine goesA_ (some 23) Try.func19 #[.slice A0 l0.length c0, .int .u64 a1, .int .i64 a2] ?_; (with_reducible refine (levels_take.calls k _ _ l0 a1 a2 t338 t339 _ ?side1 ?side2 A6.out).mono ?_); (case side1 => exact cs_ HR0 HB); (case side2 => exact HC0.out); rintro e w11 ⟨v340, rfl, ho0, hb⟩; refine ⟨_, rfl, ?_⟩; have HO341 := Aside0.mk (Kd.R_lower ho0 (below_size (hq_ HB))); replace HO336 := rb_ HO336 hb; replace HB := bs_ w hb; (try clear hb); (try clear hb2); (try clear hk); (try clear hi); (try clear ho0)))
  go_ret3
  exact ⟨_, by first | rfl | (simp [errW_none, errW_some] <;> rfl) | (simp [*, errW_none, errW_some] <;> rfl), by (with_reducible repeat (first | apply Kd.R_alloc | apply Kd.R_drewN | apply Kd.R_drew)); exact HO341.out, by repeat (first | (with_reducible first | exact HB.out | apply below_alloc | apply pw_below_drewN | apply below_drew1) | exact HB.out)⟩
 ·rw [if_neg c5] at H
  have c5b0 : (t337 == 0) = false := beq_eq_false_iff_ne.mpr c5
  have c5b1 : (t337 != 0) = true := bne_iff_ne.mpr c5
  simp only [Option.some.injEq, Prod.mk.injEq] at H
  obtain ⟨rfl, rfl, rfl⟩ := H
  go_enter Try.func29, Try.ntmps29
  go_wp2_with (first | ((with_reducible refine gate_dst (N := 14) rfl ?_); refine Kd.R_lit (Kd.int .i64) _ 2 ?hg (N := 14) ?hd (xs := ([a2] : List Int)) (inner := [.int .i64 a2]) (ok := fun _ => True) (okp := fun _ => True) ?hr ?hp (fun _ hk => hk) trivial (Below.refl _ _) (Nat.le_refl _) (by simp) ?_; (case hd => rfl); (case hg => rfl); (case hr => first | (go_simp; done) | (go_simp; rfl)); (case hp => exact (Reps.one (show Kd.M (Kd.int .i64) _ _ _ a2 [.int .i64 a2] from rfl) (Reps.none _ _))); intro v335 w12 ho13 hb hg_ hnew_; clear hg_ hnew_; (first | rw [← Ny334.out] at ho13 | (simp only [Int.reduceToNat] at ho13; rw [← Ny334.out] at ho13)); have HO336 := Aside0.mk (Kd.R_lower ho13 (below_size (hq_ HB))); replace HB := bs_ w hb; clear hb ho13; obtain ⟨Ao14, co14, eo14⟩ := Kd.R_slice HO336.out; subst eo14) | ((with_reducible refine gate_callee (f := 17) rfl ?_); refine goesA_ (some 15) Try.func17 #[.slice A0 l0.length c0, .slice Ao14 y334.length co14] ?_; (with_reducible refine (levels_check.calls k _ _ l0 _ _ y334 t337 _ ?side1 ?side2 ?side3 ?side4 A4.out).mono ?_); (case side1 => exact cs_ HR0 HB); (case side2 => exact HC0.out); (case side3 => exact cr_ HO336); (case side4 => exact (Kd.R_reads' HO336.out).2.1); rintro e w15 ⟨rfl, hb⟩; refine ⟨_, rfl, ?_⟩; replace HO336 := rb_ HO336 hb; replace HB := bs_ w hb; clear hb))
  go_ret3
  exact ⟨_, by first | rfl | (simp [errW_none, errW_some] <;> rfl) | (simp [*, errW_none, errW_some] <;> rfl), by first | exact Kd.R_nil _ _ _ _ _ | exact Kd.N_nil _ _ _ _ _ | exact Kd.V_nil _ _ _ _ _ | exact Kd.Q_nil _ _ _ _ _ | exact Kd.S_nil _ _ _ _ _, by repeat (first | (with_reducible first | exact HB.out | apply below_alloc | apply pw_below_drewN | apply below_drew1) | exact HB.out)⟩

end Go.Proofs.Ytiifhbaabnpkeaa.X
