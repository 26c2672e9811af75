-- written by xprint.py, a program of this session over the kit's print
import Derived.Test.YtaegpnbgppjicaaX0
import Derived.Test.YtaegpnbgppjicaaX16
import Derived.Test.YtaegpnbgppjicaaX21
import Derived.Test.YtaegpnbgppjicaaX22
namespace Go.Proofs.Ytaegpnbgppjicaa.X
open Go.RowKit Go.Proofs.YtaegpnbgppjicaaW.PrintWords Go.Proofs.YtaegpnbgppjicaaW.PrintLast Go.Proofs.YtaegpnbgppjicaaW.PrintMore
attribute [local go_sem] max2_int min2_int max_two min_two max_three min_three max_four min_four   -- for this text's walks alone
set_option linter.unusedVariables false
set_option linter.unusedSimpArgs false

/-! ### spigotref04_Refill: function 21 -/
def spigotref04_Refill.f (k : Nat) (l0 : List (S37)) (a1 : Int) : Option ((List (S37)) × Int) := (spigotref04_Check.f k l0).bind fun t410 => (if t410 = 0 then ((spigotref04_Filled.f k l0 a1).bind fun t411 => (some (t411, 0))) else ((spigotref04_Check.f k l0).bind fun t414 => (some (([] : List (S37)), t414))))
theorem spigotref04_Refill.mono : ∀ a0 a1 k, LeO (spigotref04_Refill.f k a0 a1) (spigotref04_Refill.f (k + 1) a0 a1) := by
  intro a0 a1 k
  unfold spigotref04_Refill.f
  repeat' first
      | (with_reducible exact spigotref04_Check.mono _ _)
      | (with_reducible exact spigotref04_Filled.mono _ _ _)
      | (with_reducible exact LeO.refl _)
      | (with_reducible exact LeO.none _)
      | (with_reducible refine LeO.ite ?_ ?_)
      | (with_reducible refine LeO.bind ?_ (fun _ => ?_))
      | exact spigotref04_Check.mono _ _
      | exact spigotref04_Filled.mono _ _ _
      | exact LeO.none _
      | refine LeO.ite ?_ ?_
      | refine LeO.bind ?_ (fun _ => ?_)
set_option maxHeartbeats 8000000 in
set_option maxRecDepth 100000 in
theorem spigotref04_Refill.calls (k : Nat) (A0 : Option Addr) (c0 : Nat) (l0 : List (S37)) (a1 : Int) (r1 : List (S37)) (r2 : Int) (w : World) (hr0 : Kd.C k37 w A0 l0.length l0) (hc0 : l0.length ≤ c0) (h : spigotref04_Refill.f k l0 a1 = some (r1, r2)) :
  Calls Try.prog 21 #[.slice A0 l0.length c0, .int .u64 a1] w fun e w' => ∃ v0_ : Value, e = .returned (.tuple #[v0_, .int .i64 r2]) ∧ Kd.R k37 37 w' w.heap.size (fun _ => True) v0_ r1 ∧ Below w.heap.size w w' := by
 have HR0 := Aside0.mk hr0
 have HC0 := Aside0.mk hc0
 clear hr0 hc0
 have HB := Aside0.mk (Below.refl w.heap.size w)
 have H : ((spigotref04_Check.f k l0).bind fun t410 => (if t410 = 0 then ((spigotref04_Filled.f k l0 a1).bind fun t411 => (some (t411, 0))) else ((spigotref04_Check.f k l0).bind fun t414 => (some (([] : List (S37)), t414))))) = some (r1, r2) := h
 clear h
 have H0_ := bo_ H; clear H; obtain ⟨t410, A3, H⟩ := H0_
 try dsimp only at H
 by_cases c4 : t410 = 0
 ·rw [if_pos c4] at H
  have c4b0 : (t410 == 0) = true := beq_iff_eq.mpr c4
  have c4b1 : (t410 != 0) = false := bne_eq_false_iff_eq.mpr c4
  clear c4
  have H0_ := bo_ H; clear H; obtain ⟨t411, A5, H⟩ := H0_
  replace H : (some (t411, 0)) = some (r1, r2) := H
  simp only [Option.some.injEq, Prod.mk.injEq] at H
  obtain ⟨rfl, rfl⟩ := H
  go_enter Try.func21, Try.ntmps21
  go_wp2_with (first | ((with_reducible refine gate_callee (f := 27) rfl ?_); refine goesA_ (some 7) Try.func27 #[.slice A0 l0.length c0] ?_; (with_reducible refine (spigotref04_Check.calls k _ _ l0 t410 _ ?side1 ?side2 A3.out).mono ?_); (case side1 => exact ch_ HR0); (case side2 => exact HC0.out); rintro e w6 ⟨rfl, hb⟩; refine ⟨_, rfl, ?_⟩; replace HB := bs_ w hb; clear hb) | ((with_reducible refine gate_callee (f := 40) rfl ?_); refine goesA_ (some 13) Try.func40 #[.slice A0 l0.length c0, .int .u64 a1] ?_; (with_reducible refine (spigotref04_Filled.calls k _ _ l0 a1 t411 _ ?side1 ?side2 A5.out).mono ?_); (case side1 => exact cs_ HR0 HB); (case side2 => exact HC0.out); rintro e w7 ⟨v412, rfl, ho0, hb⟩; refine ⟨_, rfl, ?_⟩; have HO413 := Aside0.mk (Kd.R_lower ho0 (below_size (hq_ HB))); replace HB := bs_ w hb; clear hb; (try clear ho0)))
  go_ret2
  exact ⟨_, by first | rfl | (simp [errW_none, errW_some] <;> rfl) | (simp [*, errW_none, errW_some] <;> rfl), by (with_reducible repeat (first | apply Kd.R_alloc | apply Kd.R_drewN | apply Kd.R_drew)); exact HO413.out, by repeat (first | (with_reducible first | exact HB.out | apply below_alloc | apply pw_below_drewN | apply below_drew1) | exact HB.out)⟩
 ·rw [if_neg c4] at H
  have c4b0 : (t410 == 0) = false := beq_eq_false_iff_ne.mpr c4
  have c4b1 : (t410 != 0) = true := bne_iff_ne.mpr c4
  have H0_ := bo_ H; clear H; obtain ⟨t414, A8, H⟩ := H0_
  replace H : (some (([] : List (S37)), t414)) = some (r1, r2) := H
  simp only [Option.some.injEq, Prod.mk.injEq] at H
  obtain ⟨rfl, rfl⟩ := H
  go_enter Try.func21, Try.ntmps21
  go_wp2_with (first | ((with_reducible refine gate_callee (f := 27) rfl ?_); refine goesA_ (some 7) Try.func27 #[.slice A0 l0.length c0] ?_; (with_reducible refine (spigotref04_Check.calls k _ _ l0 t410 _ ?side1 ?side2 A3.out).mono ?_); (case side1 => exact ch_ HR0); (case side2 => exact HC0.out); rintro e w9 ⟨rfl, hb⟩; refine ⟨_, rfl, ?_⟩; replace HB := bs_ w hb; clear hb) | ((with_reducible refine gate_callee (f := 27) rfl ?_); refine goesA_ (some 10) Try.func27 #[.slice A0 l0.length c0] ?_; (with_reducible refine (spigotref04_Check.calls k _ _ l0 t414 _ ?side1 ?side2 A8.out).mono ?_); (case side1 => exact cs_ HR0 HB); (case side2 => exact HC0.out); rintro e w10 ⟨rfl, hb⟩; refine ⟨_, rfl, ?_⟩; replace HB := bs_ w hb; clear hb))
  go_ret2
  exact ⟨_, by first | rfl | (simp [errW_none, errW_some] <;> rfl) | (simp [*, errW_none, errW_some] <;> rfl), by first | exact Kd.R_nil _ _ _ _ _ | exact Kd.N_nil _ _ _ _ _ | exact Kd.V_nil _ _ _ _ _ | exact Kd.Q_nil _ _ _ _ _ | exact Kd.S_nil _ _ _ _ _, by repeat (first | (with_reducible first | exact HB.out | apply below_alloc | apply pw_below_drewN | apply below_drew1) | exact HB.out)⟩

/-! ### spigotref04_asked: function 41 -/
def spigotref04_asked.f (k : Nat) (l0 : List (S37)) (a1 : Int) : Option (Int) := (spigotref04_Check.f k l0).bind fun t415 => (if t415 = 0 then (if a1 < 0 then (some 2) else (some 0)) else ((spigotref04_Check.f k l0).bind fun t416 => (some t416)))
theorem spigotref04_asked.mono : ∀ a0 a1 k, LeO (spigotref04_asked.f k a0 a1) (spigotref04_asked.f (k + 1) a0 a1) := by
  intro a0 a1 k
  unfold spigotref04_asked.f
  repeat' first
      | (with_reducible exact spigotref04_Check.mono _ _)
      | (with_reducible exact LeO.refl _)
      | (with_reducible exact LeO.none _)
      | (with_reducible refine LeO.ite ?_ ?_)
      | (with_reducible refine LeO.bind ?_ (fun _ => ?_))
      | exact spigotref04_Check.mono _ _
      | exact LeO.none _
      | refine LeO.ite ?_ ?_
      | refine LeO.bind ?_ (fun _ => ?_)
set_option maxHeartbeats 8000000 in
set_option maxRecDepth 100000 in
theorem spigotref04_asked.calls (k : Nat) (A0 : Option Addr) (c0 : Nat) (l0 : List (S37)) (a1 : Int) (r : Int) (w : World) (hr0 : Kd.C k37 w A0 l0.length l0) (hc0 : l0.length ≤ c0) (h : spigotref04_asked.f k l0 a1 = some r) :
  Calls Try.prog 41 #[.slice A0 l0.length c0, .int .i64 a1] w fun e w' => e = .returned (.int .i64 r) ∧ Below w.heap.size w w' := by
 have HR0 := Aside0.mk hr0
 have HC0 := Aside0.mk hc0
 clear hr0 hc0
 have HB := Aside0.mk (Below.refl w.heap.size w)
 have H : ((spigotref04_Check.f k l0).bind fun t415 => (if t415 = 0 then (if a1 < 0 then (some 2) else (some 0)) else ((spigotref04_Check.f k l0).bind fun t416 => (some t416)))) = some r := h
 clear h
 have H0_ := bo_ H; clear H; obtain ⟨t415, A3, H⟩ := H0_
 replace H : (if t415 = 0 then (if a1 < 0 then (some 2) else (some 0)) else ((spigotref04_Check.f k l0).bind fun t416 => (some t416))) = some r := H
 by_cases c4 : t415 = 0
 ·rw [if_pos c4] at H
  have c4b0 : (t415 == 0) = true := beq_iff_eq.mpr c4
  have c4b1 : (t415 != 0) = false := bne_eq_false_iff_eq.mpr c4
  clear c4
  by_cases c5 : a1 < 0
  ·rw [if_pos c5] at H
   have c5b0 : decide (a1 < 0) = true := decide_eq_true c5
   clear c5
   obtain rfl := Option.some.inj H
   go_enter Try.func41, Try.ntmps41
   go_wp2_with (first | ((with_reducible refine gate_callee (f := 27) rfl ?_); refine goesA_ (some 6) Try.func27 #[.slice A0 l0.length c0] ?_; (with_reducible refine (spigotref04_Check.calls k _ _ l0 t415 _ ?side1 ?side2 A3.out).mono ?_); (case side1 => exact ch_ HR0); (case side2 => exact HC0.out); rintro e w6 ⟨rfl, hb⟩; refine ⟨_, rfl, ?_⟩; replace HB := bs_ w hb; clear hb))
   go_ret
   exact fi_
  ·rw [if_neg c5] at H
   have c5b0 : decide (a1 < 0) = false := decide_eq_false c5
   clear c5
   obtain rfl := Option.some.inj H
   go_enter Try.func41, Try.ntmps41
   go_wp2_with (first | ((with_reducible refine gate_callee (f := 27) rfl ?_); refine goesA_ (some 6) Try.func27 #[.slice A0 l0.length c0] ?_; (with_reducible refine (spigotref04_Check.calls k _ _ l0 t415 _ ?side1 ?side2 A3.out).mono ?_); (case side1 => exact ch_ HR0); (case side2 => exact HC0.out); rintro e w7 ⟨rfl, hb⟩; refine ⟨_, rfl, ?_⟩; replace HB := bs_ w hb; clear hb))
   go_ret
   exact fi_
 ·rw [if_neg c4] at H
  have c4b0 : (t415 == 0) = false := beq_eq_false_iff_ne.mpr c4
  have c4b1 : (t415 != 0) = true := bne_iff_ne.mpr c4
  have H0_ := bo_ H; clear H; obtain ⟨t416, A8, H⟩ := H0_
  replace H : (some t416) = some r := H
  obtain rfl := Option.some.inj H
  go_enter Try.func41, Try.ntmps41
  go_wp2_with (first | ((with_reducible refine gate_callee (f := 27) rfl ?_); refine goesA_ (some 6) Try.func27 #[.slice A0 l0.length c0] ?_; (with_reducible refine (spigotref04_Check.calls k _ _ l0 t415 _ ?side1 ?side2 A3.out).mono ?_); (case side1 => exact ch_ HR0); (case side2 => exact HC0.out); rintro e w9 ⟨rfl, hb⟩; refine ⟨_, rfl, ?_⟩; replace HB := bs_ w hb; clear hb) | ((with_reducible refine gate_callee (f := 27) rfl ?_); refine goesA_ (some 9) Try.func27 #[.slice A0 l0.length c0] ?_; (with_reducible refine (spigotref04_Check.calls k _ _ l0 t416 _ ?side1 ?side2 A8.out).mono ?_); (case side1 => exact cs_ HR0 HB); (case side2 => exact HC0.out); rintro e w10 ⟨rfl, hb⟩; refine ⟨_, rfl, ?_⟩; replace HB := bs_ w hb; clear hb))
  go_ret
  exact fi_

/-! ### spigotref04_Holds: function 22 -/
def spigotref04_Holds.f (k : Nat) (l0 : List (S37)) (a1 : Int) : Option (Bool × Int) := (spigotref04_asked.f k l0 a1).bind fun t417 => (if t417 = 0 then ((spigotref04_Least.f k l0).bind fun t418 => (some (decide (t418 ≥ a1), 0))) else ((spigotref04_asked.f k l0 a1).bind fun t419 => (some (false, t419))))
theorem spigotref04_Holds.mono : ∀ a0 a1 k, LeO (spigotref04_Holds.f k a0 a1) (spigotref04_Holds.f (k + 1) a0 a1) := by
  intro a0 a1 k
  unfold spigotref04_Holds.f
  repeat' first
      | (with_reducible exact spigotref04_Least.mono _ _)
      | (with_reducible exact spigotref04_asked.mono _ _ _)
      | (with_reducible exact LeO.refl _)
      | (with_reducible exact LeO.none _)
      | (with_reducible refine LeO.ite ?_ ?_)
      | (with_reducible refine LeO.bind ?_ (fun _ => ?_))
      | exact spigotref04_Least.mono _ _
      | exact spigotref04_asked.mono _ _ _
      | exact LeO.none _
      | refine LeO.ite ?_ ?_
      | refine LeO.bind ?_ (fun _ => ?_)
set_option maxHeartbeats 8000000 in
set_option maxRecDepth 100000 in
theorem spigotref04_Holds.calls (k : Nat) (A0 : Option Addr) (c0 : Nat) (l0 : List (S37)) (a1 : Int) (r1 : Bool) (r2 : Int) (w : World) (hr0 : Kd.C k37 w A0 l0.length l0) (hc0 : l0.length ≤ c0) (h : spigotref04_Holds.f k l0 a1 = some (r1, r2)) :
  Calls Try.prog 22 #[.slice A0 l0.length c0, .int .i64 a1] w fun e w' => e = .returned (.tuple #[.bool r1, .int .i64 r2]) ∧ Below w.heap.size w w' := by
 have HR0 := Aside0.mk hr0
 have HC0 := Aside0.mk hc0
 clear hr0 hc0
 have HB := Aside0.mk (Below.refl w.heap.size w)
 have H : ((spigotref04_asked.f k l0 a1).bind fun t417 => (if t417 = 0 then ((spigotref04_Least.f k l0).bind fun t418 => (some (decide (t418 ≥ a1), 0))) else ((spigotref04_asked.f k l0 a1).bind fun t419 => (some (false, t419))))) = some (r1, r2) := h
 clear h
 have H0_ := bo_ H; clear H; obtain ⟨t417, A3, H⟩ := H0_
 try dsimp only at H
 by_cases c4 : t417 = 0
 ·rw [if_pos c4] at H
  have c4b0 : (t417 == 0) = true := beq_iff_eq.mpr c4
  have c4b1 : (t417 != 0) = false := bne_eq_false_iff_eq.mpr c4
  clear c4
  have H0_ := bo_ H; clear H; obtain ⟨t418, A5, H⟩ := H0_
  replace H : (some (decide (t418 ≥ a1), 0)) = some (r1, r2) := H
  simp only [Option.some.injEq, Prod.mk.injEq] at H
  obtain ⟨rfl, rfl⟩ := H
  go_enter Try.func22, Try.ntmps22
  go_wp2_with (first | ((with_reducible refine gate_callee (f := 41) rfl ?_); refine goesA_ (some 8) Try.func41 #[.slice A0 l0.length c0, .int .i64 a1] ?_; (with_reducible refine (spigotref04_asked.calls k _ _ l0 a1 t417 _ ?side1 ?side2 A3.out).mono ?_); (case side1 => exact ch_ HR0); (case side2 => exact HC0.out); rintro e w6 ⟨rfl, hb⟩; refine ⟨_, rfl, ?_⟩; replace HB := bs_ w hb; clear hb) | ((with_reducible refine gate_callee (f := 42) rfl ?_); refine goesA_ (some 14) Try.func42 #[.slice A0 l0.length c0] ?_; (with_reducible refine (spigotref04_Least.calls k _ _ l0 t418 _ ?side1 ?side2 A5.out).mono ?_); (case side1 => exact cs_ HR0 HB); (case side2 => exact HC0.out); rintro e w7 ⟨rfl, hb⟩; refine ⟨_, rfl, ?_⟩; replace HB := bs_ w hb; clear hb))
  go_ret2
  exact fi_
 ·rw [if_neg c4] at H
  have c4b0 : (t417 == 0) = false := beq_eq_false_iff_ne.mpr c4
  have c4b1 : (t417 != 0) = true := bne_iff_ne.mpr c4
  have H0_ := bo_ H; clear H; obtain ⟨t419, A8, H⟩ := H0_
  replace H : (some (false, t419)) = some (r1, r2) := H
  simp only [Option.some.injEq, Prod.mk.injEq] at H
  obtain ⟨rfl, rfl⟩ := H
  go_enter Try.func22, Try.ntmps22
  go_wp2_with (first | ((with_reducible refine gate_callee (f := 41) rfl ?_); refine goesA_ (some 8) Try.func41 #[.slice A0 l0.length c0, .int .i64 a1] ?_; (with_reducible refine (spigotref04_asked.calls k _ _ l0 a1 t417 _ ?side1 ?side2 A3.out).mono ?_); (case side1 => exact ch_ HR0); (case side2 => exact HC0.out); rintro e w9 ⟨rfl, hb⟩; refine ⟨_, rfl, ?_⟩; replace HB := bs_ w hb; clear hb) | ((with_reducible refine gate_callee (f := 41) rfl ?_); refine goesA_ (some 12) Try.func41 #[.slice A0 l0.length c0, .int .i64 a1] ?_; (with_reducible refine (spigotref04_asked.calls k _ _ l0 a1 t419 _ ?side1 ?side2 A8.out).mono ?_); (case side1 => exact cs_ HR0 HB); (case side2 => exact HC0.out); rintro e w10 ⟨rfl, hb⟩; refine ⟨_, rfl, ?_⟩; replace HB := bs_ w hb; clear hb))
  go_ret2
  exact fi_

/-! ### spigotref04_Take: function 24 -/
def spigotref04_Take.f (k : Nat) (l0 : List (S37)) (a1 : Int) (a2 : Int) : Option ((List (S37)) × Bool × Int) := (spigotref04_asked.f k l0 a2).bind fun t420 => (if t420 = 0 then ((spigotref04_taken.f k l0 a1 a2).bind fun bt421 => (some (bt421.1, bt421.2, 0))) else ((spigotref04_asked.f k l0 a2).bind fun t425 => (some (([] : List (S37)), false, t425))))
theorem spigotref04_Take.mono : ∀ a0 a1 a2 k, LeO (spigotref04_Take.f k a0 a1 a2) (spigotref04_Take.f (k + 1) a0 a1 a2) := by
  intro a0 a1 a2 k
  unfold spigotref04_Take.f
  repeat' first
      | (with_reducible exact spigotref04_asked.mono _ _ _)
      | (with_reducible exact spigotref04_taken.mono _ _ _ _)
      | (with_reducible exact LeO.refl _)
      | (with_reducible exact LeO.none _)
      | (with_reducible refine LeO.ite ?_ ?_)
      | (with_reducible refine LeO.bind ?_ (fun _ => ?_))
      | exact spigotref04_asked.mono _ _ _
      | exact spigotref04_taken.mono _ _ _ _
      | exact LeO.none _
      | refine LeO.ite ?_ ?_
      | refine LeO.bind ?_ (fun _ => ?_)
set_option maxHeartbeats 8000000 in
set_option maxRecDepth 100000 in
theorem spigotref04_Take.calls (k : Nat) (A0 : Option Addr) (c0 : Nat) (l0 : List (S37)) (a1 : Int) (a2 : Int) (r1 : List (S37)) (r2 : Bool) (r3 : Int) (w : World) (hr0 : Kd.C k37 w A0 l0.length l0) (hc0 : l0.length ≤ c0) (h : spigotref04_Take.f k l0 a1 a2 = some (r1, r2, r3)) :
  Calls Try.prog 24 #[.slice A0 l0.length c0, .int .u64 a1, .int .i64 a2] w fun e w' => ∃ v0_ : Value, e = .returned (.tuple #[v0_, .bool r2, .int .i64 r3]) ∧ Kd.R k37 37 w' w.heap.size (fun _ => True) v0_ r1 ∧ Below w.heap.size w w' := by
 have HR0 := Aside0.mk hr0
 have HC0 := Aside0.mk hc0
 clear hr0 hc0
 have HB := Aside0.mk (Below.refl w.heap.size w)
 have H : ((spigotref04_asked.f k l0 a2).bind fun t420 => (if t420 = 0 then ((spigotref04_taken.f k l0 a1 a2).bind fun bt421 => (some (bt421.1, bt421.2, 0))) else ((spigotref04_asked.f k l0 a2).bind fun t425 => (some (([] : List (S37)), false, t425))))) = some (r1, r2, r3) := h
 clear h
 have H0_ := bo_ H; clear H; obtain ⟨t420, A4, H⟩ := H0_
 try dsimp only at H
 by_cases c5 : t420 = 0
 ·rw [if_pos c5] at H
  have c5b0 : (t420 == 0) = true := beq_iff_eq.mpr c5
  have c5b1 : (t420 != 0) = false := bne_eq_false_iff_eq.mpr c5
  clear c5
  have H0_ := bo_ H; clear H; obtain ⟨⟨t421, t422⟩, A6, H⟩ := H0_
  replace H : (some (t421, t422, 0)) = some (r1, r2, r3) := H
  simp only [Option.some.injEq, Prod.mk.injEq] at H
  obtain ⟨rfl, rfl, rfl⟩ := H
  go_enter Try.func24, Try.ntmps24
  go_wp2_with (first | ((with_reducible refine gate_callee (f := 41) rfl ?_); refine goesA_ (some 13) Try.func41 #[.slice A0 l0.length c0, .int .i64 a2] ?_; (with_reducible refine (spigotref04_asked.calls k _ _ l0 a2 t420 _ ?side1 ?side2 A4.out).mono ?_); (case side1 => exact ch_ HR0); (case side2 => exact HC0.out); rintro e w7 ⟨rfl, hb⟩; refine ⟨_, rfl, ?_⟩; replace HB := bs_ w hb; clear hb) | ((with_reducible refine gate_callee (f := 36) rfl ?_); refine goesA_ (some 22) Try.func36 #[.slice A0 l0.length c0, .int .u64 a1, .int .i64 a2] ?_; (with_reducible refine (spigotref04_taken.calls k _ _ l0 a1 a2 t421 t422 _ ?side1 ?side2 A6.out).mono ?_); (case side1 => exact cs_ HR0 HB); (case side2 => exact HC0.out); rintro e w8 ⟨v423, rfl, ho0, hb⟩; refine ⟨_, rfl, ?_⟩; have HO424 := Aside0.mk (Kd.R_lower ho0 (below_size (hq_ HB))); replace HB := bs_ w hb; clear hb; (try clear ho0)))
  go_ret3
  exact ⟨_, by first | rfl | (simp [errW_none, errW_some] <;> rfl) | (simp [*, errW_none, errW_some] <;> rfl), by (with_reducible repeat (first | apply Kd.R_alloc | apply Kd.R_drewN | apply Kd.R_drew)); exact HO424.out, by repeat (first | (with_reducible first | exact HB.out | apply below_alloc | apply pw_below_drewN | apply below_drew1) | exact HB.out)⟩
 ·rw [if_neg c5] at H
  have c5b0 : (t420 == 0) = false := beq_eq_false_iff_ne.mpr c5
  have c5b1 : (t420 != 0) = true := bne_iff_ne.mpr c5
  have H0_ := bo_ H; clear H; obtain ⟨t425, A9, H⟩ := H0_
  replace H : (some (([] : List (S37)), false, t425)) = some (r1, r2, r3) := H
  simp only [Option.some.injEq, Prod.mk.injEq] at H
  obtain ⟨rfl, rfl, rfl⟩ := H
  go_enter Try.func24, Try.ntmps24
  go_wp2_with (first | ((with_reducible refine gate_callee (f := 41) rfl ?_); refine goesA_ (some 13) Try.func41 #[.slice A0 l0.length c0, .int .i64 a2] ?_; (with_reducible refine (spigotref04_asked.calls k _ _ l0 a2 t420 _ ?side1 ?side2 A4.out).mono ?_); (case side1 => exact ch_ HR0); (case side2 => exact HC0.out); rintro e w10 ⟨rfl, hb⟩; refine ⟨_, rfl, ?_⟩; replace HB := bs_ w hb; clear hb) | ((with_reducible refine gate_callee (f := 41) rfl ?_); refine goesA_ (some 17) Try.func41 #[.slice A0 l0.length c0, .int .i64 a2] ?_; (with_reducible refine (spigotref04_asked.calls k _ _ l0 a2 t425 _ ?side1 ?side2 A9.out).mono ?_); (case side1 => exact cs_ HR0 HB); (case side2 => exact HC0.out); rintro e w11 ⟨rfl, hb⟩; refine ⟨_, rfl, ?_⟩; replace HB := bs_ w hb; clear hb))
  go_ret3
  exact ⟨_, by first | rfl | (simp [errW_none, errW_some] <;> rfl) | (simp [*, errW_none, errW_some] <;> rfl), by first | exact Kd.R_nil _ _ _ _ _ | exact Kd.N_nil _ _ _ _ _ | exact Kd.V_nil _ _ _ _ _ | exact Kd.Q_nil _ _ _ _ _ | exact Kd.S_nil _ _ _ _ _, by repeat (first | (with_reducible first | exact HB.out | apply below_alloc | apply pw_below_drewN | apply below_drew1) | exact HB.out)⟩

end Go.Proofs.Ytaegpnbgppjicaa.X
