-- written by xprint.py, a program of this session over the kit's print
import Derived.Test.YtfdpcnkghmmobaaX0
import Derived.Test.YtfdpcnkghmmobaaX1
import Derived.Test.YtfdpcnkghmmobaaX22
import Derived.Test.YtfdpcnkghmmobaaX35
import Derived.Test.YtfdpcnkghmmobaaX42
namespace Go.Proofs.Ytfdpcnkghmmobaa.X
open Go.RowKit Go.Proofs.YtfdpcnkghmmobaaW.PrintWords Go.Proofs.YtfdpcnkghmmobaaW.PrintLast Go.Proofs.YtfdpcnkghmmobaaW.PrintMore
attribute [local go_sem] max2_int min2_int max_two min_two max_three min_three max_four min_four   -- for this text's walks alone
set_option linter.unusedVariables false
set_option linter.unusedSimpArgs false

attribute [local go_sem high] eqA63
/-! ### wait_Many: function 19 -/
def wait_Many.f (k : Nat) (l0 : List (S63)) (a1 : Int) (l2 : List Int) : Option (Int × Int) := (wait_planned.f k l0 a1 l2).bind fun bt550 => (some ((bt550.1.length : Int), bt550.2.2))
theorem wait_Many.mono : ∀ a0 a1 a2 k, LeO (wait_Many.f k a0 a1 a2) (wait_Many.f (k + 1) a0 a1 a2) := by
  intro a0 a1 a2 k
  unfold wait_Many.f
  repeat' first
      | (with_reducible exact wait_planned.mono _ _ _ _)
      | (with_reducible exact LeO.refl _)
      | (with_reducible exact LeO.none _)
      | (with_reducible refine LeO.ite ?_ ?_)
      | (with_reducible refine LeO.bind ?_ (fun _ => ?_))
      | exact wait_planned.mono _ _ _ _
      | exact LeO.none _
      | refine LeO.ite ?_ ?_
      | refine LeO.bind ?_ (fun _ => ?_)
set_option maxHeartbeats 8000000 in
set_option maxRecDepth 100000 in
theorem wait_Many.calls (k : Nat) (A0 : Option Addr) (c0 : Nat) (l0 : List (S63)) (a1 : Int) (A2 : Option Addr) (c2 : Nat) (l2 : List Int) (r1 : Int) (r2 : Int) (w : World) (hr0 : Kd.C k63 w A0 l0.length l0) (hc0 : l0.length ≤ c0) (hr2 : Kd.C (Kd.int .i64) w A2 l2.length l2) (hc2 : l2.length ≤ c2) (h : wait_Many.f k l0 a1 l2 = some (r1, r2)) :
  Calls Try.prog 19 #[.slice A0 l0.length c0, .int .u64 a1, .slice A2 l2.length c2] w fun e w' => e = .returned (.tuple #[.int .i64 r1, .int .i64 r2]) ∧ Below w.heap.size w w' := by
 have HR0 := Aside0.mk hr0
 have HC0 := Aside0.mk hc0
 clear hr0 hc0
 have HR2 := Aside0.mk hr2
 have HC2 := Aside0.mk hc2
 clear hr2 hc2
 have HB := Aside0.mk (Below.refl w.heap.size w)
 have H : ((wait_planned.f k l0 a1 l2).bind fun bt550 => (some ((bt550.1.length : Int), bt550.2.2))) = some (r1, r2) := h
 clear h
 have H0_ := bo_ H; clear H; obtain ⟨⟨t550, t551, t552⟩, A4, H⟩ := H0_
 replace H : (some ((t550.length : Int), t552)) = some (r1, r2) := H
 simp only [Option.some.injEq, Prod.mk.injEq] at H
 obtain ⟨rfl, rfl⟩ := H
 go_enter Try.func19, Try.ntmps19
 go_wp2_with (first | ((with_reducible refine gate_callee (f := 35) rfl ?_); refine goesA_ (some 15) Try.func35 #[.slice A0 l0.length c0, .int .u64 a1, .slice A2 l2.length c2] ?_; (with_reducible refine (wait_planned.calls k _ _ l0 a1 _ _ l2 t550 t551 t552 _ ?side1 ?side2 ?side3 ?side4 A4.out).mono ?_); (case side1 => exact ch_ HR0); (case side2 => exact HC0.out); (case side3 => exact ch_ HR2); (case side4 => exact HC2.out); rintro e w5 ⟨v553, v555, rfl, ho0, ho1, hb⟩; refine ⟨_, rfl, ?_⟩; have HO554 := Aside0.mk (Kd.R_lower ho0 (below_size (hq_ HB))); have HO556 := Aside0.mk (Kd.R_lower ho1 (below_size (hq_ HB))); replace HB := bs_ w hb; clear hb; (try clear ho0); (try clear ho1); obtain ⟨Ao6, co6, eo6⟩ := Kd.R_slice HO554.out; subst eo6))
 go_ret2
 exact fi_

/-! ### spigotref39_Many: function 20 -/
def spigotref39_Many.f (k : Nat) (l0 : List (S63)) (a1 : Int) (l2 : List Int) : Option (Int × Int) := (spigotref39_Both.f k l0 l2).bind fun t557 => (if t557 = 0 then ((spigotref39_planned.f k l0 a1 l2).bind fun bt558 => (some ((bt558.1.length : Int), 0))) else (some (0, t557)))
theorem spigotref39_Many.mono : ∀ a0 a1 a2 k, LeO (spigotref39_Many.f k a0 a1 a2) (spigotref39_Many.f (k + 1) a0 a1 a2) := by
  intro a0 a1 a2 k
  unfold spigotref39_Many.f
  repeat' first
      | (with_reducible exact spigotref39_Both.mono _ _ _)
      | (with_reducible exact spigotref39_planned.mono _ _ _ _)
      | (with_reducible exact LeO.refl _)
      | (with_reducible exact LeO.none _)
      | (with_reducible refine LeO.ite ?_ ?_)
      | (with_reducible refine LeO.bind ?_ (fun _ => ?_))
      | exact spigotref39_Both.mono _ _ _
      | exact spigotref39_planned.mono _ _ _ _
      | exact LeO.none _
      | refine LeO.ite ?_ ?_
      | refine LeO.bind ?_ (fun _ => ?_)
set_option maxHeartbeats 8000000 in
set_option maxRecDepth 100000 in
theorem spigotref39_Many.calls (k : Nat) (A0 : Option Addr) (c0 : Nat) (l0 : List (S63)) (a1 : Int) (A2 : Option Addr) (c2 : Nat) (l2 : List Int) (r1 : Int) (r2 : Int) (w : World) (hr0 : Kd.C k63 w A0 l0.length l0) (hc0 : l0.length ≤ c0) (hr2 : Kd.C (Kd.int .i64) w A2 l2.length l2) (hc2 : l2.length ≤ c2) (h : spigotref39_Many.f k l0 a1 l2 = some (r1, r2)) :
  Calls Try.prog 20 #[.slice A0 l0.length c0, .int .u64 a1, .slice A2 l2.length c2] w fun e w' => e = .returned (.tuple #[.int .i64 r1, .int .i64 r2]) ∧ Below w.heap.size w w' := by
 have HR0 := Aside0.mk hr0
 have HC0 := Aside0.mk hc0
 clear hr0 hc0
 have HR2 := Aside0.mk hr2
 have HC2 := Aside0.mk hc2
 clear hr2 hc2
 have HB := Aside0.mk (Below.refl w.heap.size w)
 have H : ((spigotref39_Both.f k l0 l2).bind fun t557 => (if t557 = 0 then ((spigotref39_planned.f k l0 a1 l2).bind fun bt558 => (some ((bt558.1.length : Int), 0))) else (some (0, t557)))) = some (r1, r2) := h
 clear h
 have H0_ := bo_ H; clear H; obtain ⟨t557, A4, H⟩ := H0_
 replace H : (if t557 = 0 then ((spigotref39_planned.f k l0 a1 l2).bind fun bt558 => (some ((bt558.1.length : Int), 0))) else (some (0, t557))) = some (r1, r2) := H
 by_cases c5 : t557 = 0
 ·rw [if_pos c5] at H
  have c5b0 : (t557 == 0) = true := beq_iff_eq.mpr c5
  have c5b1 : (t557 != 0) = false := bne_eq_false_iff_eq.mpr c5
  clear c5
  have H0_ := bo_ H; clear H; obtain ⟨⟨t558, t559⟩, A6, H⟩ := H0_
  replace H : (some ((t558.length : Int), 0)) = some (r1, r2) := H
  simp only [Option.some.injEq, Prod.mk.injEq] at H
  obtain ⟨rfl, rfl⟩ := H
  go_enter Try.func20, Try.ntmps20
  go_wp2_with (first | ((with_reducible refine gate_callee (f := 33) rfl ?_); refine goesA_ (some 13) Try.func33 #[.slice A0 l0.length c0, .slice A2 l2.length c2] ?_; (with_reducible refine (spigotref39_Both.calls k _ _ l0 _ _ l2 t557 _ ?side1 ?side2 ?side3 ?side4 A4.out).mono ?_); (case side1 => exact ch_ HR0); (case side2 => exact HC0.out); (case side3 => exact ch_ HR2); (case side4 => exact HC2.out); rintro e w7 ⟨rfl, hb⟩; refine ⟨_, rfl, ?_⟩; replace HB := bs_ w hb; clear hb) | ((with_reducible refine gate_callee (f := 39) rfl ?_); refine goesA_ (some 21) Try.func39 #[.slice A0 l0.length c0, .int .u64 a1, .slice A2 l2.length c2] ?_; (with_reducible refine (spigotref39_planned.calls k _ _ l0 a1 _ _ l2 t558 t559 _ ?side1 ?side2 ?side3 ?side4 A6.out).mono ?_); (case side1 => exact cs_ HR0 HB); (case side2 => exact HC0.out); (case side3 => exact cs_ HR2 HB); (case side4 => exact HC2.out); rintro e w8 ⟨v560, v562, rfl, ho0, ho1, hb⟩; refine ⟨_, rfl, ?_⟩; have HO561 := Aside0.mk (Kd.R_lower ho0 (below_size (hq_ HB))); have HO563 := Aside0.mk (Kd.R_lower ho1 (below_size (hq_ HB))); replace HB := bs_ w hb; clear hb; (try clear ho0); (try clear ho1); obtain ⟨Ao9, co9, eo9⟩ := Kd.R_slice HO561.out; subst eo9))
  go_ret2
  exact fi_
 ·rw [if_neg c5] at H
  have c5b0 : (t557 == 0) = false := beq_eq_false_iff_ne.mpr c5
  have c5b1 : (t557 != 0) = true := bne_iff_ne.mpr c5
  simp only [Option.some.injEq, Prod.mk.injEq] at H
  obtain ⟨rfl, rfl⟩ := H
  go_enter Try.func20, Try.ntmps20
  go_wp2_with (first | ((with_reducible refine gate_callee (f := 33) rfl ?_); refine goesA_ (some 13) Try.func33 #[.slice A0 l0.length c0, .slice A2 l2.length c2] ?_; (with_reducible refine (spigotref39_Both.calls k _ _ l0 _ _ l2 t557 _ ?side1 ?side2 ?side3 ?side4 A4.out).mono ?_); (case side1 => exact ch_ HR0); (case side2 => exact HC0.out); (case side3 => exact ch_ HR2); (case side4 => exact HC2.out); rintro e w10 ⟨rfl, hb⟩; refine ⟨_, rfl, ?_⟩; replace HB := bs_ w hb; clear hb))
  go_ret2
  exact fi_

/-! ### spigotref04_Same: function 24 -/
def spigotref04_Same.l0 : Nat → List (S63) → List (S63) → Int → Option (Bool)
  | 0, _, _, _ => none
  | k + 1, x0, x1, x5 => if x5 < (x0.length : Int) then (if 0 ≤ x5 then (if x5 < (x1.length : Int) then (if ((!(((rd_T63 x0 x5).f0.f0) == ((rd_T63 x1 x5).f0.f0)) || (!(((rd_T63 x0 x5).f0.f1) == ((rd_T63 x1 x5).f0.f1)) || (!(((rd_T63 x0 x5).f0.f2) == ((rd_T63 x1 x5).f0.f2))))) || (!(((rd_T63 x0 x5).f1) == ((rd_T63 x1 x5).f1)) || (!(((rd_T63 x0 x5).f2) == ((rd_T63 x1 x5).f2)) || (!(((rd_T63 x0 x5).f3) == ((rd_T63 x1 x5).f3)))))) = true then (some false) else (spigotref04_Same.l0 k x0 x1 (wrap64 (x5 + 1)))) else (none)) else (none)) else (some true)
def spigotref04_Same.f (k : Nat) (l0 : List (S63)) (l1 : List (S63)) : Option (Bool) := if (l0.length : Int) = (l1.length : Int) then (spigotref04_Same.l0 k l0 l1 0) else (some false)
theorem spigotref04_Same.mono_l : ∀ k, (∀ y0 y1 y2, LeO (spigotref04_Same.l0 k y0 y1 y2) (spigotref04_Same.l0 (k + 1) y0 y1 y2))
  | 0 => fun _ _ _ r h => by simp [spigotref04_Same.l0] at h
  | k + 1 => by
    have ih0 := spigotref04_Same.mono_l k
    · intro y0 y1 y2
      unfold spigotref04_Same.l0
      repeat' first
      | (with_reducible exact ih0 _ _ _)
      | (with_reducible exact LeO.refl _)
      | (with_reducible exact LeO.none _)
      | (with_reducible refine LeO.ite ?_ ?_)
      | (with_reducible refine LeO.bind ?_ (fun _ => ?_))
      | exact ih0 _ _ _
      | exact LeO.none _
      | refine LeO.ite ?_ ?_
      | refine LeO.bind ?_ (fun _ => ?_)
theorem spigotref04_Same.mono : ∀ a0 a1 k, LeO (spigotref04_Same.f k a0 a1) (spigotref04_Same.f (k + 1) a0 a1) := by
  intro a0 a1 k
  have ih0 := spigotref04_Same.mono_l k
  unfold spigotref04_Same.f
  repeat' first
      | (with_reducible exact ih0 _ _ _)
      | (with_reducible exact LeO.refl _)
      | (with_reducible exact LeO.none _)
      | (with_reducible refine LeO.ite ?_ ?_)
      | (with_reducible refine LeO.bind ?_ (fun _ => ?_))
      | exact ih0 _ _ _
      | exact LeO.none _
      | refine LeO.ite ?_ ?_
      | refine LeO.bind ?_ (fun _ => ?_)
set_option maxHeartbeats 8000000 in
set_option maxRecDepth 100000 in
theorem spigotref04_Same.calls (k : Nat) (A0 : Option Addr) (c0 : Nat) (l0 : List (S63)) (A1 : Option Addr) (c1 : Nat) (l1 : List (S63)) (r : Bool) (w : World) (hr0 : Kd.C k63 w A0 l0.length l0) (hc0 : l0.length ≤ c0) (hr1 : Kd.C k63 w A1 l1.length l1) (hc1 : l1.length ≤ c1) (h : spigotref04_Same.f k l0 l1 = some r) :
  Calls Try.prog 24 #[.slice A0 l0.length c0, .slice A1 l1.length c1] w fun e w' => e = .returned (.bool r) ∧ Drawn0 w w' := by
 have hu63 := Try.underlying63
 have HR0 := Aside0.mk hr0
 have HC0 := Aside0.mk hc0
 clear hr0 hc0
 have HR1 := Aside0.mk hr1
 have HC1 := Aside0.mk hc1
 clear hr1 hc1
 have H : (if (l0.length : Int) = (l1.length : Int) then (spigotref04_Same.l0 k l0 l1 0) else (some false)) = some r := h
 clear h
 by_cases c3 : (l0.length : Int) = (l1.length : Int)
 ·rw [if_pos c3] at H
  have c3b0 : ((l0.length : Int) == (l1.length : Int)) = true := beq_iff_eq.mpr c3
  have c3b1 : ((l0.length : Int) != (l1.length : Int)) = false := bne_eq_false_iff_eq.mpr c3
  have c3b2 : (l0.length == l1.length) = true := by first | simpa using c3 | (simp at c3 ⊢; omega)
  clear c3
  have H' := Aside0.mk H
  clear H
  go_enter Try.func24, Try.ntmps24
  go_wp2
  repeat (go_quiet (fail); try go_wp2)
  go_loopg [5] k (fun kq v5 w' => ∃ (x5_1 : Int), v5 = .int .i64 x5_1 ∧ Aside0 (spigotref04_Same.l0 kq l0 l1 x5_1 = some r) ∧ Aside0 (kq ≤ k) ∧ Drawn0 w w')
  case atStart => exact ⟨(0), rf_, H', ⟨Nat.le_refl _⟩, by repeat (first | exact Drawn0.refl _ | apply Drawn0.step)⟩
  case round =>
   clear H'
   try clear c1
   try clear c3
   try clear c3b0
   try clear c3b1
   try clear c3b2
   obtain ⟨x5_1, rfl, HA, HK1, ⟨m1, rfl⟩⟩ := hrel
   cases gk with
   | zero => exact absurd HA.out (by simp [spigotref04_Same.l0])
   | succ k1 =>
    have H := HA.out
    clear HA
    simp only [spigotref04_Same.l0] at H
    by_cases c4 : x5_1 < (l0.length : Int)
    ·rw [if_pos c4] at H
     have c4b0 : decide (x5_1 < (l0.length : Int)) = true := decide_eq_true c4
     clear c4
     by_cases c5 : 0 ≤ x5_1
     rotate_left
     ·rw [if_neg c5] at H; exact absurd H (by simp)
     rw [if_pos c5] at H
     have c5b0 : decide (0 ≤ x5_1) = true := decide_eq_true c5
     clear c5
     by_cases c6 : x5_1 < (l1.length : Int)
     rotate_left
     ·rw [if_neg c6] at H; exact absurd H (by simp)
     rw [if_pos c6] at H
     have c6b0 : decide (x5_1 < (l1.length : Int)) = true := decide_eq_true c6
     clear c6
     by_cases c7 : ((!(((rd_T63 l0 x5_1).f0.f0) == ((rd_T63 l1 x5_1).f0.f0)) || (!(((rd_T63 l0 x5_1).f0.f1) == ((rd_T63 l1 x5_1).f0.f1)) || (!(((rd_T63 l0 x5_1).f0.f2) == ((rd_T63 l1 x5_1).f0.f2))))) || (!(((rd_T63 l0 x5_1).f1) == ((rd_T63 l1 x5_1).f1)) || (!(((rd_T63 l0 x5_1).f2) == ((rd_T63 l1 x5_1).f2)) || (!(((rd_T63 l0 x5_1).f3) == ((rd_T63 l1 x5_1).f3)))))) = true
     ·rw [if_pos c7] at H
      have c7b0 : ((!(((rd_T63 l0 x5_1).f0.f0) == ((rd_T63 l1 x5_1).f0.f0)) || (!(((rd_T63 l0 x5_1).f0.f1) == ((rd_T63 l1 x5_1).f0.f1)) || (!(((rd_T63 l0 x5_1).f0.f2) == ((rd_T63 l1 x5_1).f0.f2))))) || (!(((rd_T63 l0 x5_1).f1) == ((rd_T63 l1 x5_1).f1)) || (!(((rd_T63 l0 x5_1).f2) == ((rd_T63 l1 x5_1).f2)) || (!(((rd_T63 l0 x5_1).f3) == ((rd_T63 l1 x5_1).f3)))))) = true := c7
      clear c7
      obtain rfl := Option.some.inj H
      have p564 : 0 ≤ (x5_1 : Int) := of_decide_eq_true (by first | (with_reducible assumption) | assumption)
      have q564 : x5_1 < (l0.length : Int) := of_decide_eq_true (by first | (with_reducible assumption) | assumption)
      obtain ⟨ad564, e564, hx564_0, hx564_1, hx564_2, hx564_3, hx564_4, hx564_5⟩ := at_T63 HR0.out x5_1 p564 q564
      cases e564
      replace p564 := eq_true p564
      replace q564 := eq_true q564
      have p565 : 0 ≤ (x5_1 : Int) := of_decide_eq_true (by first | (with_reducible assumption) | assumption)
      have q565 : x5_1 < (l1.length : Int) := of_decide_eq_true (by first | (with_reducible assumption) | assumption)
      obtain ⟨ad565, e565, hx565_0, hx565_1, hx565_2, hx565_3, hx565_4, hx565_5⟩ := at_T63 HR1.out x5_1 p565 q565
      cases e565
      replace p565 := eq_true p565
      replace q565 := eq_true q565
      go_wp2
      repeat (go_quiet (fail); try go_wp2)
      go_ret
      exact ⟨by first | rfl | (simp; done) | (simp [*]; done), by repeat (first | exact Drawn0.refl _ | apply Drawn0.step)⟩
     ·rw [if_neg c7] at H
      have c7b0 : ((!(((rd_T63 l0 x5_1).f0.f0) == ((rd_T63 l1 x5_1).f0.f0)) || (!(((rd_T63 l0 x5_1).f0.f1) == ((rd_T63 l1 x5_1).f0.f1)) || (!(((rd_T63 l0 x5_1).f0.f2) == ((rd_T63 l1 x5_1).f0.f2))))) || (!(((rd_T63 l0 x5_1).f1) == ((rd_T63 l1 x5_1).f1)) || (!(((rd_T63 l0 x5_1).f2) == ((rd_T63 l1 x5_1).f2)) || (!(((rd_T63 l0 x5_1).f3) == ((rd_T63 l1 x5_1).f3)))))) = false := by simpa using c7
      clear c7
      have H' := Aside0.mk H
      clear H
      have p564 : 0 ≤ (x5_1 : Int) := of_decide_eq_true (by first | (with_reducible assumption) | assumption)
      have q564 : x5_1 < (l0.length : Int) := of_decide_eq_true (by first | (with_reducible assumption) | assumption)
      obtain ⟨ad564, e564, hx564_0, hx564_1, hx564_2, hx564_3, hx564_4, hx564_5⟩ := at_T63 HR0.out x5_1 p564 q564
      cases e564
      replace p564 := eq_true p564
      replace q564 := eq_true q564
      have p565 : 0 ≤ (x5_1 : Int) := of_decide_eq_true (by first | (with_reducible assumption) | assumption)
      have q565 : x5_1 < (l1.length : Int) := of_decide_eq_true (by first | (with_reducible assumption) | assumption)
      obtain ⟨ad565, e565, hx565_0, hx565_1, hx565_2, hx565_3, hx565_4, hx565_5⟩ := at_T63 HR1.out x5_1 p565 q565
      cases e565
      replace p565 := eq_true p565
      replace q565 := eq_true q565
      go_wp2
      repeat (go_quiet (fail); try go_wp2)
      go_roundg k1
      case measure => have := HK1.out; omega
      case rel => exact ⟨(wrap64 (x5_1 + 1)), rf_, H', ⟨by have := HK1.out; omega⟩, by repeat (first | exact Drawn0.refl _ | apply Drawn0.step)⟩
    ·rw [if_neg c4] at H
     have c4b0 : decide (x5_1 < (l0.length : Int)) = false := decide_eq_false c4
     clear c4
     obtain rfl := Option.some.inj H
     go_wp2
     repeat (go_quiet (fail); try go_wp2)
     go_ret
     exact ⟨by first | rfl | (simp; done) | (simp [*]; done), by repeat (first | exact Drawn0.refl _ | apply Drawn0.step)⟩
 ·rw [if_neg c3] at H
  have c3b0 : ((l0.length : Int) == (l1.length : Int)) = false := beq_eq_false_iff_ne.mpr c3
  have c3b1 : ((l0.length : Int) != (l1.length : Int)) = true := bne_iff_ne.mpr c3
  have c3b2 : (l0.length == l1.length) = false := by first | simpa using c3 | (simp at c3 ⊢; omega)
  obtain rfl := Option.some.inj H
  go_enter Try.func24, Try.ntmps24
  go_wp2
  repeat (go_quiet (fail); try go_wp2)
  go_ret
  exact ⟨by first | rfl | (simp; done) | (simp [*]; done), by repeat (first | exact Drawn0.refl _ | apply Drawn0.step)⟩

end Go.Proofs.Ytfdpcnkghmmobaa.X
