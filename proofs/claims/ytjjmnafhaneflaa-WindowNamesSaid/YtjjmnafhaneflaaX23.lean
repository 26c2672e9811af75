-- written by xprint.py, a program of this session over the kit's print
import Derived.Test.YtjjmnafhaneflaaX0
import Derived.Test.YtjjmnafhaneflaaX3
import Derived.Test.YtjjmnafhaneflaaX4
import Derived.Test.YtjjmnafhaneflaaX9
namespace Go.Proofs.Ytjjmnafhaneflaa.X
open Go.RowKit Go.Proofs.YtjjmnafhaneflaaW.PrintWords Go.Proofs.YtjjmnafhaneflaaW.PrintLast Go.Proofs.YtjjmnafhaneflaaW.PrintMore
attribute [local go_sem] max2_int min2_int max_two min_two max_three min_three max_four min_four   -- for this text's walks alone
set_option linter.unusedVariables false
set_option linter.unusedSimpArgs false

attribute [local go_sem high] eqA58
/-! ### window_Limit: function 19 -/
def window_Limit.f (a0_0 : Int) (a0_1 : Int) : Option (Int × Int × Int × Int) := (window_Check.f a0_0 a0_1).bind fun t216 => (if t216 = 0 then (some (a0_0, a0_0, a0_1, 0)) else (some (0, 0, 0, t216)))
set_option maxHeartbeats 8000000 in
set_option maxRecDepth 100000 in
theorem window_Limit.calls (a0_0 : Int) (a0_1 : Int) (r1 : Int) (r2 : Int) (r3 : Int) (r4 : Int) (w : World) (h : window_Limit.f a0_0 a0_1 = some (r1, r2, r3, r4)) :
  Calls Try.prog 19 #[.agg #[.int .i64 a0_0, .int .i64 a0_1]] w fun e w' => e = .returned (.tuple #[.agg #[.int .i64 r1, .int .i64 r2, .int .i64 r3], .int .i64 r4]) ∧ Below w.heap.size w w' := by
 have hu23 := Try.underlying23
 have hu43 := Try.underlying43
 have HB := Aside0.mk (Below.refl w.heap.size w)
 have H : ((window_Check.f a0_0 a0_1).bind fun t216 => (if t216 = 0 then (some (a0_0, a0_0, a0_1, 0)) else (some (0, 0, 0, t216)))) = some (r1, r2, r3, r4) := h
 clear h
 obtain ⟨t216, A2, H⟩ := bo_ H
 replace H : (if t216 = 0 then (some (a0_0, a0_0, a0_1, 0)) else (some (0, 0, 0, t216))) = some (r1, r2, r3, r4) := H
 by_cases c3 : t216 = 0
 ·rw [if_pos c3] at H
  have c3b0 : (t216 == 0) = true := beq_iff_eq.mpr c3
  have c3b1 : (t216 != 0) = false := bne_eq_false_iff_eq.mpr c3
  clear c3
  simp only [Option.some.injEq, Prod.mk.injEq] at H
  obtain ⟨rfl, rfl, rfl, rfl⟩ := H
  go_enter Try.func19, Try.ntmps19
  go_wp2_with (first | ((with_reducible refine gate_dst (N := 1) rfl ?_); refine bx_ #[.int .i64 a0_0, .int .i64 a0_1] 23 ?_; intro gb214 hg w4 BK214 hb; have GW214 := bz_ w hg; have GE214 := GW214; replace HB := bs_ w hb; clear hb hg) | ((with_reducible refine gate_dst (N := 2) rfl ?_); refine bx_ #[.int .i64 0, .int .i64 0, .int .i64 0] 43 ?_; intro gb215 hg w5 BK215 hb; have GW215 := bz_ w hg; have GE215 := GW215; have NB214_215 := bn_ BK214 hg; have NB215_214 := bm_ BK214 hg; replace BK214 := bb_ BK214 hb; replace HB := bs_ w hb; clear hb hg; replace hn214_215 := NB214_215.out; replace hn215_214 := NB215_214.out; replace hc214 := ce2_ BK214) | ((with_reducible refine gate_callee (f := 21) rfl ?_); refine goesA_ (some 6) Try.func21 #[.agg #[.int .i64 a0_0, .int .i64 a0_1]] ?_; (with_reducible refine (window_Check.calls a0_0 a0_1 t216 _ A2.out).mono ?_); rintro e w8 ⟨rfl, hb⟩; refine ⟨_, rfl, ?_⟩; replace BK214 := bb_ BK214 hb; replace BK215 := bb_ BK215 hb; replace HB := bs_ w hb; clear hb; replace hc214 := ce2_ BK214; replace hc215 := ce3_ BK215))
  refine bodyPost_ret (results_ct rfl _ _ gb215 43 #[.int .i64 a0_0, .int .i64 a0_0, .int .i64 a0_1] (0, 0) _ rfl (bp3_ (bq_ BK215)) Try.underlying43 rfl (by kernel_rfl)) rfl ?_
  exact fi_
 ·rw [if_neg c3] at H
  have c3b0 : (t216 == 0) = false := beq_eq_false_iff_ne.mpr c3
  have c3b1 : (t216 != 0) = true := bne_iff_ne.mpr c3
  simp only [Option.some.injEq, Prod.mk.injEq] at H
  obtain ⟨rfl, rfl, rfl, rfl⟩ := H
  go_enter Try.func19, Try.ntmps19
  go_wp2_with (first | ((with_reducible refine gate_dst (N := 1) rfl ?_); refine bx_ #[.int .i64 a0_0, .int .i64 a0_1] 23 ?_; intro gb214 hg w11 BK214 hb; have GW214 := bz_ w hg; have GE214 := GW214; replace HB := bs_ w hb; clear hb hg) | ((with_reducible refine gate_dst (N := 2) rfl ?_); refine bx_ #[.int .i64 0, .int .i64 0, .int .i64 0] 43 ?_; intro gb215 hg w12 BK215 hb; have GW215 := bz_ w hg; have GE215 := GW215; have NB214_215 := bn_ BK214 hg; have NB215_214 := bm_ BK214 hg; replace BK214 := bb_ BK214 hb; replace HB := bs_ w hb; clear hb hg; replace hn214_215 := NB214_215.out; replace hn215_214 := NB215_214.out; replace hc214 := ce2_ BK214) | ((with_reducible refine gate_callee (f := 21) rfl ?_); refine goesA_ (some 6) Try.func21 #[.agg #[.int .i64 a0_0, .int .i64 a0_1]] ?_; (with_reducible refine (window_Check.calls a0_0 a0_1 t216 _ A2.out).mono ?_); rintro e w15 ⟨rfl, hb⟩; refine ⟨_, rfl, ?_⟩; replace BK214 := bb_ BK214 hb; replace BK215 := bb_ BK215 hb; replace HB := bs_ w hb; clear hb; replace hc215 := ce3_ BK215))
  refine bodyPost_ret (results_ct rfl _ _ gb215 43 #[.int .i64 0, .int .i64 0, .int .i64 0] (0, 0) _ rfl (bp3_ (bq_ BK215)) Try.underlying43 rfl (by kernel_rfl)) rfl ?_
  exact fi_

/-! ### spigotref38_Limit: function 20 -/
def spigotref38_Limit.f (a0_0 : Int) (a0_1 : Int) : Option (Int × Int × Int × Int) := (spigotref38_Check.f a0_0 a0_1).bind fun t219 => (if t219 = 0 then (some (a0_0, a0_0, a0_1, 0)) else (some (0, 0, 0, t219)))
set_option maxHeartbeats 8000000 in
set_option maxRecDepth 100000 in
theorem spigotref38_Limit.calls (a0_0 : Int) (a0_1 : Int) (r1 : Int) (r2 : Int) (r3 : Int) (r4 : Int) (w : World) (h : spigotref38_Limit.f a0_0 a0_1 = some (r1, r2, r3, r4)) :
  Calls Try.prog 20 #[.agg #[.int .i64 a0_0, .int .i64 a0_1]] w fun e w' => e = .returned (.tuple #[.agg #[.int .i64 r1, .int .i64 r2, .int .i64 r3], .int .i64 r4]) ∧ Below w.heap.size w w' := by
 have hu23 := Try.underlying23
 have hu43 := Try.underlying43
 have HB := Aside0.mk (Below.refl w.heap.size w)
 have H : ((spigotref38_Check.f a0_0 a0_1).bind fun t219 => (if t219 = 0 then (some (a0_0, a0_0, a0_1, 0)) else (some (0, 0, 0, t219)))) = some (r1, r2, r3, r4) := h
 clear h
 obtain ⟨t219, A2, H⟩ := bo_ H
 replace H : (if t219 = 0 then (some (a0_0, a0_0, a0_1, 0)) else (some (0, 0, 0, t219))) = some (r1, r2, r3, r4) := H
 by_cases c3 : t219 = 0
 ·rw [if_pos c3] at H
  have c3b0 : (t219 == 0) = true := beq_iff_eq.mpr c3
  have c3b1 : (t219 != 0) = false := bne_eq_false_iff_eq.mpr c3
  clear c3
  simp only [Option.some.injEq, Prod.mk.injEq] at H
  obtain ⟨rfl, rfl, rfl, rfl⟩ := H
  go_enter Try.func20, Try.ntmps20
  go_wp2_with (first | ((with_reducible refine gate_dst (N := 1) rfl ?_); refine bx_ #[.int .i64 a0_0, .int .i64 a0_1] 23 ?_; intro gb217 hg w4 BK217 hb; have GW217 := bz_ w hg; have GE217 := GW217; replace HB := bs_ w hb; clear hb hg) | ((with_reducible refine gate_dst (N := 2) rfl ?_); refine bx_ #[.int .i64 0, .int .i64 0, .int .i64 0] 43 ?_; intro gb218 hg w5 BK218 hb; have GW218 := bz_ w hg; have GE218 := GW218; have NB217_218 := bn_ BK217 hg; have NB218_217 := bm_ BK217 hg; replace BK217 := bb_ BK217 hb; replace HB := bs_ w hb; clear hb hg; replace hn217_218 := NB217_218.out; replace hn218_217 := NB218_217.out; replace hc217 := ce2_ BK217) | ((with_reducible refine gate_callee (f := 22) rfl ?_); refine goesA_ (some 6) Try.func22 #[.agg #[.int .i64 a0_0, .int .i64 a0_1]] ?_; (with_reducible refine (spigotref38_Check.calls a0_0 a0_1 t219 _ A2.out).mono ?_); rintro e w8 ⟨rfl, hb⟩; refine ⟨_, rfl, ?_⟩; replace BK217 := bb_ BK217 hb; replace BK218 := bb_ BK218 hb; replace HB := bs_ w hb; clear hb; replace hc217 := ce2_ BK217; replace hc218 := ce3_ BK218))
  refine bodyPost_ret (results_ct rfl _ _ gb218 43 #[.int .i64 a0_0, .int .i64 a0_0, .int .i64 a0_1] (0, 0) _ rfl (bp3_ (bq_ BK218)) Try.underlying43 rfl (by kernel_rfl)) rfl ?_
  exact fi_
 ·rw [if_neg c3] at H
  have c3b0 : (t219 == 0) = false := beq_eq_false_iff_ne.mpr c3
  have c3b1 : (t219 != 0) = true := bne_iff_ne.mpr c3
  simp only [Option.some.injEq, Prod.mk.injEq] at H
  obtain ⟨rfl, rfl, rfl, rfl⟩ := H
  go_enter Try.func20, Try.ntmps20
  go_wp2_with (first | ((with_reducible refine gate_dst (N := 1) rfl ?_); refine bx_ #[.int .i64 a0_0, .int .i64 a0_1] 23 ?_; intro gb217 hg w11 BK217 hb; have GW217 := bz_ w hg; have GE217 := GW217; replace HB := bs_ w hb; clear hb hg) | ((with_reducible refine gate_dst (N := 2) rfl ?_); refine bx_ #[.int .i64 0, .int .i64 0, .int .i64 0] 43 ?_; intro gb218 hg w12 BK218 hb; have GW218 := bz_ w hg; have GE218 := GW218; have NB217_218 := bn_ BK217 hg; have NB218_217 := bm_ BK217 hg; replace BK217 := bb_ BK217 hb; replace HB := bs_ w hb; clear hb hg; replace hn217_218 := NB217_218.out; replace hn218_217 := NB218_217.out; replace hc217 := ce2_ BK217) | ((with_reducible refine gate_callee (f := 22) rfl ?_); refine goesA_ (some 6) Try.func22 #[.agg #[.int .i64 a0_0, .int .i64 a0_1]] ?_; (with_reducible refine (spigotref38_Check.calls a0_0 a0_1 t219 _ A2.out).mono ?_); rintro e w15 ⟨rfl, hb⟩; refine ⟨_, rfl, ?_⟩; replace BK217 := bb_ BK217 hb; replace BK218 := bb_ BK218 hb; replace HB := bs_ w hb; clear hb; replace hc218 := ce3_ BK218))
  refine bodyPost_ret (results_ct rfl _ _ gb218 43 #[.int .i64 0, .int .i64 0, .int .i64 0] (0, 0) _ rfl (bp3_ (bq_ BK218)) Try.underlying43 rfl (by kernel_rfl)) rfl ?_
  exact fi_

/-! ### spigotref38_Same: function 25 -/
def spigotref38_Same.l0 : Nat → List (S58) → List (S58) → Int → Option (Bool)
  | 0, _, _, _ => none
  | k + 1, x0, x1, x5 => if x5 < (x0.length : Int) then (if 0 ≤ x5 then (if x5 < (x1.length : Int) then (if (!(((rd_T58 x0 x5).f0) == ((rd_T58 x1 x5).f0)) || (!(((rd_T58 x0 x5).f1) == ((rd_T58 x1 x5).f1)))) = true then (some false) else (spigotref38_Same.l0 k x0 x1 (wrap64 (x5 + 1)))) else (none)) else (none)) else (some true)
def spigotref38_Same.f (k : Nat) (l0 : List (S58)) (l1 : List (S58)) : Option (Bool) := if (l0.length : Int) = (l1.length : Int) then (spigotref38_Same.l0 k l0 l1 0) else (some false)
theorem spigotref38_Same.mono_l : ∀ k, (∀ y0 y1 y2, LeO (spigotref38_Same.l0 k y0 y1 y2) (spigotref38_Same.l0 (k + 1) y0 y1 y2))
  | 0 => fun _ _ _ r h => by simp [spigotref38_Same.l0] at h
  | k + 1 => by
    have ih0 := spigotref38_Same.mono_l k
    · intro y0 y1 y2
      unfold spigotref38_Same.l0
      repeat' first
      | (with_reducible exact ih0 _ _ _)
      | (with_reducible exact LeO.refl _)
      | (with_reducible exact LeO.none _)
      | (with_reducible refine LeO.ite ?_ ?_)
      | (with_reducible refine LeO.bind ?_ (fun _ => ?_))
      | exact ih0 _ _ _
      | exact LeO.none _
      | refine LeO.ite ?_ ?_
      | refine LeO.bind ?_ (fun _ => ?_)
theorem spigotref38_Same.mono : ∀ a0 a1 k, LeO (spigotref38_Same.f k a0 a1) (spigotref38_Same.f (k + 1) a0 a1) := by
  intro a0 a1 k
  have ih0 := spigotref38_Same.mono_l k
  unfold spigotref38_Same.f
  repeat' first
      | (with_reducible exact ih0 _ _ _)
      | (with_reducible exact LeO.refl _)
      | (with_reducible exact LeO.none _)
      | (with_reducible refine LeO.ite ?_ ?_)
      | (with_reducible refine LeO.bind ?_ (fun _ => ?_))
      | exact ih0 _ _ _
      | exact LeO.none _
      | refine LeO.ite ?_ ?_
      | refine LeO.bind ?_ (fun _ => ?_)
set_option maxHeartbeats 8000000 in
set_option maxRecDepth 100000 in
theorem spigotref38_Same.calls (k : Nat) (A0 : Option Addr) (c0 : Nat) (l0 : List (S58)) (A1 : Option Addr) (c1 : Nat) (l1 : List (S58)) (r : Bool) (w : World) (hr0 : Kd.C k58 w A0 l0.length l0) (hc0 : l0.length ≤ c0) (hr1 : Kd.C k58 w A1 l1.length l1) (hc1 : l1.length ≤ c1) (h : spigotref38_Same.f k l0 l1 = some r) :
  Calls Try.prog 25 #[.slice A0 l0.length c0, .slice A1 l1.length c1] w fun e w' => e = .returned (.bool r) ∧ Drawn0 w w' := by
 have hu58 := Try.underlying58
 have HR0 := Aside0.mk hr0
 have HC0 := Aside0.mk hc0
 clear hr0 hc0
 have HR1 := Aside0.mk hr1
 have HC1 := Aside0.mk hc1
 clear hr1 hc1
 have H : (if (l0.length : Int) = (l1.length : Int) then (spigotref38_Same.l0 k l0 l1 0) else (some false)) = some r := h
 clear h
 by_cases c3 : (l0.length : Int) = (l1.length : Int)
 ·rw [if_pos c3] at H
  have c3b0 : ((l0.length : Int) == (l1.length : Int)) = true := beq_iff_eq.mpr c3
  have c3b1 : ((l0.length : Int) != (l1.length : Int)) = false := bne_eq_false_iff_eq.mpr c3
  have c3b2 : (l0.length == l1.length) = true := by first | simpa using c3 | (simp at c3 ⊢; omega)
  clear c3
  have H' := Aside0.mk H
  clear H
  go_enter Try.func25, Try.ntmps25
  go_wp2
  repeat (go_quiet (fail); try go_wp2)
  go_loopg [5] k (fun kq v5 w' => ∃ (x5_1 : Int), v5 = .int .i64 x5_1 ∧ Aside0 (spigotref38_Same.l0 kq l0 l1 x5_1 = some r) ∧ Aside0 (kq ≤ k) ∧ Drawn0 w w')
  case atStart => exact ⟨(0), rf_, H', ⟨Nat.le_refl _⟩, by repeat (first | exact Drawn0.refl _ | apply Drawn0.step)⟩
  case round =>
   clear H'
   try clear c1
   try clear c3
   try clear c3b0
   try clear c3b1
   try clear c3b2
   obtain ⟨x5_1, rfl, HA, HK1, ⟨m1, rfl⟩⟩ := hrel
   cases gk with
   | zero => exact absurd HA.out (by simp [spigotref38_Same.l0])
   | succ k1 =>
    have H := HA.out
    clear HA
    simp only [spigotref38_Same.l0] at H
    by_cases c4 : x5_1 < (l0.length : Int)
    ·rw [if_pos c4] at H
     have c4b0 : decide (x5_1 < (l0.length : Int)) = true := decide_eq_true c4
     clear c4
     by_cases c5 : 0 ≤ x5_1
     rotate_left
     ·rw [if_neg c5] at H; exact absurd H (by simp)
     rw [if_pos c5] at H
     have c5b0 : decide (0 ≤ x5_1) = true := decide_eq_true c5
     clear c5
     by_cases c6 : x5_1 < (l1.length : Int)
     rotate_left
     ·rw [if_neg c6] at H; exact absurd H (by simp)
     rw [if_pos c6] at H
     have c6b0 : decide (x5_1 < (l1.length : Int)) = true := decide_eq_true c6
     clear c6
     by_cases c7 : (!(((rd_T58 l0 x5_1).f0) == ((rd_T58 l1 x5_1).f0)) || (!(((rd_T58 l0 x5_1).f1) == ((rd_T58 l1 x5_1).f1)))) = true
     ·rw [if_pos c7] at H
      have c7b0 : (!(((rd_T58 l0 x5_1).f0) == ((rd_T58 l1 x5_1).f0)) || (!(((rd_T58 l0 x5_1).f1) == ((rd_T58 l1 x5_1).f1)))) = true := c7
      clear c7
      obtain rfl := Option.some.inj H
      have p220 : 0 ≤ (x5_1 : Int) := of_decide_eq_true (by first | (with_reducible assumption) | assumption)
      have q220 : x5_1 < (l0.length : Int) := of_decide_eq_true (by first | (with_reducible assumption) | assumption)
      obtain ⟨ad220, e220, hx220_0, hx220_1⟩ := at_T58 HR0.out x5_1 p220 q220
      cases e220
      replace p220 := eq_true p220
      replace q220 := eq_true q220
      have p221 : 0 ≤ (x5_1 : Int) := of_decide_eq_true (by first | (with_reducible assumption) | assumption)
      have q221 : x5_1 < (l1.length : Int) := of_decide_eq_true (by first | (with_reducible assumption) | assumption)
      obtain ⟨ad221, e221, hx221_0, hx221_1⟩ := at_T58 HR1.out x5_1 p221 q221
      cases e221
      replace p221 := eq_true p221
      replace q221 := eq_true q221
      go_wp2
      repeat (go_quiet (fail); try go_wp2)
      go_ret
      exact ⟨by first | rfl | (simp; done) | (simp [*]; done), by repeat (first | exact Drawn0.refl _ | apply Drawn0.step)⟩
     ·rw [if_neg c7] at H
      have c7b0 : (!(((rd_T58 l0 x5_1).f0) == ((rd_T58 l1 x5_1).f0)) || (!(((rd_T58 l0 x5_1).f1) == ((rd_T58 l1 x5_1).f1)))) = false := by simpa using c7
      clear c7
      have H' := Aside0.mk H
      clear H
      have p220 : 0 ≤ (x5_1 : Int) := of_decide_eq_true (by first | (with_reducible assumption) | assumption)
      have q220 : x5_1 < (l0.length : Int) := of_decide_eq_true (by first | (with_reducible assumption) | assumption)
      obtain ⟨ad220, e220, hx220_0, hx220_1⟩ := at_T58 HR0.out x5_1 p220 q220
      cases e220
      replace p220 := eq_true p220
      replace q220 := eq_true q220
      have p221 : 0 ≤ (x5_1 : Int) := of_decide_eq_true (by first | (with_reducible assumption) | assumption)
      have q221 : x5_1 < (l1.length : Int) := of_decide_eq_true (by first | (with_reducible assumption) | assumption)
      obtain ⟨ad221, e221, hx221_0, hx221_1⟩ := at_T58 HR1.out x5_1 p221 q221
      cases e221
      replace p221 := eq_true p221
      replace q221 := eq_true q221
      go_wp2
      repeat (go_quiet (fail); try go_wp2)
      go_roundg k1
      case measure => have := HK1.out; omega
      case rel => exact ⟨(wrap64 (x5_1 + 1)), rf_, H', ⟨by have := HK1.out; omega⟩, by repeat (first | exact Drawn0.refl _ | apply Drawn0.step)⟩
    ·rw [if_neg c4] at H
     have c4b0 : decide (x5_1 < (l0.length : Int)) = false := decide_eq_false c4
     clear c4
     obtain rfl := Option.some.inj H
     go_wp2
     repeat (go_quiet (fail); try go_wp2)
     go_ret
     exact ⟨by first | rfl | (simp; done) | (simp [*]; done), by repeat (first | exact Drawn0.refl _ | apply Drawn0.step)⟩
 ·rw [if_neg c3] at H
  have c3b0 : ((l0.length : Int) == (l1.length : Int)) = false := beq_eq_false_iff_ne.mpr c3
  have c3b1 : ((l0.length : Int) != (l1.length : Int)) = true := bne_iff_ne.mpr c3
  have c3b2 : (l0.length == l1.length) = false := by first | simpa using c3 | (simp at c3 ⊢; omega)
  obtain rfl := Option.some.inj H
  go_enter Try.func25, Try.ntmps25
  go_wp2
  repeat (go_quiet (fail); try go_wp2)
  go_ret
  exact ⟨by first | rfl | (simp; done) | (simp [*]; done), by repeat (first | exact Drawn0.refl _ | apply Drawn0.step)⟩

end Go.Proofs.Ytjjmnafhaneflaa.X
