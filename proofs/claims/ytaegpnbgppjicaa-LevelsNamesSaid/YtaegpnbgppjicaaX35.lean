-- written by xprint.py, a program of this session over the kit's print
import Derived.Test.YtaegpnbgppjicaaX0
import Derived.Test.YtaegpnbgppjicaaX5
import Derived.Test.YtaegpnbgppjicaaX33
import Derived.Test.YtaegpnbgppjicaaX34
namespace Go.Proofs.Ytaegpnbgppjicaa.X
open Go.RowKit Go.Proofs.YtaegpnbgppjicaaW.PrintWords Go.Proofs.YtaegpnbgppjicaaW.PrintLast Go.Proofs.YtaegpnbgppjicaaW.PrintMore
attribute [local go_sem] max2_int min2_int max_two min_two max_three min_three max_four min_four   -- for this text's walks alone
set_option linter.unusedVariables false
set_option linter.unusedSimpArgs false

/-! ### spigotref04_Wait: function 25 -/
def spigotref04_Wait.l0 : Nat → List (S37) → Int → Int → Int → Option (Int × Int)
  | 0, _, _, _, _ => none
  | k + 1, x0, x1, x6, x7 => if x7 < (x0.length : Int) then (if 0 ≤ x7 then ((spigotref03_Waited.f k ((rd_T37 x0 x7).f0.f0) ((rd_T37 x0 x7).f0.f1) ((rd_T37 x0 x7).f0.f2) ((rd_T37 x0 x7).f1) ((rd_T37 x0 x7).f2) ((rd_T37 x0 x7).f3) x1).bind fun t442 => (spigotref04_Wait.l0 k x0 x1 (mx x6 t442) (wrap64 (x7 + 1)))) else (none)) else (some (x6, 0))
def spigotref04_Wait.f (k : Nat) (l0 : List (S37)) (a1 : Int) : Option (Int × Int) := (spigotref04_asked.f k l0 a1).bind fun t439 => (if t439 = 0 then (spigotref04_Wait.l0 k l0 a1 0 0) else ((spigotref04_asked.f k l0 a1).bind fun t440 => (some (0, t440))))
theorem spigotref04_Wait.mono_l : ∀ k, (∀ y0 y1 y2 y3, LeO (spigotref04_Wait.l0 k y0 y1 y2 y3) (spigotref04_Wait.l0 (k + 1) y0 y1 y2 y3))
  | 0 => fun _ _ _ _ r h => by simp [spigotref04_Wait.l0] at h
  | k + 1 => by
    have ih0 := spigotref04_Wait.mono_l k
    · intro y0 y1 y2 y3
      unfold spigotref04_Wait.l0
      repeat' first
      | (with_reducible exact ih0 _ _ _ _)
      | (with_reducible exact spigotref03_Waited.mono _ _ _ _ _ _ _ _)
      | (with_reducible exact spigotref04_asked.mono _ _ _)
      | (with_reducible exact LeO.refl _)
      | (with_reducible exact LeO.none _)
      | (with_reducible refine LeO.ite ?_ ?_)
      | (with_reducible refine LeO.bind ?_ (fun _ => ?_))
      | exact ih0 _ _ _ _
      | exact spigotref03_Waited.mono _ _ _ _ _ _ _ _
      | exact spigotref04_asked.mono _ _ _
      | exact LeO.none _
      | refine LeO.ite ?_ ?_
      | refine LeO.bind ?_ (fun _ => ?_)
theorem spigotref04_Wait.mono : ∀ a0 a1 k, LeO (spigotref04_Wait.f k a0 a1) (spigotref04_Wait.f (k + 1) a0 a1) := by
  intro a0 a1 k
  have ih0 := spigotref04_Wait.mono_l k
  unfold spigotref04_Wait.f
  repeat' first
      | (with_reducible exact ih0 _ _ _ _)
      | (with_reducible exact spigotref03_Waited.mono _ _ _ _ _ _ _ _)
      | (with_reducible exact spigotref04_asked.mono _ _ _)
      | (with_reducible exact LeO.refl _)
      | (with_reducible exact LeO.none _)
      | (with_reducible refine LeO.ite ?_ ?_)
      | (with_reducible refine LeO.bind ?_ (fun _ => ?_))
      | exact ih0 _ _ _ _
      | exact spigotref03_Waited.mono _ _ _ _ _ _ _ _
      | exact spigotref04_asked.mono _ _ _
      | exact LeO.none _
      | refine LeO.ite ?_ ?_
      | refine LeO.bind ?_ (fun _ => ?_)
set_option maxHeartbeats 8000000 in
set_option maxRecDepth 100000 in
theorem spigotref04_Wait.calls (k : Nat) (A0 : Option Addr) (c0 : Nat) (l0 : List (S37)) (a1 : Int) (r1 : Int) (r2 : Int) (w : World) (hr0 : Kd.C k37 w A0 l0.length l0) (hc0 : l0.length ≤ c0) (h : spigotref04_Wait.f k l0 a1 = some (r1, r2)) :
  Calls Try.prog 25 #[.slice A0 l0.length c0, .int .i64 a1] w fun e w' => e = .returned (.tuple #[.int .u64 r1, .int .i64 r2]) ∧ Below w.heap.size w w' := by
 have hu37 := Try.underlying37
 have HR0 := Aside0.mk hr0
 have HC0 := Aside0.mk hc0
 clear hr0 hc0
 have HB := Aside0.mk (Below.refl w.heap.size w)
 have H : ((spigotref04_asked.f k l0 a1).bind fun t439 => (if t439 = 0 then (spigotref04_Wait.l0 k l0 a1 0 0) else ((spigotref04_asked.f k l0 a1).bind fun t440 => (some (0, t440))))) = some (r1, r2) := h
 clear h
 have H0_ := bo_ H; clear H; obtain ⟨t439, A3, H⟩ := H0_
 replace H : (if t439 = 0 then (spigotref04_Wait.l0 k l0 a1 0 0) else ((spigotref04_asked.f k l0 a1).bind fun t440 => (some (0, t440)))) = some (r1, r2) := H
 by_cases c4 : t439 = 0
 ·rw [if_pos c4] at H
  have c4b0 : (t439 == 0) = true := beq_iff_eq.mpr c4
  have c4b1 : (t439 != 0) = false := bne_eq_false_iff_eq.mpr c4
  clear c4
  have H' := Aside0.mk H
  clear H
  go_enter Try.func25, Try.ntmps25
  go_wp2_with (first | ((with_reducible refine gate_callee (f := 41) rfl ?_); refine goesA_ (some 10) Try.func41 #[.slice A0 l0.length c0, .int .i64 a1] ?_; (with_reducible refine (spigotref04_asked.calls k _ _ l0 a1 t439 _ ?side1 ?side2 A3.out).mono ?_); (case side1 => exact ch_ HR0); (case side2 => exact HC0.out); rintro e w5 ⟨rfl, hb⟩; refine ⟨_, rfl, ?_⟩; replace HB := bs_ w hb; clear hb))
  go_loopg [6, 7] k (fun kq v6 v7 w' => ∃ (x6_1 : Int) (x7_1 : Int), v6 = .int .u64 x6_1 ∧ v7 = .int .i64 x7_1 ∧ Aside0 (spigotref04_Wait.l0 kq l0 a1 x6_1 x7_1 = some (r1, r2)) ∧ Aside0 (kq ≤ k) ∧ Aside0 (Below w.heap.size w w'))
  case atStart => exact ⟨(0), (0), rf_, rf_, H', ⟨Nat.le_refl _⟩, bw_⟩
  case round =>
   clear H'
   try clear c4
   try clear c4b0
   try clear c4b1
   obtain ⟨x6_1, x7_1, rfl, rfl, HA, HK1, HB⟩ := hrel
   cases gk with
   | zero => exact absurd HA.out (by simp [spigotref04_Wait.l0])
   | succ k1 =>
    have H := HA.out
    clear HA
    simp only [spigotref04_Wait.l0] at H
    by_cases c6 : x7_1 < (l0.length : Int)
    ·rw [if_pos c6] at H
     have c6b0 : decide (x7_1 < (l0.length : Int)) = true := decide_eq_true c6
     clear c6
     by_cases c7 : 0 ≤ x7_1
     rotate_left
     ·rw [if_neg c7] at H; exact absurd H (by simp)
     rw [if_pos c7] at H
     have c7b0 : decide (0 ≤ x7_1) = true := decide_eq_true c7
     clear c7
     have H0_ := bo_ H; clear H; obtain ⟨t442, A8, H⟩ := H0_
     replace H : (spigotref04_Wait.l0 k1 l0 a1 (mx x6_1 t442) (wrap64 (x7_1 + 1))) = some (r1, r2) := H
     obtain ⟨ji9, hji9⟩ : ∃ j_ : Int, (mx x6_1 t442) = j_ := ⟨_, rfl⟩
     replace H : (spigotref04_Wait.l0 k1 l0 a1 ji9 (wrap64 (x7_1 + 1))) = some (r1, r2) := by first | (rw [hji9] at H; exact H) | (simp only [hji9] at H ⊢; exact H)
     (try rw [hji9] at A8)
     have hji9_ : (if x6_1 < t442 then t442 else x6_1) = ji9 := hji9
     have H' := Aside0.mk H
     clear H
     have p441 : 0 ≤ (x7_1 : Int) := of_decide_eq_true (by first | (with_reducible assumption) | assumption)
     have q441 : x7_1 < (l0.length : Int) := of_decide_eq_true (by first | (with_reducible assumption) | assumption)
     obtain ⟨ad441, e441, hx441_0, hx441_1, hx441_2, hx441_3, hx441_4, hx441_5⟩ := at_T37 HR0.out x7_1 p441 q441
     cases e441
     replace hx441_0 := (HB.out.cell (World.block_lt_of_cell? w _ hx441_0)).trans hx441_0
     replace hx441_1 := (HB.out.cell (World.block_lt_of_cell? w _ hx441_1)).trans hx441_1
     replace hx441_2 := (HB.out.cell (World.block_lt_of_cell? w _ hx441_2)).trans hx441_2
     replace hx441_3 := (HB.out.cell (World.block_lt_of_cell? w _ hx441_3)).trans hx441_3
     replace hx441_4 := (HB.out.cell (World.block_lt_of_cell? w _ hx441_4)).trans hx441_4
     replace hx441_5 := (HB.out.cell (World.block_lt_of_cell? w _ hx441_5)).trans hx441_5
     replace p441 := eq_true p441
     replace q441 := eq_true q441
     go_wp2_with (first | ((with_reducible refine gate_callee (f := 43) rfl ?_); refine goesA_ (some 27) Try.func43 #[.agg #[.int .i64 ((rd_T37 l0 x7_1).f0.f0), .int .i64 ((rd_T37 l0 x7_1).f0.f1), .int .i64 ((rd_T37 l0 x7_1).f0.f2), .int .i64 ((rd_T37 l0 x7_1).f1), .int .i64 ((rd_T37 l0 x7_1).f2), .int .u64 ((rd_T37 l0 x7_1).f3)], .int .i64 a1] ?_; (with_reducible refine (spigotref03_Waited.calls k1 ((rd_T37 l0 x7_1).f0.f0) ((rd_T37 l0 x7_1).f0.f1) ((rd_T37 l0 x7_1).f0.f2) ((rd_T37 l0 x7_1).f1) ((rd_T37 l0 x7_1).f2) ((rd_T37 l0 x7_1).f3) a1 t442 _ A8.out).mono ?_); rintro e w10 ⟨rfl, hb⟩; refine ⟨_, rfl, ?_⟩; replace HB := bs_ w hb; clear hb))
     go_roundg k1
     case measure => have := HK1.out; omega
     case rel => exact ⟨(ji9), (wrap64 (x7_1 + 1)), (by first | rfl | (simp; done) | (simp only [← hji9] <;> (first | rfl | simp)) | (simp [*]; done)), rf_, H', ⟨by have := HK1.out; omega⟩, bw_⟩
    ·rw [if_neg c6] at H
     have c6b0 : decide (x7_1 < (l0.length : Int)) = false := decide_eq_false c6
     clear c6
     simp only [Option.some.injEq, Prod.mk.injEq] at H
     obtain ⟨rfl, rfl⟩ := H
     go_wp2
     go_ret2
     exact fi_
 ·rw [if_neg c4] at H
  have c4b0 : (t439 == 0) = false := beq_eq_false_iff_ne.mpr c4
  have c4b1 : (t439 != 0) = true := bne_iff_ne.mpr c4
  have H0_ := bo_ H; clear H; obtain ⟨t440, A11, H⟩ := H0_
  replace H : (some (0, t440)) = some (r1, r2) := H
  simp only [Option.some.injEq, Prod.mk.injEq] at H
  obtain ⟨rfl, rfl⟩ := H
  go_enter Try.func25, Try.ntmps25
  go_wp2_with (first | ((with_reducible refine gate_callee (f := 41) rfl ?_); refine goesA_ (some 10) Try.func41 #[.slice A0 l0.length c0, .int .i64 a1] ?_; (with_reducible refine (spigotref04_asked.calls k _ _ l0 a1 t439 _ ?side1 ?side2 A3.out).mono ?_); (case side1 => exact ch_ HR0); (case side2 => exact HC0.out); rintro e w12 ⟨rfl, hb⟩; refine ⟨_, rfl, ?_⟩; replace HB := bs_ w hb; clear hb) | ((with_reducible refine gate_callee (f := 41) rfl ?_); refine goesA_ (some 14) Try.func41 #[.slice A0 l0.length c0, .int .i64 a1] ?_; (with_reducible refine (spigotref04_asked.calls k _ _ l0 a1 t440 _ ?side1 ?side2 A11.out).mono ?_); (case side1 => exact cs_ HR0 HB); (case side2 => exact HC0.out); rintro e w13 ⟨rfl, hb⟩; refine ⟨_, rfl, ?_⟩; replace HB := bs_ w hb; clear hb))
  go_ret2
  exact fi_

/-! ### levels_Check: function 26 -/
def levels_Check.f (k : Nat) (l0 : List (S37)) : Option (Int) := (levels_check.f k l0 ([] : List Int)).bind fun t443 => (some t443)
theorem levels_Check.mono : ∀ a0 k, LeO (levels_Check.f k a0) (levels_Check.f (k + 1) a0) := by
  intro a0 k
  unfold levels_Check.f
  repeat' first
      | (with_reducible exact levels_check.mono _ _ _)
      | (with_reducible exact LeO.refl _)
      | (with_reducible exact LeO.none _)
      | (with_reducible refine LeO.ite ?_ ?_)
      | (with_reducible refine LeO.bind ?_ (fun _ => ?_))
      | exact levels_check.mono _ _ _
      | exact LeO.none _
      | refine LeO.ite ?_ ?_
      | refine LeO.bind ?_ (fun _ => ?_)
set_option maxHeartbeats 8000000 in
set_option maxRecDepth 100000 in
theorem levels_Check.calls (k : Nat) (A0 : Option Addr) (c0 : Nat) (l0 : List (S37)) (r : Int) (w : World) (hr0 : Kd.C k37 w A0 l0.length l0) (hc0 : l0.length ≤ c0) (h : levels_Check.f k l0 = some r) :
  Calls Try.prog 26 #[.slice A0 l0.length c0] w fun e w' => e = .returned (.int .i64 r) ∧ Below w.heap.size w w' := by
 have HR0 := Aside0.mk hr0
 have HC0 := Aside0.mk hc0
 clear hr0 hc0
 have HB := Aside0.mk (Below.refl w.heap.size w)
 have H : ((levels_check.f k l0 ([] : List Int)).bind fun t443 => (some t443)) = some r := h
 clear h
 have H0_ := bo_ H; clear H; obtain ⟨t443, A2, H⟩ := H0_
 replace H : (some t443) = some r := H
 obtain rfl := Option.some.inj H
 go_enter Try.func26, Try.ntmps26
 go_wp2_with (first | ((with_reducible refine gate_callee (f := 33) rfl ?_); refine goesA_ (some 4) Try.func33 #[.slice A0 l0.length c0, .slice none 0 0] ?_; (refine (levels_check.calls k _ _ l0 _ _ ([] : List Int) t443 _ ?side1 ?side2 ?side3 ?side4 A2.out).mono ?_); (case side1 => exact ch_ HR0); (case side2 => exact HC0.out); (case side3 => exact Kd.C_nil _ _); (case side4 => exact Nat.le_refl _); rintro e w3 ⟨rfl, hb⟩; refine ⟨_, rfl, ?_⟩; replace HB := bs_ w hb; clear hb))
 go_ret
 exact fi_

end Go.Proofs.Ytaegpnbgppjicaa.X
