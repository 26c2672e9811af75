-- written by xprint.py, a program of this session over the kit's print
import Derived.Test.YtiifhbaabnpkeaaX0
import Derived.Test.YtiifhbaabnpkeaaX4
import Derived.Test.YtiifhbaabnpkeaaX10
import Derived.Test.YtiifhbaabnpkeaaX24
namespace Go.Proofs.Ytiifhbaabnpkeaa.X
open Go.RowKit Go.Proofs.YtiifhbaabnpkeaaW.PrintWords Go.Proofs.YtiifhbaabnpkeaaW.PrintLast Go.Proofs.YtiifhbaabnpkeaaW.PrintMore
attribute [local go_sem] max2_int min2_int max_two min_two max_three min_three max_four min_four   -- for this text's walks alone
set_option linter.unusedVariables false
set_option linter.unusedSimpArgs false

/-! ### levels_Wait: function 25 -/
def levels_Wait.l0 : Nat → Int → Int → List (S32) → Int → Int → Option (Int × Int)
  | 0, _, _, _, _, _ => none
  | k + 1, x1, x7, x19, x20, x21 => if x21 < x20 then (if 0 ≤ x21 then (if x21 < (x19.length : Int) then ((bucket_Wait.f k ((rd_T32 x19 x21).f0.f0) ((rd_T32 x19 x21).f0.f1) ((rd_T32 x19 x21).f0.f2) ((rd_T32 x19 x21).f1) ((rd_T32 x19 x21).f2) ((rd_T32 x19 x21).f3) x1).bind fun bt323 => (levels_Wait.l0 k x1 (mx x7 bt323.1) x19 x20 (wrap64 (x21 + 1)))) else (none)) else (none)) else (some (x7, 0))
def levels_Wait.f (k : Nat) (l0 : List (S32)) (a1 : Int) : Option (Int × Int) := (levels_check.f k l0 (([a1] : List Int))).bind fun t320 => (if t320 = 0 then (levels_Wait.l0 k a1 0 l0 (l0.length : Int) 0) else (some (0, t320)))
theorem levels_Wait.mono_l : ∀ k, (∀ y0 y1 y2 y3 y4, LeO (levels_Wait.l0 k y0 y1 y2 y3 y4) (levels_Wait.l0 (k + 1) y0 y1 y2 y3 y4))
  | 0 => fun _ _ _ _ _ r h => by simp [levels_Wait.l0] at h
  | k + 1 => by
    have ih0 := levels_Wait.mono_l k
    · intro y0 y1 y2 y3 y4
      unfold levels_Wait.l0
      repeat' first
      | (with_reducible exact ih0 _ _ _ _ _)
      | (with_reducible exact bucket_Wait.mono _ _ _ _ _ _ _ _)
      | (with_reducible exact levels_check.mono _ _ _)
      | (with_reducible exact LeO.refl _)
      | (with_reducible exact LeO.none _)
      | (with_reducible refine LeO.ite ?_ ?_)
      | (with_reducible refine LeO.bind ?_ (fun _ => ?_))
      | exact ih0 _ _ _ _ _
      | exact bucket_Wait.mono _ _ _ _ _ _ _ _
      | exact levels_check.mono _ _ _
      | exact LeO.none _
      | refine LeO.ite ?_ ?_
      | refine LeO.bind ?_ (fun _ => ?_)
theorem levels_Wait.mono : ∀ a0 a1 k, LeO (levels_Wait.f k a0 a1) (levels_Wait.f (k + 1) a0 a1) := by
  intro a0 a1 k
  have ih0 := levels_Wait.mono_l k
  unfold levels_Wait.f
  repeat' first
      | (with_reducible exact ih0 _ _ _ _ _)
      | (with_reducible exact bucket_Wait.mono _ _ _ _ _ _ _ _)
      | (with_reducible exact levels_check.mono _ _ _)
      | (with_reducible exact LeO.refl _)
      | (with_reducible exact LeO.none _)
      | (with_reducible refine LeO.ite ?_ ?_)
      | (with_reducible refine LeO.bind ?_ (fun _ => ?_))
      | exact ih0 _ _ _ _ _
      | exact bucket_Wait.mono _ _ _ _ _ _ _ _
      | exact levels_check.mono _ _ _
      | exact LeO.none _
      | refine LeO.ite ?_ ?_
      | refine LeO.bind ?_ (fun _ => ?_)
set_option maxHeartbeats 8000000 in
set_option maxRecDepth 100000 in
theorem levels_Wait.calls (k : Nat) (A0 : Option Addr) (c0 : Nat) (l0 : List (S32)) (a1 : Int) (r1 : Int) (r2 : Int) (w : World) (hr0 : Kd.C k32 w A0 l0.length l0) (hc0 : l0.length ≤ c0) (h : levels_Wait.f k l0 a1 = some (r1, r2)) :
  Calls Try.prog 25 #[.slice A0 l0.length c0, .int .i64 a1] w fun e w' => e = .returned (.tuple #[.int .u64 r1, .int .i64 r2]) ∧ Below w.heap.size w w' := by
 have hu32 := Try.underlying32
 have HR0 := Aside0.mk hr0
 have HC0 := Aside0.mk hc0
 clear hr0 hc0
 have HB := Aside0.mk (Below.refl w.heap.size w)
 have H : ((levels_check.f k l0 (([a1] : List Int))).bind fun t320 => (if t320 = 0 then (levels_Wait.l0 k a1 0 l0 (l0.length : Int) 0) else (some (0, t320)))) = some (r1, r2) := h
 clear h
 obtain ⟨y317, hy317⟩ : ∃ y_ : List Int, y_ = (([a1] : List Int)) := ⟨_, rfl⟩
 replace H : ((levels_check.f k l0 y317).bind fun t320 => (if t320 = 0 then (levels_Wait.l0 k a1 0 l0 (l0.length : Int) 0) else (some (0, t320)))) = some (r1, r2) := by first | (rw [hy317]; with_reducible exact H) | (have H2_ := (Option.bind_some _ _).symm.trans H; rw [hy317]; with_reducible exact H2_) | (have H2_ := (Option.bind_some _ _).symm.trans H; with_reducible exact H2_) | with_reducible exact H | (rw [hy317]; exact H) | exact H
 have Ny317 := Aside0.mk hy317
 clear hy317
 have H0_ := bo_ H; clear H; obtain ⟨t320, A3, H⟩ := H0_
 replace H : (if t320 = 0 then (levels_Wait.l0 k a1 0 l0 (l0.length : Int) 0) else (some (0, t320))) = some (r1, r2) := H
 by_cases c4 : t320 = 0
 ·rw [if_pos c4] at H
  have c4b0 : (t320 == 0) = true := beq_iff_eq.mpr c4
  have c4b1 : (t320 != 0) = false := bne_eq_false_iff_eq.mpr c4
  clear c4
  have H' := Aside0.mk H
  clear H
  go_enter Try.func25, Try.ntmps25
  go_wp2_with (first | ((with_reducible refine gate_dst (N := 14) rfl ?_); refine Kd.R_lit (Kd.int .i64) _ 2 ?hg (N := 14) ?hd (xs := ([a1] : List Int)) (inner := [.int .i64 a1]) (ok := fun _ => True) (okp := fun _ => True) ?hr ?hp (fun _ hk => hk) trivial (Below.refl _ _) (Nat.le_refl _) (by simp) ?_; (case hd => rfl); (case hg => rfl); (case hr => first | (go_simp; done) | (go_simp; rfl)); (case hp => exact (Reps.one (show Kd.M (Kd.int .i64) _ _ _ a1 [.int .i64 a1] from rfl) (Reps.none _ _))); intro v318 w5 ho6 hb hg_ hnew_; clear hg_ hnew_; (first | rw [← Ny317.out] at ho6 | (simp only [Int.reduceToNat] at ho6; rw [← Ny317.out] at ho6)); have HO319 := Aside0.mk (Kd.R_lower ho6 (below_size (hq_ HB))); replace HB := bs_ w hb; clear hb ho6; obtain ⟨Ao7, co7, eo7⟩ := Kd.R_slice HO319.out; subst eo7) | ((with_reducible refine gate_callee (f := 17) rfl ?_); refine goesA_ (some 15) Try.func17 #[.slice A0 l0.length c0, .slice Ao7 y317.length co7] ?_; (with_reducible refine (levels_check.calls k _ _ l0 _ _ y317 t320 _ ?side1 ?side2 ?side3 ?side4 A3.out).mono ?_); (case side1 => exact cs_ HR0 HB); (case side2 => exact HC0.out); (case side3 => exact cr_ HO319); (case side4 => exact (Kd.R_reads' HO319.out).2.1); rintro e w8 ⟨rfl, hb⟩; refine ⟨_, rfl, ?_⟩; replace HO319 := rb_ HO319 hb; replace HB := bs_ w hb; clear hb))
  go_loopg [7, 21] k (fun kq v7 v21 w' => ∃ (x7_1 : Int) (x21_1 : Int), v7 = .int .u64 x7_1 ∧ v21 = .int .i64 x21_1 ∧ Aside0 (levels_Wait.l0 kq a1 x7_1 l0 (l0.length : Int) x21_1 = some (r1, r2)) ∧ Aside0 (kq ≤ k) ∧ Aside0 (Below w.heap.size w w'))
  case atStart => exact ⟨(0), (0), rf_, rf_, H', ⟨Nat.le_refl _⟩, bw_⟩
  case round =>
   clear H'
   try clear c4
   try clear c4b0
   try clear c4b1
   obtain ⟨x7_1, x21_1, rfl, rfl, HA, HK1, HB⟩ := hrel
   cases gk with
   | zero => exact absurd HA.out (by simp [levels_Wait.l0])
   | succ k1 =>
    have H := HA.out
    clear HA
    simp only [levels_Wait.l0] at H
    by_cases c9 : x21_1 < (l0.length : Int)
    ·rw [if_pos c9] at H
     have c9b0 : decide (x21_1 < (l0.length : Int)) = true := decide_eq_true c9
     clear c9
     by_cases c10 : 0 ≤ x21_1
     rotate_left
     ·rw [if_neg c10] at H; exact absurd H (by simp)
     rw [if_pos c10] at H
     have c10b0 : decide (0 ≤ x21_1) = true := decide_eq_true c10
     clear c10
     by_cases c11 : x21_1 < (l0.length : Int)
     rotate_left
     ·rw [if_neg c11] at H; exact absurd H (by simp)
     rw [if_pos c11] at H
     have c11b0 : decide (x21_1 < (l0.length : Int)) = true := decide_eq_true c11
     clear c11
     have H0_ := bo_ H; clear H; obtain ⟨⟨t323, t324⟩, A12, H⟩ := H0_
     replace H : (levels_Wait.l0 k1 a1 (mx x7_1 t323) l0 (l0.length : Int) (wrap64 (x21_1 + 1))) = some (r1, r2) := H
     obtain ⟨ji13, hji13⟩ : ∃ j_ : Int, (mx x7_1 t323) = j_ := ⟨_, rfl⟩
     replace H : (levels_Wait.l0 k1 a1 ji13 l0 (l0.length : Int) (wrap64 (x21_1 + 1))) = some (r1, r2) := by first | (rw [hji13] at H; exact H) | (simp only [hji13] at H ⊢; exact H)
     (try rw [hji13] at A12)
     have hji13_ : (if x7_1 < t323 then t323 else x7_1) = ji13 := hji13
     have H' := Aside0.mk H
     clear H
     have p321 : 0 ≤ (x21_1 : Int) := of_decide_eq_true (by first | (with_reducible assumption) | assumption)
     have q321 : x21_1 < (l0.length : Int) := of_decide_eq_true (by first | (with_reducible assumption) | assumption)
     obtain ⟨ad321, e321, hx321_0, hx321_1, hx321_2, hx321_3, hx321_4, hx321_5⟩ := at_T32 HR0.out x21_1 p321 q321
     cases e321
     replace hx321_0 := (HB.out.cell (World.block_lt_of_cell? w _ hx321_0)).trans hx321_0
     replace hx321_1 := (HB.out.cell (World.block_lt_of_cell? w _ hx321_1)).trans hx321_1
     replace hx321_2 := (HB.out.cell (World.block_lt_of_cell? w _ hx321_2)).trans hx321_2
     replace hx321_3 := (HB.out.cell (World.block_lt_of_cell? w _ hx321_3)).trans hx321_3
     replace hx321_4 := (HB.out.cell (World.block_lt_of_cell? w _ hx321_4)).trans hx321_4
     replace hx321_5 := (HB.out.cell (World.block_lt_of_cell? w _ hx321_5)).trans hx321_5
     replace p321 := eq_true p321
     replace q321 := eq_true q321
     go_wp2_with (first | ((with_reducible refine gate_dst (N := 9) rfl ?_); refine bx_ #[.int .i64 0, .int .i64 0, .int .i64 0, .int .i64 0, .int .i64 0, .int .u64 0] 32 ?_; intro gb322 hg w14 BK322 hb; have GW322 := bz_ w hg; replace HB := bs_ w hb; clear hb hg; replace hc322 := ce6_ BK322) | ((with_reducible refine gate_callee (f := 40) rfl ?_); refine goesA_ (some 28) Try.func40 #[.agg #[.int .i64 ((rd_T32 l0 x21_1).f0.f0), .int .i64 ((rd_T32 l0 x21_1).f0.f1), .int .i64 ((rd_T32 l0 x21_1).f0.f2), .int .i64 ((rd_T32 l0 x21_1).f1), .int .i64 ((rd_T32 l0 x21_1).f2), .int .u64 ((rd_T32 l0 x21_1).f3)], .int .i64 a1] ?_; (with_reducible refine (bucket_Wait.calls k1 ((rd_T32 l0 x21_1).f0.f0) ((rd_T32 l0 x21_1).f0.f1) ((rd_T32 l0 x21_1).f0.f2) ((rd_T32 l0 x21_1).f1) ((rd_T32 l0 x21_1).f2) ((rd_T32 l0 x21_1).f3) a1 t323 t324 _ A12.out).mono ?_); rintro e w16 ⟨rfl, hb⟩; refine ⟨_, rfl, ?_⟩; replace BK322 := Aside0.mk (blk_below (g := gb322) (o := .cells #[.int .i64 ((rd_T32 l0 x21_1).f0.f0), .int .i64 ((rd_T32 l0 x21_1).f0.f1), .int .i64 ((rd_T32 l0 x21_1).f0.f2), .int .i64 ((rd_T32 l0 x21_1).f1), .int .i64 ((rd_T32 l0 x21_1).f2), .int .u64 ((rd_T32 l0 x21_1).f3)] 32 (0, 0)) (bp6_ (bq_ BK322)) hb); replace HB := bs_ w hb; clear hb))
     go_roundg k1
     case measure => have := HK1.out; omega
     case rel => exact ⟨(ji13), (wrap64 (x21_1 + 1)), (by first | rfl | (simp; done) | (simp only [← hji13] <;> (first | rfl | simp)) | (simp [*]; done)), rf_, H', ⟨by have := HK1.out; omega⟩, bw_⟩
    ·rw [if_neg c9] at H
     have c9b0 : decide (x21_1 < (l0.length : Int)) = false := decide_eq_false c9
     clear c9
     simp only [Option.some.injEq, Prod.mk.injEq] at H
     obtain ⟨rfl, rfl⟩ := H
     go_wp2
     go_ret2
     exact fi_
 ·rw [if_neg c4] at H
  have c4b0 : (t320 == 0) = false := beq_eq_false_iff_ne.mpr c4
  have c4b1 : (t320 != 0) = true := bne_iff_ne.mpr c4
  simp only [Option.some.injEq, Prod.mk.injEq] at H
  obtain ⟨rfl, rfl⟩ := H
  go_enter Try.func25, Try.ntmps25
  go_wp2_with (first | ((with_reducible refine gate_dst (N := 14) rfl ?_); refine Kd.R_lit (Kd.int .i64) _ 2 ?hg (N := 14) ?hd (xs := ([a1] : List Int)) (inner := [.int .i64 a1]) (ok := fun _ => True) (okp := fun _ => True) ?hr ?hp (fun _ hk => hk) trivial (Below.refl _ _) (Nat.le_refl _) (by simp) ?_; (case hd => rfl); (case hg => rfl); (case hr => first | (go_simp; done) | (go_simp; rfl)); (case hp => exact (Reps.one (show Kd.M (Kd.int .i64) _ _ _ a1 [.int .i64 a1] from rfl) (Reps.none _ _))); intro v318 w17 ho18 hb hg_ hnew_; clear hg_ hnew_; (first | rw [← Ny317.out] at ho18 | (simp only [Int.reduceToNat] at ho18; rw [← Ny317.out] at ho18)); have HO319 := Aside0.mk (Kd.R_lower ho18 (below_size (hq_ HB))); replace HB := bs_ w hb; clear hb ho18; obtain ⟨Ao19, co19, eo19⟩ := Kd.R_slice HO319.out; subst eo19) | ((with_reducible refine gate_callee (f := 17) rfl ?_); refine goesA_ (some 15) Try.func17 #[.slice A0 l0.length c0, .slice Ao19 y317.length co19] ?_; (with_reducible refine (levels_check.calls k _ _ l0 _ _ y317 t320 _ ?side1 ?side2 ?side3 ?side4 A3.out).mono ?_); (case side1 => exact cs_ HR0 HB); (case side2 => exact HC0.out); (case side3 => exact cr_ HO319); (case side4 => exact (Kd.R_reads' HO319.out).2.1); rintro e w20 ⟨rfl, hb⟩; refine ⟨_, rfl, ?_⟩; replace HO319 := rb_ HO319 hb; replace HB := bs_ w hb; clear hb))
  go_ret2
  exact fi_

/-! ### clock_After: function 26 -/
def clock_After.f (a0 : Int) (a1 : Int) : Option (Int × Int) := if (IntKind.u64.wrap (a0 + a1)) < a0 then (some (0, 16)) else (some (IntKind.u64.wrap (a0 + a1), 0))
set_option maxHeartbeats 8000000 in
set_option maxRecDepth 100000 in
theorem clock_After.calls (a0 : Int) (a1 : Int) (r1 : Int) (r2 : Int) (w : World) (h : clock_After.f a0 a1 = some (r1, r2)) :
  Calls Try.prog 26 #[.int .u64 a0, .int .u64 a1] w fun e w' => e = .returned (.tuple #[.int .u64 r1, .int .i64 r2]) ∧ Drawn0 w w' := by
 have H : (if (IntKind.u64.wrap (a0 + a1)) < a0 then (some (0, 16)) else (some (IntKind.u64.wrap (a0 + a1), 0))) = some (r1, r2) := h
 clear h
 by_cases c3 : (IntKind.u64.wrap (a0 + a1)) < a0
 ·rw [if_pos c3] at H
  have c3b0 : decide ((IntKind.u64.wrap (a0 + a1)) < a0) = true := decide_eq_true c3
  clear c3
  simp only [Option.some.injEq, Prod.mk.injEq] at H
  obtain ⟨rfl, rfl⟩ := H
  go_enter Try.func26, Try.ntmps26
  go_wp2
  go_ret2
  exact ⟨by first | rfl | (simp; done) | (simp [*]; done), by repeat (first | exact Drawn0.refl _ | apply Drawn0.step)⟩
 ·rw [if_neg c3] at H
  have c3b0 : decide ((IntKind.u64.wrap (a0 + a1)) < a0) = false := decide_eq_false c3
  clear c3
  simp only [Option.some.injEq, Prod.mk.injEq] at H
  obtain ⟨rfl, rfl⟩ := H
  go_enter Try.func26, Try.ntmps26
  go_wp2
  go_ret2
  exact ⟨by first | rfl | (simp; done) | (simp [*]; done), by repeat (first | exact Drawn0.refl _ | apply Drawn0.step)⟩

/-! ### levels_Refill: function 27 -/
def levels_Refill.f (k : Nat) (l0 : List (S32)) (a1 : Int) : Option ((List (S32)) × Int) := (levels_check.f k l0 ([] : List Int)).bind fun t325 => (if t325 = 0 then ((levels_fill.f k l0 a1).bind fun t326 => (some (t326, 0))) else (some (([] : List (S32)), t325)))
theorem levels_Refill.mono : ∀ a0 a1 k, LeO (levels_Refill.f k a0 a1) (levels_Refill.f (k + 1) a0 a1) := by
  intro a0 a1 k
  unfold levels_Refill.f
  repeat' first
      | (with_reducible exact levels_check.mono _ _ _)
      | (with_reducible exact levels_fill.mono _ _ _)
      | (with_reducible exact LeO.refl _)
      | (with_reducible exact LeO.none _)
      | (with_reducible refine LeO.ite ?_ ?_)
      | (with_reducible refine LeO.bind ?_ (fun _ => ?_))
      | exact levels_check.mono _ _ _
      | exact levels_fill.mono _ _ _
      | exact LeO.none _
      | refine LeO.ite ?_ ?_
      | refine LeO.bind ?_ (fun _ => ?_)
set_option maxHeartbeats 8000000 in
set_option maxRecDepth 100000 in
theorem levels_Refill.calls (k : Nat) (A0 : Option Addr) (c0 : Nat) (l0 : List (S32)) (a1 : Int) (r1 : List (S32)) (r2 : Int) (w : World) (hr0 : Kd.C k32 w A0 l0.length l0) (hc0 : l0.length ≤ c0) (h : levels_Refill.f k l0 a1 = some (r1, r2)) :
  Calls Try.prog 27 #[.slice A0 l0.length c0, .int .u64 a1] w fun e w' => ∃ v0_ : Value, e = .returned (.tuple #[v0_, .int .i64 r2]) ∧ Kd.R k32 32 w' w.heap.size (fun _ => True) v0_ r1 ∧ Below w.heap.size w w' := by
 have HR0 := Aside0.mk hr0
 have HC0 := Aside0.mk hc0
 clear hr0 hc0
 have HB := Aside0.mk (Below.refl w.heap.size w)
 have H : ((levels_check.f k l0 ([] : List Int)).bind fun t325 => (if t325 = 0 then ((levels_fill.f k l0 a1).bind fun t326 => (some (t326, 0))) else (some (([] : List (S32)), t325)))) = some (r1, r2) := h
 clear h
 have H0_ := bo_ H; clear H; obtain ⟨t325, A3, H⟩ := H0_
 replace H : (if t325 = 0 then ((levels_fill.f k l0 a1).bind fun t326 => (some (t326, 0))) else (some (([] : List (S32)), t325))) = some (r1, r2) := H
 by_cases c4 : t325 = 0
 ·rw [if_pos c4] at H
  have c4b0 : (t325 == 0) = true := beq_iff_eq.mpr c4
  have c4b1 : (t325 != 0) = false := bne_eq_false_iff_eq.mpr c4
  clear c4
  have H0_ := bo_ H; clear H; obtain ⟨t326, A5, H⟩ := H0_
  replace H : (some (t326, 0)) = some (r1, r2) := H
  simp only [Option.some.injEq, Prod.mk.injEq] at H
  obtain ⟨rfl, rfl⟩ := H
  go_enter Try.func27, Try.ntmps27
  go_wp2_with (first | ((with_reducible refine gate_callee (f := 17) rfl ?_); refine goesA_ (some 8) Try.func17 #[.slice A0 l0.length c0, .slice none 0 0] ?_; (refine (levels_check.calls k _ _ l0 _ _ ([] : List Int) t325 _ ?side1 ?side2 ?side3 ?side4 A3.out).mono ?_); (case side1 => exact ch_ HR0); (case side2 => exact HC0.out); (case side3 => exact Kd.C_nil _ _); (case side4 => exact Nat.le_refl _); rintro e w6 ⟨rfl, hb⟩; refine ⟨_, rfl, ?_⟩; replace HB := bs_ w hb; clear hb) | ((with_reducible refine gate_callee (f := 34) rfl ?_); refine goesA_ (some 14) Try.func34 #[.slice A0 l0.length c0, .int .u64 a1] ?_; (with_reducible refine (levels_fill.calls k _ _ l0 a1 t326 _ ?side1 ?side2 A5.out).mono ?_); (case side1 => exact cs_ HR0 HB); (case side2 => exact HC0.out); rintro e w7 ⟨v327, rfl, ho0, hb⟩; refine ⟨_, rfl, ?_⟩; have HO328 := Aside0.mk (Kd.R_lower ho0 (below_size (hq_ HB))); replace HB := bs_ w hb; clear hb; (try clear ho0)))
  go_ret2
  exact ⟨_, by first | rfl | (simp [errW_none, errW_some] <;> rfl) | (simp [*, errW_none, errW_some] <;> rfl), by (with_reducible repeat (first | apply Kd.R_alloc | apply Kd.R_drewN | apply Kd.R_drew)); exact HO328.out, by repeat (first | (with_reducible first | exact HB.out | apply below_alloc | apply pw_below_drewN | apply below_drew1) | exact HB.out)⟩
 ·rw [if_neg c4] at H
  have c4b0 : (t325 == 0) = false := beq_eq_false_iff_ne.mpr c4
  have c4b1 : (t325 != 0) = true := bne_iff_ne.mpr c4
  simp only [Option.some.injEq, Prod.mk.injEq] at H
  obtain ⟨rfl, rfl⟩ := H
  go_enter Try.func27, Try.ntmps27
  go_wp2_with (first | ((with_reducible refine gate_callee (f := 17) rfl ?_); refine goesA_ (some 8) Try.func17 #[.slice A0 l0.length c0, .slice none 0 0] ?_; (refine (levels_check.calls k _ _ l0 _ _ ([] : List Int) t325 _ ?side1 ?side2 ?side3 ?side4 A3.out).mono ?_); (case side1 => exact ch_ HR0); (case side2 => exact HC0.out); (case side3 => exact Kd.C_nil _ _); (case side4 => exact Nat.le_refl _); rintro e w8 ⟨rfl, hb⟩; refine ⟨_, rfl, ?_⟩; replace HB := bs_ w hb; clear hb))
  go_ret2
  exact ⟨_, by first | rfl | (simp [errW_none, errW_some] <;> rfl) | (simp [*, errW_none, errW_some] <;> rfl), by first | exact Kd.R_nil _ _ _ _ _ | exact Kd.N_nil _ _ _ _ _ | exact Kd.V_nil _ _ _ _ _ | exact Kd.Q_nil _ _ _ _ _ | exact Kd.S_nil _ _ _ _ _, by repeat (first | (with_reducible first | exact HB.out | apply below_alloc | apply pw_below_drewN | apply below_drew1) | exact HB.out)⟩

end Go.Proofs.Ytiifhbaabnpkeaa.X
