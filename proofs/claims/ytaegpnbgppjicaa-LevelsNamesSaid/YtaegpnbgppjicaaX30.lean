-- written by xprint.py, a program of this session over the kit's print
import Derived.Test.YtaegpnbgppjicaaX0
import Derived.Test.YtaegpnbgppjicaaX5
import Derived.Test.YtaegpnbgppjicaaX13
import Derived.Test.YtaegpnbgppjicaaX29
namespace Go.Proofs.Ytaegpnbgppjicaa.X
open Go.RowKit Go.Proofs.YtaegpnbgppjicaaW.PrintWords Go.Proofs.YtaegpnbgppjicaaW.PrintLast Go.Proofs.YtaegpnbgppjicaaW.PrintMore
attribute [local go_sem] max2_int min2_int max_two min_two max_three min_three max_four min_four   -- for this text's walks alone
set_option linter.unusedVariables false
set_option linter.unusedSimpArgs false

/-! ### levels_Wait: function 18 -/
def levels_Wait.l0 : Nat → Int → Int → List (S37) → Int → Int → Option (Int × Int)
  | 0, _, _, _, _, _ => none
  | k + 1, x1, x7, x19, x20, x21 => if x21 < x20 then (if 0 ≤ x21 then (if x21 < (x19.length : Int) then ((bucket_Wait.f k ((rd_T37 x19 x21).f0.f0) ((rd_T37 x19 x21).f0.f1) ((rd_T37 x19 x21).f0.f2) ((rd_T37 x19 x21).f1) ((rd_T37 x19 x21).f2) ((rd_T37 x19 x21).f3) x1).bind fun bt340 => (levels_Wait.l0 k x1 (mx x7 bt340.1) x19 x20 (wrap64 (x21 + 1)))) else (none)) else (none)) else (some (x7, 0))
def levels_Wait.f (k : Nat) (l0 : List (S37)) (a1 : Int) : Option (Int × Int) := (levels_check.f k l0 (([a1] : List Int))).bind fun t337 => (if t337 = 0 then (levels_Wait.l0 k a1 0 l0 (l0.length : Int) 0) else (some (0, t337)))
theorem levels_Wait.mono_l : ∀ k, (∀ y0 y1 y2 y3 y4, LeO (levels_Wait.l0 k y0 y1 y2 y3 y4) (levels_Wait.l0 (k + 1) y0 y1 y2 y3 y4))
  | 0 => fun _ _ _ _ _ r h => by simp [levels_Wait.l0] at h
  | k + 1 => by
    have ih0 := levels_Wait.mono_l k
    · intro y0 y1 y2 y3 y4
      unfold levels_Wait.l0
      repeat' first
      | (with_reducible exact ih0 _ _ _ _ _)
      | (with_reducible exact bucket_Wait.mono _ _ _ _ _ _ _ _)
      | (with_reducible exact levels_check.mono _ _ _)
      | (with_reducible exact LeO.refl _)
      | (with_reducible exact LeO.none _)
      | (with_reducible refine LeO.ite ?_ ?_)
      | (with_reducible refine LeO.bind ?_ (fun _ => ?_))
      | exact ih0 _ _ _ _ _
      | exact bucket_Wait.mono _ _ _ _ _ _ _ _
      | exact levels_check.mono _ _ _
      | exact LeO.none _
      | refine LeO.ite ?_ ?_
      | refine LeO.bind ?_ (fun _ => ?_)
theorem levels_Wait.mono : ∀ a0 a1 k, LeO (levels_Wait.f k a0 a1) (levels_Wait.f (k + 1) a0 a1) := by
  intro a0 a1 k
  have ih0 := levels_Wait.mono_l k
  unfold levels_Wait.f
  repeat' first
      | (with_reducible exact ih0 _ _ _ _ _)
      | (with_reducible exact bucket_Wait.mono _ _ _ _ _ _ _ _)
      | (with_reducible exact levels_check.mono _ _ _)
      | (with_reducible exact LeO.refl _)
      | (with_reducible exact LeO.none _)
      | (with_reducible refine LeO.ite ?_ ?_)
      | (with_reducible refine LeO.bind ?_ (fun _ => ?_))
      | exact ih0 _ _ _ _ _
      | exact bucket_Wait.mono _ _ _ _ _ _ _ _
      | exact levels_check.mono _ _ _
      | exact LeO.none _
      | refine LeO.ite ?_ ?_
      | refine LeO.bind ?_ (fun _ => ?_)
set_option maxHeartbeats 8000000 in
set_option maxRecDepth 100000 in
theorem levels_Wait.calls (k : Nat) (A0 : Option Addr) (c0 : Nat) (l0 : List (S37)) (a1 : Int) (r1 : Int) (r2 : Int) (w : World) (hr0 : Kd.C k37 w A0 l0.length l0) (hc0 : l0.length ≤ c0) (h : levels_Wait.f k l0 a1 = some (r1, r2)) :
  Calls Try.prog 18 #[.slice A0 l0.length c0, .int .i64 a1] w fun e w' => e = .returned (.tuple #[.int .u64 r1, .int .i64 r2]) ∧ Below w.heap.size w w' := by
 have hu37 := Try.underlying37
 have HR0 := Aside0.mk hr0
 have HC0 := Aside0.mk hc0
 clear hr0 hc0
 have HB := Aside0.mk (Below.refl w.heap.size w)
 have H : ((levels_check.f k l0 (([a1] : List Int))).bind fun t337 => (if t337 = 0 then (levels_Wait.l0 k a1 0 l0 (l0.length : Int) 0) else (some (0, t337)))) = some (r1, r2) := h
 clear h
 obtain ⟨y334, hy334⟩ : ∃ y_ : List Int, y_ = (([a1] : List Int)) := ⟨_, rfl⟩
 replace H : ((levels_check.f k l0 y334).bind fun t337 => (if t337 = 0 then (levels_Wait.l0 k a1 0 l0 (l0.length : Int) 0) else (some (0, t337)))) = some (r1, r2) := by first | (rw [hy334]; with_reducible exact H) | (have H2_ := (Option.bind_some _ _).symm.trans H; rw [hy334]; with_reducible exact H2_) | (have H2_ := (Option.bind_some _ _).symm.trans H; with_reducible exact H2_) | with_reducible exact H | (rw [hy334]; exact H) | exact H
 have Ny334 := Aside0.mk hy334
 clear hy334
 have H0_ := bo_ H; clear H; obtain ⟨t337, A3, H⟩ := H0_
 replace H : (if t337 = 0 then (levels_Wait.l0 k a1 0 l0 (l0.length : Int) 0) else (some (0, t337))) = some (r1, r2) := H
 by_cases c4 : t337 = 0
 ·rw [if_pos c4] at H
  have c4b0 : (t337 == 0) = true := beq_iff_eq.mpr c4
  have c4b1 : (t337 != 0) = false := bne_eq_false_iff_eq.mpr c4
  clear c4
  have H' := Aside0.mk H
  clear H
  go_enter Try.func18, Try.ntmps18
  go_wp2_with (first | ((with_reducible refine gate_dst (N := 14) rfl ?_); refine Kd.R_lit (Kd.int .i64) _ 2 ?hg (N := 14) ?hd (xs := ([a1] : List Int)) (inner := [.int .i64 a1]) (ok := fun _ => True) (okp := fun _ => True) ?hr ?hp (fun _ hk => hk) trivial (Below.refl _ _) (Nat.le_refl _) (by simp) ?_; (case hd => rfl); (case hg => rfl); (case hr => first | (go_simp; done) | (go_simp; rfl)); (case hp => exact (Reps.one (show Kd.M (Kd.int .i64) _ _ _ a1 [.int .i64 a1] from rfl) (Reps.none _ _))); intro v335 w5 ho6 hb hg_ hnew_; clear hg_ hnew_; (first | rw [← Ny334.out] at ho6 | (simp only [Int.reduceToNat] at ho6; rw [← Ny334.out] at ho6)); have HO336 := Aside0.mk (Kd.R_lower ho6 (below_size (hq_ HB))); replace HB := bs_ w hb; clear hb ho6; obtain ⟨Ao7, co7, eo7⟩ := Kd.R_slice HO336.out; subst eo7) | ((with_reducible refine gate_callee (f := 33) rfl ?_); refine goesA_ (some 15) Try.func33 #[.slice A0 l0.length c0, .slice Ao7 y334.length co7] ?_; (with_reducible refine (levels_check.calls k _ _ l0 _ _ y334 t337 _ ?side1 ?side2 ?side3 ?side4 A3.out).mono ?_); (case side1 => exact cs_ HR0 HB); (case side2 => exact HC0.out); (case side3 => exact cr_ HO336); (case side4 => exact (Kd.R_reads' HO336.out).2.1); rintro e w8 ⟨rfl, hb⟩; refine ⟨_, rfl, ?_⟩; replace HO336 := rb_ HO336 hb; replace HB := bs_ w hb; clear hb))
  go_loopg [7, 21] k (fun kq v7 v21 w' => ∃ (x7_1 : Int) (x21_1 : Int), v7 = .int .u64 x7_1 ∧ v21 = .int .i64 x21_1 ∧ Aside0 (levels_Wait.l0 kq a1 x7_1 l0 (l0.length : Int) x21_1 = some (r1, r2)) ∧ Aside0 (kq ≤ k) ∧ Aside0 (Below w.heap.size w w'))
  case atStart => exact ⟨(0), (0), rf_, rf_, H', ⟨Nat.le_refl _⟩, bw_⟩
  case round =>
   clear H'
   try clear c4
   try clear c4b0
   try clear c4b1
   obtain ⟨x7_1, x21_1, rfl, rfl, HA, HK1, HB⟩ := hrel
   cases gk with
   | zero => exact absurd HA.out (by simp [levels_Wait.l0])
   | succ k1 =>
    have H := HA.out
    clear HA
    simp only [levels_Wait.l0] at H
    by_cases c9 : x21_1 < (l0.length : Int)
    ·rw [if_pos c9] at H
     have c9b0 : decide (x21_1 < (l0.length : Int)) = true := decide_eq_true c9
     clear c9
     by_cases c10 : 0 ≤ x21_1
     rotate_left
     ·rw [if_neg c10] at H; exact absurd H (by simp)
     rw [if_pos c10] at H
     have c10b0 : decide (0 ≤ x21_1) = true := decide_eq_true c10
     clear c10
     by_cases c11 : x21_1 < (l0.length : Int)
     rotate_left
     ·rw [if_neg c11] at H; exact absurd H (by simp)
     rw [if_pos c11] at H
     have c11b0 : decide (x21_1 < (l0.length : Int)) = true := decide_eq_true c11
     clear c11
     have H0_ := bo_ H; clear H; obtain ⟨⟨t340, t341⟩, A12, H⟩ := H0_
     replace H : (levels_Wait.l0 k1 a1 (mx x7_1 t340) l0 (l0.length : Int) (wrap64 (x21_1 + 1))) = some (r1, r2) := H
     obtain ⟨ji13, hji13⟩ : ∃ j_ : Int, (mx x7_1 t340) = j_ := ⟨_, rfl⟩
     replace H : (levels_Wait.l0 k1 a1 ji13 l0 (l0.length : Int) (wrap64 (x21_1 + 1))) = some (r1, r2) := by first | (rw [hji13] at H; exact H) | (simp only [hji13] at H ⊢; exact H)
     (try rw [hji13] at A12)
     have hji13_ : (if x7_1 < t340 then t340 else x7_1) = ji13 := hji13
     have H' := Aside0.mk H
     clear H
     have p338 : 0 ≤ (x21_1 : Int) := of_decide_eq_true (by first | (with_reducible assumption) | assumption)
     have q338 : x21_1 < (l0.length : Int) := of_decide_eq_true (by first | (with_reducible assumption) | assumption)
     obtain ⟨ad338, e338, hx338_0, hx338_1, hx338_2, hx338_3, hx338_4, hx338_5⟩ := at_T37 HR0.out x21_1 p338 q338
     cases e338
     replace hx338_0 := (HB.out.cell (World.block_lt_of_cell? w _ hx338_0)).trans hx338_0
     replace hx338_1 := (HB.out.cell (World.block_lt_of_cell? w _ hx338_1)).trans hx338_1
     replace hx338_2 := (HB.out.cell (World.block_lt_of_cell? w _ hx338_2)).trans hx338_2
     replace hx338_3 := (HB.out.cell (World.block_lt_of_cell? w _ hx338_3)).trans hx338_3
     replace hx338_4 := (HB.out.cell (World.block_lt_of_cell? w _ hx338_4)).trans hx338_4
     replace hx338_5 := (HB.out.cell (World.block_lt_of_cell? w _ hx338_5)).trans hx338_5
     replace p338 := eq_true p338
     replace q338 := eq_true q338
     go_wp2_with (first | ((with_reducible refine gate_dst (N := 9) rfl ?_); refine bx_ #[.int .i64 0, .int .i64 0, .int .i64 0, .int .i64 0, .int .i64 0, .int .u64 0] 37 ?_; intro gb339 hg w14 BK339 hb; have GW339 := bz_ w hg; replace HB := bs_ w hb; clear hb hg; replace hc339 := ce6_ BK339) | ((with_reducible refine gate_callee (f := 37) rfl ?_); refine goesA_ (some 28) Try.func37 #[.agg #[.int .i64 ((rd_T37 l0 x21_1).f0.f0), .int .i64 ((rd_T37 l0 x21_1).f0.f1), .int .i64 ((rd_T37 l0 x21_1).f0.f2), .int .i64 ((rd_T37 l0 x21_1).f1), .int .i64 ((rd_T37 l0 x21_1).f2), .int .u64 ((rd_T37 l0 x21_1).f3)], .int .i64 a1] ?_; (with_reducible refine (bucket_Wait.calls k1 ((rd_T37 l0 x21_1).f0.f0) ((rd_T37 l0 x21_1).f0.f1) ((rd_T37 l0 x21_1).f0.f2) ((rd_T37 l0 x21_1).f1) ((rd_T37 l0 x21_1).f2) ((rd_T37 l0 x21_1).f3) a1 t340 t341 _ A12.out).mono ?_); rintro e w16 ⟨rfl, hb⟩; refine ⟨_, rfl, ?_⟩; replace BK339 := Aside0.mk (blk_below (g := gb339) (o := .cells #[.int .i64 ((rd_T37 l0 x21_1).f0.f0), .int .i64 ((rd_T37 l0 x21_1).f0.f1), .int .i64 ((rd_T37 l0 x21_1).f0.f2), .int .i64 ((rd_T37 l0 x21_1).f1), .int .i64 ((rd_T37 l0 x21_1).f2), .int .u64 ((rd_T37 l0 x21_1).f3)] 37 (0, 0)) (bp6_ (bq_ BK339)) hb); replace HB := bs_ w hb; clear hb))
     go_roundg k1
     case measure => have := HK1.out; omega
     case rel => exact ⟨(ji13), (wrap64 (x21_1 + 1)), (by first | rfl | (simp; done) | (simp only [← hji13] <;> (first | rfl | simp)) | (simp [*]; done)), rf_, H', ⟨by have := HK1.out; omega⟩, bw_⟩
    ·rw [if_neg c9] at H
     have c9b0 : decide (x21_1 < (l0.length : Int)) = false := decide_eq_false c9
     clear c9
     simp only [Option.some.injEq, Prod.mk.injEq] at H
     obtain ⟨rfl, rfl⟩ := H
     go_wp2
     go_ret2
     exact fi_
 ·rw [if_neg c4] at H
  have c4b0 : (t337 == 0) = false := beq_eq_false_iff_ne.mpr c4
  have c4b1 : (t337 != 0) = true := bne_iff_ne.mpr c4
  simp only [Option.some.injEq, Prod.mk.injEq] at H
  obtain ⟨rfl, rfl⟩ := H
  go_enter Try.func18, Try.ntmps18
  go_wp2_with (first | ((with_reducible refine gate_dst (N := 14) rfl ?_); refine Kd.R_lit (Kd.int .i64) _ 2 ?hg (N := 14) ?hd (xs := ([a1] : List Int)) (inner := [.int .i64 a1]) (ok := fun _ => True) (okp := fun _ => True) ?hr ?hp (fun _ hk => hk) trivial (Below.refl _ _) (Nat.le_refl _) (by simp) ?_; (case hd => rfl); (case hg => rfl); (case hr => first | (go_simp; done) | (go_simp; rfl)); (case hp => exact (Reps.one (show Kd.M (Kd.int .i64) _ _ _ a1 [.int .i64 a1] from rfl) (Reps.none _ _))); intro v335 w17 ho18 hb hg_ hnew_; clear hg_ hnew_; (first | rw [← Ny334.out] at ho18 | (simp only [Int.reduceToNat] at ho18; rw [← Ny334.out] at ho18)); have HO336 := Aside0.mk (Kd.R_lower ho18 (below_size (hq_ HB))); replace HB := bs_ w hb; clear hb ho18; obtain ⟨Ao19, co19, eo19⟩ := Kd.R_slice HO336.out; subst eo19) | ((with_reducible refine gate_callee (f := 33) rfl ?_); refine goesA_ (some 15) Try.func33 #[.slice A0 l0.length c0, .slice Ao19 y334.length co19] ?_; (with_reducible refine (levels_check.calls k _ _ l0 _ _ y334 t337 _ ?side1 ?side2 ?side3 ?side4 A3.out).mono ?_); (case side1 => exact cs_ HR0 HB); (case side2 => exact HC0.out); (case side3 => exact cr_ HO336); (case side4 => exact (Kd.R_reads' HO336.out).2.1); rintro e w20 ⟨rfl, hb⟩; refine ⟨_, rfl, ?_⟩; replace HO336 := rb_ HO336 hb; replace HB := bs_ w hb; clear hb))
  go_ret2
  exact fi_

/-! ### levels_Take: function 23 -/
def levels_Take.f (k : Nat) (l0 : List (S37)) (a1 : Int) (a2 : Int) : Option ((List (S37)) × Bool × Int) := (levels_check.f k l0 (([a2] : List Int))).bind fun t345 => (if t345 = 0 then ((levels_take.f k l0 a1 a2).bind fun bt346 => (some (bt346.1, bt346.2, 0))) else (some (([] : List (S37)), false, t345)))
theorem levels_Take.mono : ∀ a0 a1 a2 k, LeO (levels_Take.f k a0 a1 a2) (levels_Take.f (k + 1) a0 a1 a2) := by
  intro a0 a1 a2 k
  unfold levels_Take.f
  repeat' first
      | (with_reducible exact levels_check.mono _ _ _)
      | (with_reducible exact levels_take.mono _ _ _ _)
      | (with_reducible exact LeO.refl _)
      | (with_reducible exact LeO.none _)
      | (with_reducible refine LeO.ite ?_ ?_)
      | (with_reducible refine LeO.bind ?_ (fun _ => ?_))
      | exact levels_check.mono _ _ _
      | exact levels_take.mono _ _ _ _
      | exact LeO.none _
      | refine LeO.ite ?_ ?_
      | refine LeO.bind ?_ (fun _ => ?_)
set_option maxHeartbeats 8000000 in
set_option maxRecDepth 100000 in
theorem levels_Take.calls (k : Nat) (A0 : Option Addr) (c0 : Nat) (l0 : List (S37)) (a1 : Int) (a2 : Int) (r1 : List (S37)) (r2 : Bool) (r3 : Int) (w : World) (hr0 : Kd.C k37 w A0 l0.length l0) (hc0 : l0.length ≤ c0) (h : levels_Take.f k l0 a1 a2 = some (r1, r2, r3)) :
  Calls Try.prog 23 #[.slice A0 l0.length c0, .int .u64 a1, .int .i64 a2] w fun e w' => ∃ v0_ : Value, e = .returned (.tuple #[v0_, .bool r2, .int .i64 r3]) ∧ Kd.R k37 37 w' w.heap.size (fun _ => True) v0_ r1 ∧ Below w.heap.size w w' := by
 have HR0 := Aside0.mk hr0
 have HC0 := Aside0.mk hc0
 clear hr0 hc0
 have HB := Aside0.mk (Below.refl w.heap.size w)
 have H : ((levels_check.f k l0 (([a2] : List Int))).bind fun t345 => (if t345 = 0 then ((levels_take.f k l0 a1 a2).bind fun bt346 => (some (bt346.1, bt346.2, 0))) else (some (([] : List (S37)), false, t345)))) = some (r1, r2, r3) := h
 clear h
 obtain ⟨y342, hy342⟩ : ∃ y_ : List Int, y_ = (([a2] : List Int)) := ⟨_, rfl⟩
 replace H : ((levels_check.f k l0 y342).bind fun t345 => (if t345 = 0 then ((levels_take.f k l0 a1 a2).bind fun bt346 => (some (bt346.1, bt346.2, 0))) else (some (([] : List (S37)), false, t345)))) = some (r1, r2, r3) := by first | (rw [hy342]; with_reducible exact H) | (have H2_ := (Option.bind_some _ _).symm.trans H; rw [hy342]; with_reducible exact H2_) | (have H2_ := (Option.bind_some _ _).symm.trans H; with_reducible exact H2_) | with_reducible exact H | (rw [hy342]; exact H) | exact H
 have Ny342 := Aside0.mk hy342
 clear hy342
 have H0_ := bo_ H; clear H; obtain ⟨t345, A4, H⟩ := H0_
 replace H : (if t345 = 0 then ((levels_take.f k l0 a1 a2).bind fun bt346 => (some (bt346.1, bt346.2, 0))) else (some (([] : List (S37)), false, t345))) = some (r1, r2, r3) := H
 by_cases c5 : t345 = 0
 ·rw [if_pos c5] at H
  have c5b0 : (t345 == 0) = true := beq_iff_eq.mpr c5
  have c5b1 : (t345 != 0) = false := bne_eq_false_iff_eq.mpr c5
  clear c5
  have H0_ := bo_ H; clear H; obtain ⟨⟨t346, t347⟩, A6, H⟩ := H0_
  replace H : (some (t346, t347, 0)) = some (r1, r2, r3) := H
  simp only [Option.some.injEq, Prod.mk.injEq] at H
  obtain ⟨rfl, rfl, rfl⟩ := H
  go_enter Try.func23, Try.ntmps23
  go_wp2_with (first | ((with_reducible refine gate_dst (N := 14) rfl ?_); refine Kd.R_lit (Kd.int .i64) _ 2 ?hg (N := 14) ?hd (xs := ([a2] : List Int)) (inner := [.int .i64 a2]) (ok := fun _ => True) (okp := fun _ => True) ?hr ?hp (fun _ hk => hk) trivial (Below.refl _ _) (Nat.le_refl _) (by simp) ?_; (case hd => rfl); (case hg => rfl); (case hr => first | (go_simp; done) | (go_simp; rfl)); (case hp => exact (Reps.one (show Kd.M (Kd.int .i64) _ _ _ a2 [.int .i64 a2] from rfl) (Reps.none _ _))); intro v343 w7 ho8 hb hg_ hnew_; clear hg_ hnew_; (first | rw [← Ny342.out] at ho8 | (simp only [Int.reduceToNat] at ho8; rw [← Ny342.out] at ho8)); have HO344 := Aside0.mk (Kd.R_lower ho8 (below_size (hq_ HB))); replace HB := bs_ w hb; clear hb ho8; obtain ⟨Ao9, co9, eo9⟩ := Kd.R_slice HO344.out; subst eo9) | ((with_reducible refine gate_callee (f := 33) rfl ?_); refine goesA_ (some 15) Try.func33 #[.slice A0 l0.length c0, .slice Ao9 y342.length co9] ?_; (with_reducible refine (levels_check.calls k _ _ l0 _ _ y342 t345 _ ?side1 ?side2 ?side3 ?side4 A4.out).mono ?_); (case side1 => exact cs_ HR0 HB); (case side2 => exact HC0.out); (case side3 => exact cr_ HO344); (case side4 => exact (Kd.R_reads' HO344.out).2.1); rintro e w10 ⟨rfl, hb⟩; refine ⟨_, rfl, ?_⟩; replace HO344 := rb_ HO344 hb; replace HB := bs_ w hb; clear hb) | ((with_reducible refine gate_callee (f := 35) rfl ?_); refine goesA_ (some 23) Try.func35 #[.slice A0 l0.length c0, .int .u64 a1, .int .i64 a2] ?_; (with_reducible refine (levels_take.calls k _ _ l0 a1 a2 t346 t347 _ ?side1 ?side2 A6.out).mono ?_); (case side1 => exact cs_ HR0 HB); (case side2 => exact HC0.out); rintro e w11 ⟨v348, rfl, ho0, hb⟩; refine ⟨_, rfl, ?_⟩; have HO349 := Aside0.mk (Kd.R_lower ho0 (below_size (hq_ HB))); replace HO344 := rb_ HO344 hb; replace HB := bs_ w hb; (try clear hb); (try clear hb2); (try clear hk); (try clear hi); (try clear ho0)))
  go_ret3
  exact ⟨_, by first | rfl | (simp [errW_none, errW_some] <;> rfl) | (simp [*, errW_none, errW_some] <;> rfl), by (with_reducible repeat (first | apply Kd.R_alloc | apply Kd.R_drewN | apply Kd.R_drew)); exact HO349.out, by repeat (first | (with_reducible first | exact HB.out | apply below_alloc | apply pw_below_drewN | apply below_drew1) | exact HB.out)⟩
 ·rw [if_neg c5] at H
  have c5b0 : (t345 == 0) = false := beq_eq_false_iff_ne.mpr c5
  have c5b1 : (t345 != 0) = true := bne_iff_ne.mpr c5
  simp only [Option.some.injEq, Prod.mk.injEq] at H
  obtain ⟨rfl, rfl, rfl⟩ := H
  go_enter Try.func23, Try.ntmps23
  go_wp2_with (first | ((with_reducible refine gate_dst (N := 14) rfl ?_); refine Kd.R_lit (Kd.int .i64) _ 2 ?hg (N := 14) ?hd (xs := ([a2] : List Int)) (inner := [.int .i64 a2]) (ok := fun _ => True) (okp := fun _ => True) ?hr ?hp (fun _ hk => hk) trivial (Below.refl _ _) (Nat.le_refl _) (by simp) ?_; (case hd => rfl); (case hg => rfl); (case hr => first | (go_simp; done) | (go_simp; rfl)); (case hp => exact (Reps.one (show Kd.M (Kd.int .i64) _ _ _ a2 [.int .i64 a2] from rfl) (Reps.none _ _))); intro v343 w12 ho13 hb hg_ hnew_; clear hg_ hnew_; (first | rw [← Ny342.out] at ho13 | (simp only [Int.reduceToNat] at ho13; rw [← Ny342.out] at ho13)); have HO344 := Aside0.mk (Kd.R_lower ho13 (below_size (hq_ HB))); replace HB := bs_ w hb; clear hb ho13; obtain ⟨Ao14, co14, eo14⟩ := Kd.R_slice HO344.out; subst eo14) | ((with_reducible refine gate_callee (f := 33) rfl ?_); refine goesA_ (some 15) Try.func33 #[.slice A0 l0.length c0, .slice Ao14 y342.length co14] ?_; (with_reducible refine (levels_check.calls k _ _ l0 _ _ y342 t345 _ ?side1 ?side2 ?side3 ?side4 A4.out).mono ?_); (case side1 => exact cs_ HR0 HB); (case side2 => exact HC0.out); (case side3 => exact cr_ HO344); (case side4 => exact (Kd.R_reads' HO344.out).2.1); rintro e w15 ⟨rfl, hb⟩; refine ⟨_, rfl, ?_⟩; replace HO344 := rb_ HO344 hb; replace HB := bs_ w hb; clear hb))
  go_ret3
  exact ⟨_, by first | rfl | (simp [errW_none, errW_some] <;> rfl) | (simp [*, errW_none, errW_some] <;> rfl), by first | exact Kd.R_nil _ _ _ _ _ | exact Kd.N_nil _ _ _ _ _ | exact Kd.V_nil _ _ _ _ _ | exact Kd.Q_nil _ _ _ _ _ | exact Kd.S_nil _ _ _ _ _, by repeat (first | (with_reducible first | exact HB.out | apply below_alloc | apply pw_below_drewN | apply below_drew1) | exact HB.out)⟩

/-! ### spigotlaw04_given: function 31 -/
def spigotlaw04_given.f  : Option ((List (S37))) := some (([(⟨(⟨5, 1, 1⟩ : S34), 5, 0, 0⟩ : S37), (⟨(⟨8, 1, 4⟩ : S34), 8, 0, 0⟩ : S37)] : List (S37)))
set_option maxHeartbeats 8000000 in
set_option maxRecDepth 100000 in
theorem spigotlaw04_given.calls  (r : List (S37)) (w : World) (h : spigotlaw04_given.f  = some r) :
  Calls Try.prog 31 #[] w fun e w' => ∃ v0_ : Value, e = .returned (v0_) ∧ Kd.R k37 37 w' w.heap.size (fun _ => True) v0_ r ∧ Below w.heap.size w w' := by
 have hu34 := Try.underlying34
 have hu37 := Try.underlying37
 have HB := Aside0.mk (Below.refl w.heap.size w)
 have H : (some (([(⟨(⟨5, 1, 1⟩ : S34), 5, 0, 0⟩ : S37), (⟨(⟨8, 1, 4⟩ : S34), 8, 0, 0⟩ : S37)] : List (S37)))) = some r := h
 clear h
 obtain ⟨y350, hy350⟩ : ∃ y_ : List (S37), y_ = (([(⟨(⟨5, 1, 1⟩ : S34), 5, 0, 0⟩ : S37), (⟨(⟨8, 1, 4⟩ : S34), 8, 0, 0⟩ : S37)] : List (S37))) := ⟨_, rfl⟩
 replace H : (some y350) = some r := by first | (rw [hy350]; with_reducible exact H) | (have H2_ := (Option.bind_some _ _).symm.trans H; rw [hy350]; with_reducible exact H2_) | (have H2_ := (Option.bind_some _ _).symm.trans H; with_reducible exact H2_) | with_reducible exact H | (rw [hy350]; exact H) | exact H
 have Ny350 := Aside0.mk hy350
 clear hy350
 obtain rfl := Option.some.inj H
 go_enter Try.func31, Try.ntmps31
 go_wp2_with (first | ((with_reducible refine gate_dst (N := 5) rfl ?_); refine Kd.R_lit k37 _ 37 ?hg (N := 5) ?hd (xs := ([(⟨(⟨5, 1, 1⟩ : S34), 5, 0, 0⟩ : S37), (⟨(⟨8, 1, 4⟩ : S34), 8, 0, 0⟩ : S37)] : List (S37))) (inner := [.int .i64 5, .int .i64 1, .int .i64 1, .int .i64 5, .int .i64 0, .int .u64 0, .int .i64 8, .int .i64 1, .int .i64 4, .int .i64 8, .int .i64 0, .int .u64 0]) (ok := fun _ => True) (okp := fun _ => True) ?hr ?hp (fun _ hk => hk) trivial (Below.refl _ _) (Nat.le_refl _) (by simp) ?_; (case hd => rfl); (case hg => rfl); (case hr => first | (go_simp; done) | (go_simp; rfl)); (case hp => exact (Reps.c6 (show Kd.M k37 _ _ _ (⟨(⟨5, 1, 1⟩ : S34), 5, 0, 0⟩ : S37) [.int .i64 5, .int .i64 1, .int .i64 1, .int .i64 5, .int .i64 0, .int .u64 0] from (k37_mkM _ _ _ (⟨(⟨5, 1, 1⟩ : S34), 5, 0, 0⟩ : S37) )) (Reps.c6 (show Kd.M k37 _ _ _ (⟨(⟨8, 1, 4⟩ : S34), 8, 0, 0⟩ : S37) [.int .i64 8, .int .i64 1, .int .i64 4, .int .i64 8, .int .i64 0, .int .u64 0] from (k37_mkM _ _ _ (⟨(⟨8, 1, 4⟩ : S34), 8, 0, 0⟩ : S37) )) (Reps.none _ _)))); intro v351 w1 ho2 hb hg_ hnew_; clear hg_ hnew_; (first | rw [← Ny350.out] at ho2 | (simp only [Int.reduceToNat] at ho2; rw [← Ny350.out] at ho2)); have HO352 := Aside0.mk (Kd.R_lower ho2 (below_size (hq_ HB))); replace HB := bs_ w hb; clear hb ho2))
 go_ret
 exact ⟨_, by first | rfl | (simp [errW_none, errW_some] <;> rfl) | (simp [*, errW_none, errW_some] <;> rfl), by (with_reducible repeat (first | apply Kd.R_alloc | apply Kd.R_drewN | apply Kd.R_drew)); exact HO352.out, by repeat (first | (with_reducible first | exact HB.out | apply below_alloc | apply pw_below_drewN | apply below_drew1) | exact HB.out)⟩

end Go.Proofs.Ytaegpnbgppjicaa.X
