-- written by xprint.py, a program of this session over the kit's print
import Derived.Test.YtjjmnafhaneflaaX0
import Derived.Test.YtjjmnafhaneflaaX28
import Derived.Test.YtjjmnafhaneflaaX34
namespace Go.Proofs.Ytjjmnafhaneflaa.X
open Go.RowKit Go.Proofs.YtjjmnafhaneflaaW.PrintWords Go.Proofs.YtjjmnafhaneflaaW.PrintLast Go.Proofs.YtjjmnafhaneflaaW.PrintMore
attribute [local go_sem] max2_int min2_int max_two min_two max_three min_three max_four min_four   -- for this text's walks alone
set_option linter.unusedVariables false
set_option linter.unusedSimpArgs false

/-! ### spigotlaw38_passes: function 28 -/
def spigotlaw38_passes.l0 : Nat → List (S58) → List (S58) → Int → Int → Int → Int → Int → Int → Int → Option ((List (S58)) × Bool)
  | 0, _, _, _, _, _, _, _, _, _ => none
  | k + 1, x1, x6, x9, x515000, x515001, x515002, x515003, x515004, x515005 => if x9 < (x1.length : Int) then (if 0 ≤ x9 then ((bucket_Refill.f k x515000 x515001 x515002 x515003 x515004 x515005 ((rd_T58 x1 x9).f0)).bind fun bt516 => (if bt516.2.2.2.2.2.2 = 0 then ((bucket_Charge.f bt516.1 bt516.2.1 bt516.2.2.1 bt516.2.2.2.1 bt516.2.2.2.2.1 bt516.2.2.2.2.2.1 ((rd_T58 x1 x9).f1)).bind fun bt525 => (if bt525.2.2.2.2.2.2 = 0 then (if x6.length < 8796093022208 then (spigotlaw38_passes.l0 k x1 (x6 ++ [(⟨(rd_T58 x1 x9).f0, (rd_T58 x1 x9).f1⟩ : S58)]) (wrap64 (x9 + 1)) bt525.1 bt525.2.1 bt525.2.2.1 bt525.2.2.2.1 bt525.2.2.2.2.1 bt525.2.2.2.2.2.1) else (none)) else (if bt525.2.2.2.2.2.2 = 20 then (spigotlaw38_passes.l0 k x1 x6 (wrap64 (x9 + 1)) bt516.1 bt516.2.1 bt516.2.2.1 bt516.2.2.2.1 bt516.2.2.2.2.1 bt516.2.2.2.2.2.1) else (some (([] : List (S58)), false))))) else (some (([] : List (S58)), false)))) else (none)) else (some (x6, true))
def spigotlaw38_passes.f (k : Nat) (a0_0 : Int) (a0_1 : Int) (a0_2 : Int) (l1 : List (S58)) : Option ((List (S58)) × Bool) := if (l1.length : Int) = 0 then (some (([] : List (S58)), true)) else (if 0 < (l1.length : Int) then ((bucket_Full.f a0_0 a0_1 a0_2 ((rd_T58 l1 0).f0)).bind fun bt507 => (if bt507.2.2.2.2.2.2 = 0 then (spigotlaw38_passes.l0 k l1 ([] : List (S58)) 0 bt507.1 bt507.2.1 bt507.2.2.1 bt507.2.2.2.1 bt507.2.2.2.2.1 bt507.2.2.2.2.2.1) else (some (([] : List (S58)), false)))) else (none))
theorem spigotlaw38_passes.mono_l : ∀ k, (∀ y0 y1 y2 y3 y4 y5 y6 y7 y8, LeO (spigotlaw38_passes.l0 k y0 y1 y2 y3 y4 y5 y6 y7 y8) (spigotlaw38_passes.l0 (k + 1) y0 y1 y2 y3 y4 y5 y6 y7 y8))
  | 0 => fun _ _ _ _ _ _ _ _ _ r h => by simp [spigotlaw38_passes.l0] at h
  | k + 1 => by
    have ih0 := spigotlaw38_passes.mono_l k
    · intro y0 y1 y2 y3 y4 y5 y6 y7 y8
      unfold spigotlaw38_passes.l0
      repeat' first
      | (with_reducible exact ih0 _ _ _ _ _ _ _ _ _)
      | (with_reducible exact bucket_Refill.mono _ _ _ _ _ _ _ _)
      | (with_reducible exact LeO.refl _)
      | (with_reducible exact LeO.none _)
      | (with_reducible refine LeO.ite ?_ ?_)
      | (with_reducible refine LeO.bind ?_ (fun _ => ?_))
      | exact ih0 _ _ _ _ _ _ _ _ _
      | exact bucket_Refill.mono _ _ _ _ _ _ _ _
      | exact LeO.none _
      | refine LeO.ite ?_ ?_
      | refine LeO.bind ?_ (fun _ => ?_)
theorem spigotlaw38_passes.mono : ∀ a0 a1 a2 a3 k, LeO (spigotlaw38_passes.f k a0 a1 a2 a3) (spigotlaw38_passes.f (k + 1) a0 a1 a2 a3) := by
  intro a0 a1 a2 a3 k
  have ih0 := spigotlaw38_passes.mono_l k
  unfold spigotlaw38_passes.f
  repeat' first
      | (with_reducible exact ih0 _ _ _ _ _ _ _ _ _)
      | (with_reducible exact bucket_Refill.mono _ _ _ _ _ _ _ _)
      | (with_reducible exact LeO.refl _)
      | (with_reducible exact LeO.none _)
      | (with_reducible refine LeO.ite ?_ ?_)
      | (with_reducible refine LeO.bind ?_ (fun _ => ?_))
      | exact ih0 _ _ _ _ _ _ _ _ _
      | exact bucket_Refill.mono _ _ _ _ _ _ _ _
      | exact LeO.none _
      | refine LeO.ite ?_ ?_
      | refine LeO.bind ?_ (fun _ => ?_)
def spigotlaw38_passes.T4 : Bool × List (List Nat × List Nat) := (true, [([], []), ([], []), ([1], [1]), ([2], [2]), ([3], [3]), ([0, 4], [0, 4]), ([5], [5]), ([6], [6]), ([6], [6]), ([], []), ([9, 7, 5, 0, 1, 2, 3, 4, 5, 6, 7, 9], [7, 9]), ([8, 10, 0, 1, 2, 3, 4, 5, 6, 7, 8, 9, 10], [8])])
def spigotlaw38_passes.B4 : List Nat := [0, 0, 2, 6, 14, 31, 63, 127, 127, 0, 767, 2047]
theorem spigotlaw38_passes.tab4 : rtab .any (opsOf Try.f28 4) = spigotlaw38_passes.T4 := by kernel_rfl
theorem spigotlaw38_passes.bits4 : waitsOk spigotlaw38_passes.T4.2 spigotlaw38_passes.B4 = true := by kernel_rfl
def spigotlaw38_passes.T10 : Bool × List (List Nat × List Nat) := (true, [([], []), ([], []), ([], []), ([1, 2], [1, 2]), ([3], [3]), ([4], [4]), ([0, 5], [0, 5]), ([6], [6]), ([7], [7]), ([7], [7]), ([], []), ([10, 8, 6, 0, 1, 2, 3, 4, 5, 6, 7, 8, 10], [8, 10]), ([9, 11, 0, 1, 2, 3, 4, 5, 6, 7, 8, 9, 10, 11], [9])])
def spigotlaw38_passes.B10 : List Nat := [0, 0, 0, 6, 14, 30, 63, 127, 255, 255, 0, 1535, 4095]
theorem spigotlaw38_passes.tab10 : rtab .any (opsOf Try.f28 10) = spigotlaw38_passes.T10 := by kernel_rfl
theorem spigotlaw38_passes.bits10 : waitsOk spigotlaw38_passes.T10.2 spigotlaw38_passes.B10 = true := by kernel_rfl
def spigotlaw38_passes.T14 : Bool × List (List Nat × List Nat) := (true, [([], []), ([], []), ([], []), ([1, 2], [1, 2]), ([3], [3]), ([4], [4]), ([0, 5], [0, 5]), ([6], [6]), ([7], [7]), ([7], [7]), ([], []), ([10, 8, 6, 0, 1, 2, 3, 4, 5, 6, 7, 8, 10], [8, 10]), ([9, 11, 0, 1, 2, 3, 4, 5, 6, 7, 8, 9, 10, 11], [9])])
def spigotlaw38_passes.B14 : List Nat := [0, 0, 0, 6, 14, 30, 63, 127, 255, 255, 0, 1535, 4095]
theorem spigotlaw38_passes.tab14 : rtab .any (opsOf Try.f28 14) = spigotlaw38_passes.T14 := by kernel_rfl
theorem spigotlaw38_passes.bits14 : waitsOk spigotlaw38_passes.T14.2 spigotlaw38_passes.B14 = true := by kernel_rfl
set_option maxHeartbeats 8000000 in
set_option maxRecDepth 100000 in
theorem spigotlaw38_passes.calls (k : Nat) (a0_0 : Int) (a0_1 : Int) (a0_2 : Int) (A1 : Option Addr) (c1 : Nat) (l1 : List (S58)) (r1 : List (S58)) (r2 : Bool) (w : World) (hr1 : Kd.C k58 w A1 l1.length l1) (hc1 : l1.length ≤ c1) (h : spigotlaw38_passes.f k a0_0 a0_1 a0_2 l1 = some (r1, r2)) :
  Calls Try.prog 28 #[.agg #[.int .i64 a0_0, .int .i64 a0_1, .int .i64 a0_2], .slice A1 l1.length c1] w fun e w' => ∃ v0_ : Value, e = .returned (.tuple #[v0_, .bool r2]) ∧ Kd.R k58 58 w' w.heap.size (fun _ => True) v0_ r1 ∧ Below w.heap.size w w' := by
 have hu43 := Try.underlying43
 have hu74 := Try.underlying74
 have hu58 := Try.underlying58
 have HR1 := Aside0.mk hr1
 have HC1 := Aside0.mk hc1
 clear hr1 hc1
 have HB := Aside0.mk (Below.refl w.heap.size w)
 have H : (if (l1.length : Int) = 0 then (some (([] : List (S58)), true)) else (if 0 < (l1.length : Int) then ((bucket_Full.f a0_0 a0_1 a0_2 ((rd_T58 l1 0).f0)).bind fun bt507 => (if bt507.2.2.2.2.2.2 = 0 then (spigotlaw38_passes.l0 k l1 ([] : List (S58)) 0 bt507.1 bt507.2.1 bt507.2.2.1 bt507.2.2.2.1 bt507.2.2.2.2.1 bt507.2.2.2.2.2.1) else (some (([] : List (S58)), false)))) else (none))) = some (r1, r2) := h
 clear h
 by_cases c3 : (l1.length : Int) = 0
 ·rw [if_pos c3] at H
  have c3b0 : ((l1.length : Int) == 0) = true := beq_iff_eq.mpr c3
  have c3b1 : ((l1.length : Int) != 0) = false := bne_eq_false_iff_eq.mpr c3
  clear c3
  simp only [Option.some.injEq, Prod.mk.injEq] at H
  obtain ⟨rfl, rfl⟩ := H
  go_enter Try.func28, Try.ntmps28
  go_wp2_with (first | ((with_reducible refine gate_dst (N := 2) rfl ?_); refine bx_ #[.int .i64 a0_0, .int .i64 a0_1, .int .i64 a0_2] 43 ?_; intro gb505 hg w4 BK505 hb; have GW505 := bz_ w hg; have GE505 := GW505; replace HB := bs_ w hb; clear hb hg))
  go_ret2
  exact ⟨_, by first | rfl | (simp [errW_none, errW_some] <;> rfl) | (simp [*, errW_none, errW_some] <;> rfl), by first | exact Kd.R_nil _ _ _ _ _ | exact Kd.N_nil _ _ _ _ _ | exact Kd.V_nil _ _ _ _ _ | exact Kd.Q_nil _ _ _ _ _ | exact Kd.S_nil _ _ _ _ _, by repeat (first | (with_reducible first | exact HB.out | apply below_alloc | apply pw_below_drewN | apply below_drew1 | refine below_set ?_ GE505.out) | exact HB.out)⟩
 ·rw [if_neg c3] at H
  have c3b0 : ((l1.length : Int) == 0) = false := beq_eq_false_iff_ne.mpr c3
  have c3b1 : ((l1.length : Int) != 0) = true := bne_iff_ne.mpr c3
  have c3b2 : ¬ (l1 = []) := fun h_ => c3 (by rw [h_]; rfl)
  by_cases c5 : 0 < (l1.length : Int)
  rotate_left
  ·rw [if_neg c5] at H; exact absurd H (by simp)
  rw [if_pos c5] at H
  have c5b0 : decide (0 < (l1.length : Int)) = true := decide_eq_true c5
  have c5b1 : decide (0 < l1.length) = true := decide_eq_true (by omega)
  clear c5
  obtain ⟨⟨t507, t508, t509, t510, t511, t512, t513⟩, A6, H⟩ := bo_ H
  replace H : (if t513 = 0 then (spigotlaw38_passes.l0 k l1 ([] : List (S58)) 0 t507 t508 t509 t510 t511 t512) else (some (([] : List (S58)), false))) = some (r1, r2) := H
  by_cases c7 : t513 = 0
  ·rw [if_pos c7] at H
   have c7b0 : (t513 == 0) = true := beq_iff_eq.mpr c7
   have c7b1 : (t513 != 0) = false := bne_eq_false_iff_eq.mpr c7
   clear c7
   have H' := Aside0.mk H
   clear H
   go_enter Try.func28, Try.ntmps28
   try go_wp2_with (first | ((with_reducible refine gate_dst (N := 2) rfl ?_); refine bx_ #[.int .i64 a0_0, .int .i64 a0_1, .int .i64 a0_2] 43 ?_; intro gb505 hg w8 BK505 hb; have GW505 := bz_ w hg; have GE505 := GW505; replace HB := bs_ w hb; clear hb hg))
   replace BK505 := Aside0.mk (blk_drew BK505.out)
   replace HB := Aside0.mk (below_drew1 HB.out)
   have p506 : 0 ≤ (0 : Int) := (by omega)
   have q506 : 0 < (l1.length : Int) := of_decide_eq_true (by first | (with_reducible assumption) | assumption)
   obtain ⟨ad506, e506, hx506_0, hx506_1⟩ := at_T58 HR1.out 0 p506 q506
   have hw506_1 := hx506_1
   (try rw [show ((0 : Int)).toNat = 0 from rfl] at hw506_1)
   (try rw [show 0 * 2 = 0 from rfl] at hw506_1)
   (try rw [Addr.add_zero'] at hw506_1)
   have hw506_0 := hx506_0
   (try rw [show ((0 : Int)).toNat = 0 from rfl] at hw506_0)
   (try rw [show 0 * 2 = 0 from rfl] at hw506_0)
   (try rw [Addr.add_zero'] at hw506_0)
   cases e506
   have qi506 : (0 < l1.length) = True := eq_true (by omega)
   (try rw [show ((0 : Int)).toNat = 0 from rfl] at hx506_0)
   (try rw [show 0 * 2 = 0 from rfl] at hx506_0)
   (try rw [Addr.add_zero'] at hx506_0)
   (try rw [show ((0 : Int)).toNat = 0 from rfl] at hx506_1)
   (try rw [show 0 * 2 = 0 from rfl] at hx506_1)
   (try rw [Addr.add_zero'] at hx506_1)
   replace hx506_0 := (HB.out.cell (World.block_lt_of_cell? w _ hx506_0)).trans hx506_0
   replace hx506_1 := (HB.out.cell (World.block_lt_of_cell? w _ hx506_1)).trans hx506_1
   replace p506 := eq_true p506
   replace q506 := eq_true q506
   refine start_ (n := 12) (S := fun w' => w'.cell? ⟨gb505, 0, none⟩ = some (.int .i64 a0_0) ∧ w'.cell? ⟨gb505, 1, none⟩ = some (.int .i64 a0_1) ∧ w'.cell? ⟨gb505, 2, none⟩ = some (.int .i64 a0_2) ∧ w'.cell? ad506 = some (.int .u64 ((rd_T58 l1 0).f0)) ∧ w'.cell? ⟨ad506.block, ad506.off + 1, none⟩ = some (.int .i64 ((rd_T58 l1 0).f1))) (ds := []) (bl_ 12 0) (by kernel_rfl) rfl (by kernel_rfl) ⟨(blk_cell BK505.out 0).trans rfl, (blk_cell BK505.out 1).trans rfl, (blk_cell BK505.out 2).trans rfl, ((HB.out.cell (World.block_lt_of_cell? w _ hw506_0)).trans hw506_0), ((HB.out.cell (World.block_lt_of_cell? w _ hw506_1)).trans hw506_1)⟩ (fun hHeld => ?_); refine with_tabW spigotlaw38_passes.tab4 spigotlaw38_passes.bits4 (fun HT_ HW_ => ?_)
   generalize w8.drew = w9 at BK505 HB hx506_0 hx506_1 hHeld ⊢
   refine pa_ 1 (some 19) (bl_ 12 2) HT_ ?_
   refine pa_ 2 (some 20) (bl_ 12 6) HT_ ?_
   refine pa_ 3 (some 21) (bl_ 12 14) HT_ ?_
   refine ta_ 0 (some 18) (bl_ 12 15) HT_ HW_ hHeld ?_
   refine ta_ 4 (some 22) (bl_ 12 31) HT_ HW_ hHeld ?_
   refine join_ (σ := Nat) 2 (bl_ 12 1023) (fun s_ => [(23, .tuple #[.agg #[.int .i64 t507, .int .i64 t508, .int .i64 t509, .int .i64 t510, .int .i64 t511, .int .u64 t512], .int .i64 t513]), (7, .pointer (some ⟨s_, 0, none⟩)), (17, .tuple #[.agg #[.int .i64 t507, .int .i64 t508, .int .i64 t509, .int .i64 t510, .int .i64 t511, .int .u64 t512], .int .i64 t513]), (24, .agg #[.int .i64 t507, .int .i64 t508, .int .i64 t509, .int .i64 t510, .int .i64 t511, .int .u64 t512]), (25, .int .i64 t513)]) (fun s_ w' => (w'.cell? ⟨gb505, 0, none⟩ = some (.int .i64 a0_0) ∧ w'.cell? ⟨gb505, 1, none⟩ = some (.int .i64 a0_1) ∧ w'.cell? ⟨gb505, 2, none⟩ = some (.int .i64 a0_2) ∧ w'.cell? ad506 = some (.int .u64 ((rd_T58 l1 0).f0)) ∧ w'.cell? ⟨ad506.block, ad506.off + 1, none⟩ = some (.int .i64 ((rd_T58 l1 0).f1))) ∧ (w'.heap[gb505]? = some (.cells #[.int .i64 a0_0, .int .i64 a0_1, .int .i64 a0_2] 43 (0, 0))) ∧ (w'.heap[s_]? = some (.cells #[.int .i64 0, .int .i64 0, .int .i64 0, .int .i64 0, .int .i64 0, .int .u64 0] 74 (0, 0))) ∧ (w.heap.size ≤ s_) ∧ (w.heap.size ≤ s_) ∧ (gb505 ≠ s_) ∧ (s_ ≠ gb505) ∧ (Below w.heap.size w w')) ?_ ?_
   rotate_left
   ·intro hCont
    refine tw_ 5 9 (some 23) (some 7) (bl_ 12 63) (bl_ 12 543) HT_ (fun K hK => ?_) fun K hK => ?_
    ·refine goesB_ Try.func42 #[.agg #[.int .i64 a0_0, .int .i64 a0_1, .int .i64 a0_2], .int .u64 ((rd_T58 l1 0).f0)] ?_
     with_reducible refine (bucket_Full.calls a0_0 a0_1 a0_2 ((rd_T58 l1 0).f0) t507 t508 t509 t510 t511 t512 t513 _ A6.out).mono ?_
     rintro e w10 ⟨rfl, hb⟩
     refine ⟨_, rfl, ?_⟩
     replace BK505 := bb_ BK505 hb
     replace HB := bs_ w hb
     clear hb
     refine hK.out _ _ ⟨(blk_cell BK505.out 0).trans rfl, (blk_cell BK505.out 1).trans rfl, (blk_cell BK505.out 2).trans rfl, ((HB.out.cell (World.block_lt_of_cell? w _ hw506_0)).trans hw506_0), ((HB.out.cell (World.block_lt_of_cell? w _ hw506_1)).trans hw506_1)⟩ (fun hHeld => ?_)
     clear hK K
     refine nm_ (some 23) ?_
     refine pa_ 6 (some 17) (bl_ 12 127) HT_ ?_
     refine pa_ 7 (some 24) (bl_ 12 255) HT_ ?_
     refine pa_ 8 (some 25) (bl_ 12 511) HT_ ?_
     refine oa_ 9 (some 7) (bl_ 12 1023) HT_ fun K hK => ?_
     refine bs2_ #[.int .i64 0, .int .i64 0, .int .i64 0, .int .i64 0, .int .i64 0, .int .u64 0] 74 ?_
     intro gb514 hg w11 BK514 hb
     have GW514 := bz_ w hg
     have GE514 := GW514
     have NB505_514 := bn_ BK505 hg
     have NB514_505 := bm_ BK505 hg
     replace BK505 := bb_ BK505 hb
     replace HB := bs_ w hb
     clear hb hg
     refine hK.out _ _ ⟨(blk_cell BK505.out 0).trans rfl, (blk_cell BK505.out 1).trans rfl, (blk_cell BK505.out 2).trans rfl, ((HB.out.cell (World.block_lt_of_cell? w _ hw506_0)).trans hw506_0), ((HB.out.cell (World.block_lt_of_cell? w _ hw506_1)).trans hw506_1)⟩ (fun hHeld => ?_)
     clear hK K
     refine nm_ (some 7) ?_
     exact no_ (hCont (gb514) _ ⟨hHeld, (bq_ BK505), (bq_ BK514), GW514.out, GE514.out, NB505_514.out, NB514_505.out, bh_⟩)
    ·refine bs2_ #[.int .i64 0, .int .i64 0, .int .i64 0, .int .i64 0, .int .i64 0, .int .u64 0] 74 ?_
     intro gb514 hg w10 BK514 hb
     have GW514 := bz_ w hg
     have GE514 := GW514
     have NB505_514 := bn_ BK505 hg
     have NB514_505 := bm_ BK505 hg
     replace BK505 := bb_ BK505 hb
     replace HB := bs_ w hb
     clear hb hg
     refine hK.out _ _ ⟨(blk_cell BK505.out 0).trans rfl, (blk_cell BK505.out 1).trans rfl, (blk_cell BK505.out 2).trans rfl, ((HB.out.cell (World.block_lt_of_cell? w _ hw506_0)).trans hw506_0), ((HB.out.cell (World.block_lt_of_cell? w _ hw506_1)).trans hw506_1)⟩ (fun hHeld => ?_)
     clear hK K
     refine nm_ (some 7) ?_
     refine oa_ 5 (some 23) (bl_ 12 575) HT_ fun K hK => ?_
     refine goesB_ Try.func42 #[.agg #[.int .i64 a0_0, .int .i64 a0_1, .int .i64 a0_2], .int .u64 ((rd_T58 l1 0).f0)] ?_
     with_reducible refine (bucket_Full.calls a0_0 a0_1 a0_2 ((rd_T58 l1 0).f0) t507 t508 t509 t510 t511 t512 t513 _ A6.out).mono ?_
     rintro e w11 ⟨rfl, hb⟩
     refine ⟨_, rfl, ?_⟩
     replace BK505 := bb_ BK505 hb
     replace BK514 := bb_ BK514 hb
     replace HB := bs_ w hb
     clear hb
     refine hK.out _ _ ⟨(blk_cell BK505.out 0).trans rfl, (blk_cell BK505.out 1).trans rfl, (blk_cell BK505.out 2).trans rfl, ((HB.out.cell (World.block_lt_of_cell? w _ hw506_0)).trans hw506_0), ((HB.out.cell (World.block_lt_of_cell? w _ hw506_1)).trans hw506_1)⟩ (fun hHeld => ?_)
     clear hK K
     refine nm_ (some 23) ?_
     refine pa_ 6 (some 17) (bl_ 12 639) HT_ ?_
     refine pa_ 7 (some 24) (bl_ 12 767) HT_ ?_
     refine pa_ 8 (some 25) (bl_ 12 1023) HT_ ?_
     exact no_ (hCont (gb514) _ ⟨hHeld, (bq_ BK505), (bq_ BK514), GW514.out, GE514.out, NB505_514.out, NB514_505.out, bh_⟩)
   rintro gb514 w12 ⟨hS_, h0_, h1_, h2_, h3_, h4_, h5_, h6_⟩
   have BK514 := Aside0.mk h1_
   have GW514 := Aside0.mk h2_
   have GE514 := Aside0.mk h3_
   have NB505_514 := Aside0.mk h4_
   have NB514_505 := Aside0.mk h5_
   replace BK505 := Aside0.mk h0_
   replace HB := Aside0.mk h6_
   clear h0_ h1_ h2_ h3_ h4_ h5_ h6_
   have hHeld := hS_
   refine nq_ ?_
   refine oa_ 10 none (bl_ 12 2047) HT_ fun K hK => ?_
   have hs13 : w12.cell? ⟨gb514, 0, none⟩ = some (.int .i64 0) := (blk_cell BK514.out 0).trans rfl
   have hfs13 := blk_frozen BK514.out 0
   have hns13_0 := NB505_514.out
   have hms13_0 := NB514_505.out
   have hs14 : w12.cell? ⟨gb514, 1, none⟩ = some (.int .i64 0) := (blk_cell BK514.out 1).trans rfl
   have hfs14 := blk_frozen BK514.out 1
   have hns14_0 := NB505_514.out
   have hms14_0 := NB514_505.out
   have hs15 : w12.cell? ⟨gb514, 2, none⟩ = some (.int .i64 0) := (blk_cell BK514.out 2).trans rfl
   have hfs15 := blk_frozen BK514.out 2
   have hns15_0 := NB505_514.out
   have hms15_0 := NB514_505.out
   have hs16 : w12.cell? ⟨gb514, 3, none⟩ = some (.int .i64 0) := (blk_cell BK514.out 3).trans rfl
   have hfs16 := blk_frozen BK514.out 3
   have hns16_0 := NB505_514.out
   have hms16_0 := NB514_505.out
   have hs17 : w12.cell? ⟨gb514, 4, none⟩ = some (.int .i64 0) := (blk_cell BK514.out 4).trans rfl
   have hfs17 := blk_frozen BK514.out 4
   have hns17_0 := NB505_514.out
   have hms17_0 := NB514_505.out
   have hs18 : w12.cell? ⟨gb514, 5, none⟩ = some (.int .u64 0) := (blk_cell BK514.out 5).trans rfl
   have hfs18 := blk_frozen BK514.out 5
   have hns18_0 := NB505_514.out
   have hms18_0 := NB514_505.out
   refine sk_ ?_
   refine hK.out _ _ ⟨((cell_far (p := ⟨gb514, _, none⟩) NB505_514.out _).trans (((cell_far (p := ⟨gb514, _, none⟩) NB505_514.out _).trans (((cell_far (p := ⟨gb514, _, none⟩) NB505_514.out _).trans (((cell_far (p := ⟨gb514, _, none⟩) NB505_514.out _).trans (((cell_far (p := ⟨gb514, _, none⟩) NB505_514.out _).trans (((cell_far (p := ⟨gb514, _, none⟩) NB505_514.out _).trans (hHeld.1)))))))))))), ((cell_far (p := ⟨gb514, _, none⟩) NB505_514.out _).trans (((cell_far (p := ⟨gb514, _, none⟩) NB505_514.out _).trans (((cell_far (p := ⟨gb514, _, none⟩) NB505_514.out _).trans (((cell_far (p := ⟨gb514, _, none⟩) NB505_514.out _).trans (((cell_far (p := ⟨gb514, _, none⟩) NB505_514.out _).trans (((cell_far (p := ⟨gb514, _, none⟩) NB505_514.out _).trans (hHeld.2.1)))))))))))), ((cell_far (p := ⟨gb514, _, none⟩) NB505_514.out _).trans (((cell_far (p := ⟨gb514, _, none⟩) NB505_514.out _).trans (((cell_far (p := ⟨gb514, _, none⟩) NB505_514.out _).trans (((cell_far (p := ⟨gb514, _, none⟩) NB505_514.out _).trans (((cell_far (p := ⟨gb514, _, none⟩) NB505_514.out _).trans (((cell_far (p := ⟨gb514, _, none⟩) NB505_514.out _).trans (hHeld.2.2.1)))))))))))), ((cell_far (p := ⟨gb514, _, none⟩) (by first | exact Nat.ne_of_lt (Nat.lt_of_lt_of_le (by have := World.block_lt_of_cell? _ _ hw506_0; first | rwa [add_block] at this | exact this) GW514.out) | (rw [add_block]; exact Nat.ne_of_lt (Nat.lt_of_lt_of_le (by have := World.block_lt_of_cell? _ _ hw506_0; first | rwa [add_block] at this | exact this) GW514.out)) | (show (Addr.add _ _).block ≠ _; rw [add_block]; exact Nat.ne_of_lt (Nat.lt_of_lt_of_le (by have := World.block_lt_of_cell? _ _ hw506_0; first | rwa [add_block] at this | exact this) GW514.out)) | (dsimp only; exact Nat.ne_of_lt (Nat.lt_of_lt_of_le (by have := World.block_lt_of_cell? _ _ hw506_0; first | rwa [add_block] at this | exact this) GW514.out))) _).trans (((cell_far (p := ⟨gb514, _, none⟩) (by first | exact Nat.ne_of_lt (Nat.lt_of_lt_of_le (by have := World.block_lt_of_cell? _ _ hw506_0; first | rwa [add_block] at this | exact this) GW514.out) | (rw [add_block]; exact Nat.ne_of_lt (Nat.lt_of_lt_of_le (by have := World.block_lt_of_cell? _ _ hw506_0; first | rwa [add_block] at this | exact this) GW514.out)) | (show (Addr.add _ _).block ≠ _; rw [add_block]; exact Nat.ne_of_lt (Nat.lt_of_lt_of_le (by have := World.block_lt_of_cell? _ _ hw506_0; first | rwa [add_block] at this | exact this) GW514.out)) | (dsimp only; exact Nat.ne_of_lt (Nat.lt_of_lt_of_le (by have := World.block_lt_of_cell? _ _ hw506_0; first | rwa [add_block] at this | exact this) GW514.out))) _).trans (((cell_far (p := ⟨gb514, _, none⟩) (by first | exact Nat.ne_of_lt (Nat.lt_of_lt_of_le (by have := World.block_lt_of_cell? _ _ hw506_0; first | rwa [add_block] at this | exact this) GW514.out) | (rw [add_block]; exact Nat.ne_of_lt (Nat.lt_of_lt_of_le (by have := World.block_lt_of_cell? _ _ hw506_0; first | rwa [add_block] at this | exact this) GW514.out)) | (show (Addr.add _ _).block ≠ _; rw [add_block]; exact Nat.ne_of_lt (Nat.lt_of_lt_of_le (by have := World.block_lt_of_cell? _ _ hw506_0; first | rwa [add_block] at this | exact this) GW514.out)) | (dsimp only; exact Nat.ne_of_lt (Nat.lt_of_lt_of_le (by have := World.block_lt_of_cell? _ _ hw506_0; first | rwa [add_block] at this | exact this) GW514.out))) _).trans (((cell_far (p := ⟨gb514, _, none⟩) (by first | exact Nat.ne_of_lt (Nat.lt_of_lt_of_le (by have := World.block_lt_of_cell? _ _ hw506_0; first | rwa [add_block] at this | exact this) GW514.out) | (rw [add_block]; exact Nat.ne_of_lt (Nat.lt_of_lt_of_le (by have := World.block_lt_of_cell? _ _ hw506_0; first | rwa [add_block] at this | exact this) GW514.out)) | (show (Addr.add _ _).block ≠ _; rw [add_block]; exact Nat.ne_of_lt (Nat.lt_of_lt_of_le (by have := World.block_lt_of_cell? _ _ hw506_0; first | rwa [add_block] at this | exact this) GW514.out)) | (dsimp only; exact Nat.ne_of_lt (Nat.lt_of_lt_of_le (by have := World.block_lt_of_cell? _ _ hw506_0; first | rwa [add_block] at this | exact this) GW514.out))) _).trans (((cell_far (p := ⟨gb514, _, none⟩) (by first | exact Nat.ne_of_lt (Nat.lt_of_lt_of_le (by have := World.block_lt_of_cell? _ _ hw506_0; first | rwa [add_block] at this | exact this) GW514.out) | (rw [add_block]; exact Nat.ne_of_lt (Nat.lt_of_lt_of_le (by have := World.block_lt_of_cell? _ _ hw506_0; first | rwa [add_block] at this | exact this) GW514.out)) | (show (Addr.add _ _).block ≠ _; rw [add_block]; exact Nat.ne_of_lt (Nat.lt_of_lt_of_le (by have := World.block_lt_of_cell? _ _ hw506_0; first | rwa [add_block] at this | exact this) GW514.out)) | (dsimp only; exact Nat.ne_of_lt (Nat.lt_of_lt_of_le (by have := World.block_lt_of_cell? _ _ hw506_0; first | rwa [add_block] at this | exact this) GW514.out))) _).trans (((cell_far (p := ⟨gb514, _, none⟩) (by first | exact Nat.ne_of_lt (Nat.lt_of_lt_of_le (by have := World.block_lt_of_cell? _ _ hw506_0; first | rwa [add_block] at this | exact this) GW514.out) | (rw [add_block]; exact Nat.ne_of_lt (Nat.lt_of_lt_of_le (by have := World.block_lt_of_cell? _ _ hw506_0; first | rwa [add_block] at this | exact this) GW514.out)) | (show (Addr.add _ _).block ≠ _; rw [add_block]; exact Nat.ne_of_lt (Nat.lt_of_lt_of_le (by have := World.block_lt_of_cell? _ _ hw506_0; first | rwa [add_block] at this | exact this) GW514.out)) | (dsimp only; exact Nat.ne_of_lt (Nat.lt_of_lt_of_le (by have := World.block_lt_of_cell? _ _ hw506_0; first | rwa [add_block] at this | exact this) GW514.out))) _).trans (hHeld.2.2.2.1)))))))))))), ((cell_far (p := ⟨gb514, _, none⟩) (by first | exact Nat.ne_of_lt (Nat.lt_of_lt_of_le (by have := World.block_lt_of_cell? _ _ hw506_1; first | rwa [add_block] at this | exact this) GW514.out) | (rw [add_block]; exact Nat.ne_of_lt (Nat.lt_of_lt_of_le (by have := World.block_lt_of_cell? _ _ hw506_1; first | rwa [add_block] at this | exact this) GW514.out)) | (show (Addr.add _ _).block ≠ _; rw [add_block]; exact Nat.ne_of_lt (Nat.lt_of_lt_of_le (by have := World.block_lt_of_cell? _ _ hw506_1; first | rwa [add_block] at this | exact this) GW514.out)) | (dsimp only; exact Nat.ne_of_lt (Nat.lt_of_lt_of_le (by have := World.block_lt_of_cell? _ _ hw506_1; first | rwa [add_block] at this | exact this) GW514.out))) _).trans (((cell_far (p := ⟨gb514, _, none⟩) (by first | exact Nat.ne_of_lt (Nat.lt_of_lt_of_le (by have := World.block_lt_of_cell? _ _ hw506_1; first | rwa [add_block] at this | exact this) GW514.out) | (rw [add_block]; exact Nat.ne_of_lt (Nat.lt_of_lt_of_le (by have := World.block_lt_of_cell? _ _ hw506_1; first | rwa [add_block] at this | exact this) GW514.out)) | (show (Addr.add _ _).block ≠ _; rw [add_block]; exact Nat.ne_of_lt (Nat.lt_of_lt_of_le (by have := World.block_lt_of_cell? _ _ hw506_1; first | rwa [add_block] at this | exact this) GW514.out)) | (dsimp only; exact Nat.ne_of_lt (Nat.lt_of_lt_of_le (by have := World.block_lt_of_cell? _ _ hw506_1; first | rwa [add_block] at this | exact this) GW514.out))) _).trans (((cell_far (p := ⟨gb514, _, none⟩) (by first | exact Nat.ne_of_lt (Nat.lt_of_lt_of_le (by have := World.block_lt_of_cell? _ _ hw506_1; first | rwa [add_block] at this | exact this) GW514.out) | (rw [add_block]; exact Nat.ne_of_lt (Nat.lt_of_lt_of_le (by have := World.block_lt_of_cell? _ _ hw506_1; first | rwa [add_block] at this | exact this) GW514.out)) | (show (Addr.add _ _).block ≠ _; rw [add_block]; exact Nat.ne_of_lt (Nat.lt_of_lt_of_le (by have := World.block_lt_of_cell? _ _ hw506_1; first | rwa [add_block] at this | exact this) GW514.out)) | (dsimp only; exact Nat.ne_of_lt (Nat.lt_of_lt_of_le (by have := World.block_lt_of_cell? _ _ hw506_1; first | rwa [add_block] at this | exact this) GW514.out))) _).trans (((cell_far (p := ⟨gb514, _, none⟩) (by first | exact Nat.ne_of_lt (Nat.lt_of_lt_of_le (by have := World.block_lt_of_cell? _ _ hw506_1; first | rwa [add_block] at this | exact this) GW514.out) | (rw [add_block]; exact Nat.ne_of_lt (Nat.lt_of_lt_of_le (by have := World.block_lt_of_cell? _ _ hw506_1; first | rwa [add_block] at this | exact this) GW514.out)) | (show (Addr.add _ _).block ≠ _; rw [add_block]; exact Nat.ne_of_lt (Nat.lt_of_lt_of_le (by have := World.block_lt_of_cell? _ _ hw506_1; first | rwa [add_block] at this | exact this) GW514.out)) | (dsimp only; exact Nat.ne_of_lt (Nat.lt_of_lt_of_le (by have := World.block_lt_of_cell? _ _ hw506_1; first | rwa [add_block] at this | exact this) GW514.out))) _).trans (((cell_far (p := ⟨gb514, _, none⟩) (by first | exact Nat.ne_of_lt (Nat.lt_of_lt_of_le (by have := World.block_lt_of_cell? _ _ hw506_1; first | rwa [add_block] at this | exact this) GW514.out) | (rw [add_block]; exact Nat.ne_of_lt (Nat.lt_of_lt_of_le (by have := World.block_lt_of_cell? _ _ hw506_1; first | rwa [add_block] at this | exact this) GW514.out)) | (show (Addr.add _ _).block ≠ _; rw [add_block]; exact Nat.ne_of_lt (Nat.lt_of_lt_of_le (by have := World.block_lt_of_cell? _ _ hw506_1; first | rwa [add_block] at this | exact this) GW514.out)) | (dsimp only; exact Nat.ne_of_lt (Nat.lt_of_lt_of_le (by have := World.block_lt_of_cell? _ _ hw506_1; first | rwa [add_block] at this | exact this) GW514.out))) _).trans (((cell_far (p := ⟨gb514, _, none⟩) (by first | exact Nat.ne_of_lt (Nat.lt_of_lt_of_le (by have := World.block_lt_of_cell? _ _ hw506_1; first | rwa [add_block] at this | exact this) GW514.out) | (rw [add_block]; exact Nat.ne_of_lt (Nat.lt_of_lt_of_le (by have := World.block_lt_of_cell? _ _ hw506_1; first | rwa [add_block] at this | exact this) GW514.out)) | (show (Addr.add _ _).block ≠ _; rw [add_block]; exact Nat.ne_of_lt (Nat.lt_of_lt_of_le (by have := World.block_lt_of_cell? _ _ hw506_1; first | rwa [add_block] at this | exact this) GW514.out)) | (dsimp only; exact Nat.ne_of_lt (Nat.lt_of_lt_of_le (by have := World.block_lt_of_cell? _ _ hw506_1; first | rwa [add_block] at this | exact this) GW514.out))) _).trans (hHeld.2.2.2.2))))))))))))⟩ (fun hHeld => ?_)
   clear hK K
   refine pa_ 11 (some 8) (bl_ 12 4095) HT_ ?_
   refine done_ (done_of HT_.out (by kernel_rfl)) ?_
   try go_wp2
   go_loopg [6, 9] k (fun kq v6 v9 w' => ∃ (x6_1 : List (S58)) (x9_1 : Int) (x515000_1 : Int) (x515001_1 : Int) (x515002_1 : Int) (x515003_1 : Int) (x515004_1 : Int) (x515005_1 : Int), v9 = .int .i64 x9_1 ∧ Aside0 (spigotlaw38_passes.l0 kq l1 x6_1 x9_1 x515000_1 x515001_1 x515002_1 x515003_1 x515004_1 x515005_1 = some (r1, r2)) ∧ Aside0 (kq ≤ k) ∧ Aside0 (Kd.R k58 58 w' w.heap.size (fun _ => True) v6 x6_1) ∧ Aside0 (w'.heap[gb505]? = some (.cells #[.int .i64 a0_0, .int .i64 a0_1, .int .i64 a0_2] 43 (0, 0))) ∧ Aside0 (w'.heap[gb514]? = some (.cells #[.int .i64 x515000_1, .int .i64 x515001_1, .int .i64 x515002_1, .int .i64 x515003_1, .int .i64 x515004_1, .int .u64 x515005_1] 74 (0, 0))) ∧ Aside0 (Below w.heap.size w w'))
   case atStart => exact ⟨(([] : List (S58))), (0), (t507), (t508), (t509), (t510), (t511), (t512), rf_, H', ⟨Nat.le_refl _⟩, ⟨by first | exact Kd.R_nil _ _ _ _ _ | exact Kd.N_nil _ _ _ _ _ | exact Kd.V_nil _ _ _ _ _ | exact Kd.Q_nil _ _ _ _ _ | exact Kd.S_nil _ _ _ _ _⟩, ⟨(bt_ BK505)⟩, ⟨(bp6_ (bq_ BK514))⟩, bw_⟩
   case round =>
    clear H'
    try clear c1
    try clear c3
    try clear c3b0
    try clear c3b1
    try clear c3b2
    try clear c5
    try clear c5b0
    try clear c5b1
    try clear c7
    try clear c7b0
    try clear c7b1
    try clear hx506_0
    try clear hx506_1
    try clear p506
    try clear q506
    obtain ⟨x6_1, x9_1, x515000_1, x515001_1, x515002_1, x515003_1, x515004_1, x515005_1, rfl, HA, HK1, HO_6, BK505, BK514, HB⟩ := hrel
    cases gk with
    | zero => exact absurd HA.out (by simp [spigotlaw38_passes.l0])
    | succ k1 =>
     have H := HA.out
     clear HA
     simp only [spigotlaw38_passes.l0] at H
     by_cases c19 : x9_1 < (l1.length : Int)
     ·rw [if_pos c19] at H
      have c19b0 : decide (x9_1 < (l1.length : Int)) = true := decide_eq_true c19
      clear c19
      by_cases c20 : 0 ≤ x9_1
      rotate_left
      ·rw [if_neg c20] at H; exact absurd H (by simp)
      rw [if_pos c20] at H
      have c20b0 : decide (0 ≤ x9_1) = true := decide_eq_true c20
      clear c20
      obtain ⟨⟨t516, t517, t518, t519, t520, t521, t522⟩, A21, H⟩ := bo_ H
      try dsimp only at H
      by_cases c22 : t522 = 0
      ·rw [if_pos c22] at H
       have c22b0 : (t522 == 0) = true := beq_iff_eq.mpr c22
       have c22b1 : (t522 != 0) = false := bne_eq_false_iff_eq.mpr c22
       clear c22
       obtain ⟨⟨t525, t526, t527, t528, t529, t530, t531⟩, A23, H⟩ := bo_ H
       try dsimp only at H
       by_cases c24 : t531 = 0
       ·rw [if_pos c24] at H
        have c24b0 : (t531 == 0) = true := beq_iff_eq.mpr c24
        have c24b1 : (t531 != 0) = false := bne_eq_false_iff_eq.mpr c24
        clear c24
        by_cases c25 : x6_1.length < 8796093022208
        rotate_left
        ·rw [if_neg c25] at H; exact absurd H (by simp)
        rw [if_pos c25] at H
        have LMc25 := Aside0.mk c25
        clear c25
        obtain ⟨y534, hy534⟩ : ∃ y_ : List (S58), y_ = (x6_1 ++ [(⟨(rd_T58 l1 x9_1).f0, (rd_T58 l1 x9_1).f1⟩ : S58)]) := ⟨_, rfl⟩
        replace H : (spigotlaw38_passes.l0 k1 l1 y534 (wrap64 (x9_1 + 1)) t525 t526 t527 t528 t529 t530) = some (r1, r2) := by first | (rw [hy534]; with_reducible exact H) | (have H2_ := (Option.bind_some _ _).symm.trans H; rw [hy534]; with_reducible exact H2_) | (have H2_ := (Option.bind_some _ _).symm.trans H; with_reducible exact H2_) | with_reducible exact H | (rw [hy534]; exact H) | exact H
        have Ny534 := Aside0.mk hy534
        clear hy534
        have H' := Aside0.mk H
        clear H
        try go_wp2
        replace HO_6 := Aside0.mk (Kd.R_drew HO_6.out)
        replace BK505 := Aside0.mk (blk_drew BK505.out)
        replace BK514 := Aside0.mk (blk_drew BK514.out)
        replace HB := Aside0.mk (below_drew1 HB.out)
        have p515 : 0 ≤ (x9_1 : Int) := of_decide_eq_true (by first | (with_reducible assumption) | assumption)
        have q515 : x9_1 < (l1.length : Int) := of_decide_eq_true (by first | (with_reducible assumption) | assumption)
        obtain ⟨ad515, e515, hx515_0, hx515_1⟩ := at_T58 HR1.out x9_1 p515 q515
        have hw515_1 := hx515_1
        have hw515_0 := hx515_0
        obtain rfl : ad506 = ad515 := (by injection e515)
        replace hx515_0 := (HB.out.cell (World.block_lt_of_cell? w _ hx515_0)).trans hx515_0
        replace hx515_1 := (HB.out.cell (World.block_lt_of_cell? w _ hx515_1)).trans hx515_1
        replace p515 := eq_true p515
        replace q515 := eq_true q515
        refine start_ (n := 13) (S := fun w' => w'.cell? ⟨gb514, 0, none⟩ = some (.int .i64 x515000_1) ∧ w'.cell? ⟨gb514, 1, none⟩ = some (.int .i64 x515001_1) ∧ w'.cell? ⟨gb514, 2, none⟩ = some (.int .i64 x515002_1) ∧ w'.cell? ⟨gb514, 3, none⟩ = some (.int .i64 x515003_1) ∧ w'.cell? ⟨gb514, 4, none⟩ = some (.int .i64 x515004_1) ∧ w'.cell? ⟨gb514, 5, none⟩ = some (.int .u64 x515005_1) ∧ w'.cell? (ad506.add ((x9_1).toNat * 2)) = some (.int .u64 ((rd_T58 l1 x9_1).f0)) ∧ w'.cell? ⟨(ad506.add ((x9_1).toNat * 2)).block, (ad506.add ((x9_1).toNat * 2)).off + 1, none⟩ = some (.int .i64 ((rd_T58 l1 x9_1).f1))) (ds := []) (bl_ 13 0) (by kernel_rfl) rfl (by kernel_rfl) ⟨(blk_cell BK514.out 0).trans rfl, (blk_cell BK514.out 1).trans rfl, (blk_cell BK514.out 2).trans rfl, (blk_cell BK514.out 3).trans rfl, (blk_cell BK514.out 4).trans rfl, (blk_cell BK514.out 5).trans rfl, ((HB.out.cell (World.block_lt_of_cell? w _ hw515_0)).trans hw515_0), ((HB.out.cell (World.block_lt_of_cell? w _ hw515_1)).trans hw515_1)⟩ (fun hHeld => ?_); refine with_tabW spigotlaw38_passes.tab10 spigotlaw38_passes.bits10 (fun HT_ HW_ => ?_)
        generalize wr.drew = w26 at HO_6 BK505 BK514 HB hx515_0 hx515_1 hHeld ⊢
        refine pa_ 1 (some 36) (bl_ 13 2) HT_ ?_
        refine pa_ 2 (some 37) (bl_ 13 6) HT_ ?_
        refine pa_ 3 (some 38) (bl_ 13 14) HT_ ?_
        refine pa_ 4 (some 39) (bl_ 13 30) HT_ ?_
        refine ta_ 0 (some 35) (bl_ 13 31) HT_ HW_ hHeld ?_
        refine ta_ 5 (some 40) (bl_ 13 63) HT_ HW_ hHeld ?_
        refine join_ (σ := Nat) 2 (bl_ 13 2047) (fun s_ => [(41, .tuple #[.agg #[.int .i64 t516, .int .i64 t517, .int .i64 t518, .int .i64 t519, .int .i64 t520, .int .u64 t521], .int .i64 t522]), (10, .pointer (some ⟨s_, 0, none⟩)), (34, .tuple #[.agg #[.int .i64 t516, .int .i64 t517, .int .i64 t518, .int .i64 t519, .int .i64 t520, .int .u64 t521], .int .i64 t522]), (42, .agg #[.int .i64 t516, .int .i64 t517, .int .i64 t518, .int .i64 t519, .int .i64 t520, .int .u64 t521]), (43, .int .i64 t522)]) (fun s_ w' => (w'.cell? ⟨gb514, 0, none⟩ = some (.int .i64 x515000_1) ∧ w'.cell? ⟨gb514, 1, none⟩ = some (.int .i64 x515001_1) ∧ w'.cell? ⟨gb514, 2, none⟩ = some (.int .i64 x515002_1) ∧ w'.cell? ⟨gb514, 3, none⟩ = some (.int .i64 x515003_1) ∧ w'.cell? ⟨gb514, 4, none⟩ = some (.int .i64 x515004_1) ∧ w'.cell? ⟨gb514, 5, none⟩ = some (.int .u64 x515005_1) ∧ w'.cell? (ad506.add ((x9_1).toNat * 2)) = some (.int .u64 ((rd_T58 l1 x9_1).f0)) ∧ w'.cell? ⟨(ad506.add ((x9_1).toNat * 2)).block, (ad506.add ((x9_1).toNat * 2)).off + 1, none⟩ = some (.int .i64 ((rd_T58 l1 x9_1).f1))) ∧ (Kd.R k58 58 w' w.heap.size (fun _ => True) u6 x6_1) ∧ (w'.heap[gb505]? = some (.cells #[.int .i64 a0_0, .int .i64 a0_1, .int .i64 a0_2] 43 (0, 0))) ∧ (w'.heap[gb514]? = some (.cells #[.int .i64 x515000_1, .int .i64 x515001_1, .int .i64 x515002_1, .int .i64 x515003_1, .int .i64 x515004_1, .int .u64 x515005_1] 74 (0, 0))) ∧ (w'.heap[s_]? = some (.cells #[.int .i64 0, .int .i64 0, .int .i64 0, .int .i64 0, .int .i64 0, .int .u64 0] 74 (0, 0))) ∧ (w.heap.size ≤ s_) ∧ (w.heap.size ≤ s_) ∧ (gb505 ≠ s_) ∧ (s_ ≠ gb505) ∧ (gb514 ≠ s_) ∧ (s_ ≠ gb514) ∧ (Below w.heap.size w w')) ?_ ?_
        rotate_left
        ·intro hCont
         refine tw_ 6 10 (some 41) (some 10) (bl_ 13 127) (bl_ 13 1087) HT_ (fun K hK => ?_) fun K hK => ?_
         ·refine goesB_ Try.func43 #[.agg #[.int .i64 x515000_1, .int .i64 x515001_1, .int .i64 x515002_1, .int .i64 x515003_1, .int .i64 x515004_1, .int .u64 x515005_1], .int .u64 ((rd_T58 l1 x9_1).f0)] ?_
          with_reducible refine (bucket_Refill.calls k1 x515000_1 x515001_1 x515002_1 x515003_1 x515004_1 x515005_1 ((rd_T58 l1 x9_1).f0) t516 t517 t518 t519 t520 t521 t522 _ A21.out).mono ?_
          rintro e w27 ⟨rfl, hb⟩
          refine ⟨_, rfl, ?_⟩
          replace HO_6 := rb_ HO_6 hb
          replace BK505 := bb_ BK505 hb
          replace BK514 := bb_ BK514 hb
          replace HB := bs_ w hb
          clear hb
          refine hK.out _ _ ⟨(blk_cell BK514.out 0).trans rfl, (blk_cell BK514.out 1).trans rfl, (blk_cell BK514.out 2).trans rfl, (blk_cell BK514.out 3).trans rfl, (blk_cell BK514.out 4).trans rfl, (blk_cell BK514.out 5).trans rfl, ((HB.out.cell (World.block_lt_of_cell? w _ hw515_0)).trans hw515_0), ((HB.out.cell (World.block_lt_of_cell? w _ hw515_1)).trans hw515_1)⟩ (fun hHeld => ?_)
          clear hK K
          refine nm_ (some 41) ?_
          refine pa_ 7 (some 34) (bl_ 13 255) HT_ ?_
          refine pa_ 8 (some 42) (bl_ 13 511) HT_ ?_
          refine pa_ 9 (some 43) (bl_ 13 1023) HT_ ?_
          refine oa_ 10 (some 10) (bl_ 13 2047) HT_ fun K hK => ?_
          refine bs2_ #[.int .i64 0, .int .i64 0, .int .i64 0, .int .i64 0, .int .i64 0, .int .u64 0] 74 ?_
          intro gb523 hg w28 BK523 hb
          have GW523 := bz_ w hg
          have GE523 := GW523
          have NB505_523 := bn_ BK505 hg
          have NB523_505 := bm_ BK505 hg
          have NB514_523 := bn_ BK514 hg
          have NB523_514 := bm_ BK514 hg
          replace HO_6 := rb_ HO_6 hb
          replace BK505 := bb_ BK505 hb
          replace BK514 := bb_ BK514 hb
          replace HB := bs_ w hb
          clear hb hg
          refine hK.out _ _ ⟨(blk_cell BK514.out 0).trans rfl, (blk_cell BK514.out 1).trans rfl, (blk_cell BK514.out 2).trans rfl, (blk_cell BK514.out 3).trans rfl, (blk_cell BK514.out 4).trans rfl, (blk_cell BK514.out 5).trans rfl, ((HB.out.cell (World.block_lt_of_cell? w _ hw515_0)).trans hw515_0), ((HB.out.cell (World.block_lt_of_cell? w _ hw515_1)).trans hw515_1)⟩ (fun hHeld => ?_)
          clear hK K
          refine nm_ (some 10) ?_
          exact no_ (hCont (gb523) _ ⟨hHeld, (rs_ HO_6), (bq_ BK505), (bq_ BK514), (bq_ BK523), GW523.out, GE523.out, NB505_523.out, NB523_505.out, NB514_523.out, NB523_514.out, bh_⟩)
         ·refine bs2_ #[.int .i64 0, .int .i64 0, .int .i64 0, .int .i64 0, .int .i64 0, .int .u64 0] 74 ?_
          intro gb523 hg w27 BK523 hb
          have GW523 := bz_ w hg
          have GE523 := GW523
          have NB505_523 := bn_ BK505 hg
          have NB523_505 := bm_ BK505 hg
          have NB514_523 := bn_ BK514 hg
          have NB523_514 := bm_ BK514 hg
          replace HO_6 := rb_ HO_6 hb
          replace BK505 := bb_ BK505 hb
          replace BK514 := bb_ BK514 hb
          replace HB := bs_ w hb
          clear hb hg
          refine hK.out _ _ ⟨(blk_cell BK514.out 0).trans rfl, (blk_cell BK514.out 1).trans rfl, (blk_cell BK514.out 2).trans rfl, (blk_cell BK514.out 3).trans rfl, (blk_cell BK514.out 4).trans rfl, (blk_cell BK514.out 5).trans rfl, ((HB.out.cell (World.block_lt_of_cell? w _ hw515_0)).trans hw515_0), ((HB.out.cell (World.block_lt_of_cell? w _ hw515_1)).trans hw515_1)⟩ (fun hHeld => ?_)
          clear hK K
          refine nm_ (some 10) ?_
          refine oa_ 6 (some 41) (bl_ 13 1151) HT_ fun K hK => ?_
          refine goesB_ Try.func43 #[.agg #[.int .i64 x515000_1, .int .i64 x515001_1, .int .i64 x515002_1, .int .i64 x515003_1, .int .i64 x515004_1, .int .u64 x515005_1], .int .u64 ((rd_T58 l1 x9_1).f0)] ?_
          with_reducible refine (bucket_Refill.calls k1 x515000_1 x515001_1 x515002_1 x515003_1 x515004_1 x515005_1 ((rd_T58 l1 x9_1).f0) t516 t517 t518 t519 t520 t521 t522 _ A21.out).mono ?_
          rintro e w28 ⟨rfl, hb⟩
          refine ⟨_, rfl, ?_⟩
          replace HO_6 := rb_ HO_6 hb
          replace BK505 := bb_ BK505 hb
          replace BK514 := bb_ BK514 hb
          replace BK523 := bb_ BK523 hb
          replace HB := bs_ w hb
          clear hb
          refine hK.out _ _ ⟨(blk_cell BK514.out 0).trans rfl, (blk_cell BK514.out 1).trans rfl, (blk_cell BK514.out 2).trans rfl, (blk_cell BK514.out 3).trans rfl, (blk_cell BK514.out 4).trans rfl, (blk_cell BK514.out 5).trans rfl, ((HB.out.cell (World.block_lt_of_cell? w _ hw515_0)).trans hw515_0), ((HB.out.cell (World.block_lt_of_cell? w _ hw515_1)).trans hw515_1)⟩ (fun hHeld => ?_)
          clear hK K
          refine nm_ (some 41) ?_
          refine pa_ 7 (some 34) (bl_ 13 1279) HT_ ?_
          refine pa_ 8 (some 42) (bl_ 13 1535) HT_ ?_
          refine pa_ 9 (some 43) (bl_ 13 2047) HT_ ?_
          exact no_ (hCont (gb523) _ ⟨hHeld, (rs_ HO_6), (bq_ BK505), (bq_ BK514), (bq_ BK523), GW523.out, GE523.out, NB505_523.out, NB523_505.out, NB514_523.out, NB523_514.out, bh_⟩)
        rintro gb523 w29 ⟨hS_, h0_, h1_, h2_, h3_, h4_, h5_, h6_, h7_, h8_, h9_, h10_⟩
        have BK523 := Aside0.mk h3_
        have GW523 := Aside0.mk h4_
        have GE523 := Aside0.mk h5_
        have NB505_523 := Aside0.mk h6_
        have NB523_505 := Aside0.mk h7_
        have NB514_523 := Aside0.mk h8_
        have NB523_514 := Aside0.mk h9_
        replace HO_6 : Aside0 (Kd.R k58 58 w29 w.heap.size (fun _ => True) u6 x6_1) := ⟨h0_⟩
        replace BK505 := Aside0.mk h1_
        replace BK514 := Aside0.mk h2_
        replace HB := Aside0.mk h10_
        clear h0_ h1_ h2_ h3_ h4_ h5_ h6_ h7_ h8_ h9_ h10_
        have hHeld := hS_
        refine nq_ ?_
        refine oa_ 11 none (bl_ 13 4095) HT_ fun K hK => ?_
        have hs30 : w29.cell? ⟨gb523, 0, none⟩ = some (.int .i64 0) := (blk_cell BK523.out 0).trans rfl
        have hfs30 := blk_frozen BK523.out 0
        have hns30_0 := NB505_523.out
        have hns30_1 := NB514_523.out
        have hms30_0 := NB523_505.out
        have hms30_1 := NB523_514.out
        have hs31 : w29.cell? ⟨gb523, 1, none⟩ = some (.int .i64 0) := (blk_cell BK523.out 1).trans rfl
        have hfs31 := blk_frozen BK523.out 1
        have hns31_0 := NB505_523.out
        have hns31_1 := NB514_523.out
        have hms31_0 := NB523_505.out
        have hms31_1 := NB523_514.out
        have hs32 : w29.cell? ⟨gb523, 2, none⟩ = some (.int .i64 0) := (blk_cell BK523.out 2).trans rfl
        have hfs32 := blk_frozen BK523.out 2
        have hns32_0 := NB505_523.out
        have hns32_1 := NB514_523.out
        have hms32_0 := NB523_505.out
        have hms32_1 := NB523_514.out
        have hs33 : w29.cell? ⟨gb523, 3, none⟩ = some (.int .i64 0) := (blk_cell BK523.out 3).trans rfl
        have hfs33 := blk_frozen BK523.out 3
        have hns33_0 := NB505_523.out
        have hns33_1 := NB514_523.out
        have hms33_0 := NB523_505.out
        have hms33_1 := NB523_514.out
        have hs34 : w29.cell? ⟨gb523, 4, none⟩ = some (.int .i64 0) := (blk_cell BK523.out 4).trans rfl
        have hfs34 := blk_frozen BK523.out 4
        have hns34_0 := NB505_523.out
        have hns34_1 := NB514_523.out
        have hms34_0 := NB523_505.out
        have hms34_1 := NB523_514.out
        have hs35 : w29.cell? ⟨gb523, 5, none⟩ = some (.int .u64 0) := (blk_cell BK523.out 5).trans rfl
        have hfs35 := blk_frozen BK523.out 5
        have hns35_0 := NB505_523.out
        have hns35_1 := NB514_523.out
        have hms35_0 := NB523_505.out
        have hms35_1 := NB523_514.out
        refine sk_ ?_
        refine hK.out _ _ ⟨((cell_far (p := ⟨gb523, _, none⟩) NB514_523.out _).trans (((cell_far (p := ⟨gb523, _, none⟩) NB514_523.out _).trans (((cell_far (p := ⟨gb523, _, none⟩) NB514_523.out _).trans (((cell_far (p := ⟨gb523, _, none⟩) NB514_523.out _).trans (((cell_far (p := ⟨gb523, _, none⟩) NB514_523.out _).trans (((cell_far (p := ⟨gb523, _, none⟩) NB514_523.out _).trans (hHeld.1)))))))))))), ((cell_far (p := ⟨gb523, _, none⟩) NB514_523.out _).trans (((cell_far (p := ⟨gb523, _, none⟩) NB514_523.out _).trans (((cell_far (p := ⟨gb523, _, none⟩) NB514_523.out _).trans (((cell_far (p := ⟨gb523, _, none⟩) NB514_523.out _).trans (((cell_far (p := ⟨gb523, _, none⟩) NB514_523.out _).trans (((cell_far (p := ⟨gb523, _, none⟩) NB514_523.out _).trans (hHeld.2.1)))))))))))), ((cell_far (p := ⟨gb523, _, none⟩) NB514_523.out _).trans (((cell_far (p := ⟨gb523, _, none⟩) NB514_523.out _).trans (((cell_far (p := ⟨gb523, _, none⟩) NB514_523.out _).trans (((cell_far (p := ⟨gb523, _, none⟩) NB514_523.out _).trans (((cell_far (p := ⟨gb523, _, none⟩) NB514_523.out _).trans (((cell_far (p := ⟨gb523, _, none⟩) NB514_523.out _).trans (hHeld.2.2.1)))))))))))), ((cell_far (p := ⟨gb523, _, none⟩) NB514_523.out _).trans (((cell_far (p := ⟨gb523, _, none⟩) NB514_523.out _).trans (((cell_far (p := ⟨gb523, _, none⟩) NB514_523.out _).trans (((cell_far (p := ⟨gb523, _, none⟩) NB514_523.out _).trans (((cell_far (p := ⟨gb523, _, none⟩) NB514_523.out _).trans (((cell_far (p := ⟨gb523, _, none⟩) NB514_523.out _).trans (hHeld.2.2.2.1)))))))))))), ((cell_far (p := ⟨gb523, _, none⟩) NB514_523.out _).trans (((cell_far (p := ⟨gb523, _, none⟩) NB514_523.out _).trans (((cell_far (p := ⟨gb523, _, none⟩) NB514_523.out _).trans (((cell_far (p := ⟨gb523, _, none⟩) NB514_523.out _).trans (((cell_far (p := ⟨gb523, _, none⟩) NB514_523.out _).trans (((cell_far (p := ⟨gb523, _, none⟩) NB514_523.out _).trans (hHeld.2.2.2.2.1)))))))))))), ((cell_far (p := ⟨gb523, _, none⟩) NB514_523.out _).trans (((cell_far (p := ⟨gb523, _, none⟩) NB514_523.out _).trans (((cell_far (p := ⟨gb523, _, none⟩) NB514_523.out _).trans (((cell_far (p := ⟨gb523, _, none⟩) NB514_523.out _).trans (((cell_far (p := ⟨gb523, _, none⟩) NB514_523.out _).trans (((cell_far (p := ⟨gb523, _, none⟩) NB514_523.out _).trans (hHeld.2.2.2.2.2.1)))))))))))), ((cell_far (p := ⟨gb523, _, none⟩) (by first | exact Nat.ne_of_lt (Nat.lt_of_lt_of_le (by have := World.block_lt_of_cell? _ _ hw515_0; first | rwa [add_block] at this | exact this) GW523.out) | (rw [add_block]; exact Nat.ne_of_lt (Nat.lt_of_lt_of_le (by have := World.block_lt_of_cell? _ _ hw515_0; first | rwa [add_block] at this | exact this) GW523.out)) | (show (Addr.add _ _).block ≠ _; rw [add_block]; exact Nat.ne_of_lt (Nat.lt_of_lt_of_le (by have := World.block_lt_of_cell? _ _ hw515_0; first | rwa [add_block] at this | exact this) GW523.out)) | (dsimp only; exact Nat.ne_of_lt (Nat.lt_of_lt_of_le (by have := World.block_lt_of_cell? _ _ hw515_0; first | rwa [add_block] at this | exact this) GW523.out))) _).trans (((cell_far (p := ⟨gb523, _, none⟩) (by first | exact Nat.ne_of_lt (Nat.lt_of_lt_of_le (by have := World.block_lt_of_cell? _ _ hw515_0; first | rwa [add_block] at this | exact this) GW523.out) | (rw [add_block]; exact Nat.ne_of_lt (Nat.lt_of_lt_of_le (by have := World.block_lt_of_cell? _ _ hw515_0; first | rwa [add_block] at this | exact this) GW523.out)) | (show (Addr.add _ _).block ≠ _; rw [add_block]; exact Nat.ne_of_lt (Nat.lt_of_lt_of_le (by have := World.block_lt_of_cell? _ _ hw515_0; first | rwa [add_block] at this | exact this) GW523.out)) | (dsimp only; exact Nat.ne_of_lt (Nat.lt_of_lt_of_le (by have := World.block_lt_of_cell? _ _ hw515_0; first | rwa [add_block] at this | exact this) GW523.out))) _).trans (((cell_far (p := ⟨gb523, _, none⟩) (by first | exact Nat.ne_of_lt (Nat.lt_of_lt_of_le (by have := World.block_lt_of_cell? _ _ hw515_0; first | rwa [add_block] at this | exact this) GW523.out) | (rw [add_block]; exact Nat.ne_of_lt (Nat.lt_of_lt_of_le (by have := World.block_lt_of_cell? _ _ hw515_0; first | rwa [add_block] at this | exact this) GW523.out)) | (show (Addr.add _ _).block ≠ _; rw [add_block]; exact Nat.ne_of_lt (Nat.lt_of_lt_of_le (by have := World.block_lt_of_cell? _ _ hw515_0; first | rwa [add_block] at this | exact this) GW523.out)) | (dsimp only; exact Nat.ne_of_lt (Nat.lt_of_lt_of_le (by have := World.block_lt_of_cell? _ _ hw515_0; first | rwa [add_block] at this | exact this) GW523.out))) _).trans (((cell_far (p := ⟨gb523, _, none⟩) (by first | exact Nat.ne_of_lt (Nat.lt_of_lt_of_le (by have := World.block_lt_of_cell? _ _ hw515_0; first | rwa [add_block] at this | exact this) GW523.out) | (rw [add_block]; exact Nat.ne_of_lt (Nat.lt_of_lt_of_le (by have := World.block_lt_of_cell? _ _ hw515_0; first | rwa [add_block] at this | exact this) GW523.out)) | (show (Addr.add _ _).block ≠ _; rw [add_block]; exact Nat.ne_of_lt (Nat.lt_of_lt_of_le (by have := World.block_lt_of_cell? _ _ hw515_0; first | rwa [add_block] at this | exact this) GW523.out)) | (dsimp only; exact Nat.ne_of_lt (Nat.lt_of_lt_of_le (by have := World.block_lt_of_cell? _ _ hw515_0; first | rwa [add_block] at this | exact this) GW523.out))) _).trans (((cell_far (p := ⟨gb523, _, none⟩) (by first | exact Nat.ne_of_lt (Nat.lt_of_lt_of_le (by have := World.block_lt_of_cell? _ _ hw515_0; first | rwa [add_block] at this | exact this) GW523.out) | (rw [add_block]; exact Nat.ne_of_lt (Nat.lt_of_lt_of_le (by have := World.block_lt_of_cell? _ _ hw515_0; first | rwa [add_block] at this | exact this) GW523.out)) | (show (Addr.add _ _).block ≠ _; rw [add_block]; exact Nat.ne_of_lt (Nat.lt_of_lt_of_le (by have := World.block_lt_of_cell? _ _ hw515_0; first | rwa [add_block] at this | exact this) GW523.out)) | (dsimp only; exact Nat.ne_of_lt (Nat.lt_of_lt_of_le (by have := World.block_lt_of_cell? _ _ hw515_0; first | rwa [add_block] at this | exact this) GW523.out))) _).trans (((cell_far (p := ⟨gb523, _, none⟩) (by first | exact Nat.ne_of_lt (Nat.lt_of_lt_of_le (by have := World.block_lt_of_cell? _ _ hw515_0; first | rwa [add_block] at this | exact this) GW523.out) | (rw [add_block]; exact Nat.ne_of_lt (Nat.lt_of_lt_of_le (by have := World.block_lt_of_cell? _ _ hw515_0; first | rwa [add_block] at this | exact this) GW523.out)) | (show (Addr.add _ _).block ≠ _; rw [add_block]; exact Nat.ne_of_lt (Nat.lt_of_lt_of_le (by have := World.block_lt_of_cell? _ _ hw515_0; first | rwa [add_block] at this | exact this) GW523.out)) | (dsimp only; exact Nat.ne_of_lt (Nat.lt_of_lt_of_le (by have := World.block_lt_of_cell? _ _ hw515_0; first | rwa [add_block] at this | exact this) GW523.out))) _).trans (hHeld.2.2.2.2.2.2.1)))))))))))), ((cell_far (p := ⟨gb523, _, none⟩) (by first | exact Nat.ne_of_lt (Nat.lt_of_lt_of_le (by have := World.block_lt_of_cell? _ _ hw515_1; first | rwa [add_block] at this | exact this) GW523.out) | (rw [add_block]; exact Nat.ne_of_lt (Nat.lt_of_lt_of_le (by have := World.block_lt_of_cell? _ _ hw515_1; first | rwa [add_block] at this | exact this) GW523.out)) | (show (Addr.add _ _).block ≠ _; rw [add_block]; exact Nat.ne_of_lt (Nat.lt_of_lt_of_le (by have := World.block_lt_of_cell? _ _ hw515_1; first | rwa [add_block] at this | exact this) GW523.out)) | (dsimp only; exact Nat.ne_of_lt (Nat.lt_of_lt_of_le (by have := World.block_lt_of_cell? _ _ hw515_1; first | rwa [add_block] at this | exact this) GW523.out))) _).trans (((cell_far (p := ⟨gb523, _, none⟩) (by first | exact Nat.ne_of_lt (Nat.lt_of_lt_of_le (by have := World.block_lt_of_cell? _ _ hw515_1; first | rwa [add_block] at this | exact this) GW523.out) | (rw [add_block]; exact Nat.ne_of_lt (Nat.lt_of_lt_of_le (by have := World.block_lt_of_cell? _ _ hw515_1; first | rwa [add_block] at this | exact this) GW523.out)) | (show (Addr.add _ _).block ≠ _; rw [add_block]; exact Nat.ne_of_lt (Nat.lt_of_lt_of_le (by have := World.block_lt_of_cell? _ _ hw515_1; first | rwa [add_block] at this | exact this) GW523.out)) | (dsimp only; exact Nat.ne_of_lt (Nat.lt_of_lt_of_le (by have := World.block_lt_of_cell? _ _ hw515_1; first | rwa [add_block] at this | exact this) GW523.out))) _).trans (((cell_far (p := ⟨gb523, _, none⟩) (by first | exact Nat.ne_of_lt (Nat.lt_of_lt_of_le (by have := World.block_lt_of_cell? _ _ hw515_1; first | rwa [add_block] at this | exact this) GW523.out) | (rw [add_block]; exact Nat.ne_of_lt (Nat.lt_of_lt_of_le (by have := World.block_lt_of_cell? _ _ hw515_1; first | rwa [add_block] at this | exact this) GW523.out)) | (show (Addr.add _ _).block ≠ _; rw [add_block]; exact Nat.ne_of_lt (Nat.lt_of_lt_of_le (by have := World.block_lt_of_cell? _ _ hw515_1; first | rwa [add_block] at this | exact this) GW523.out)) | (dsimp only; exact Nat.ne_of_lt (Nat.lt_of_lt_of_le (by have := World.block_lt_of_cell? _ _ hw515_1; first | rwa [add_block] at this | exact this) GW523.out))) _).trans (((cell_far (p := ⟨gb523, _, none⟩) (by first | exact Nat.ne_of_lt (Nat.lt_of_lt_of_le (by have := World.block_lt_of_cell? _ _ hw515_1; first | rwa [add_block] at this | exact this) GW523.out) | (rw [add_block]; exact Nat.ne_of_lt (Nat.lt_of_lt_of_le (by have := World.block_lt_of_cell? _ _ hw515_1; first | rwa [add_block] at this | exact this) GW523.out)) | (show (Addr.add _ _).block ≠ _; rw [add_block]; exact Nat.ne_of_lt (Nat.lt_of_lt_of_le (by have := World.block_lt_of_cell? _ _ hw515_1; first | rwa [add_block] at this | exact this) GW523.out)) | (dsimp only; exact Nat.ne_of_lt (Nat.lt_of_lt_of_le (by have := World.block_lt_of_cell? _ _ hw515_1; first | rwa [add_block] at this | exact this) GW523.out))) _).trans (((cell_far (p := ⟨gb523, _, none⟩) (by first | exact Nat.ne_of_lt (Nat.lt_of_lt_of_le (by have := World.block_lt_of_cell? _ _ hw515_1; first | rwa [add_block] at this | exact this) GW523.out) | (rw [add_block]; exact Nat.ne_of_lt (Nat.lt_of_lt_of_le (by have := World.block_lt_of_cell? _ _ hw515_1; first | rwa [add_block] at this | exact this) GW523.out)) | (show (Addr.add _ _).block ≠ _; rw [add_block]; exact Nat.ne_of_lt (Nat.lt_of_lt_of_le (by have := World.block_lt_of_cell? _ _ hw515_1; first | rwa [add_block] at this | exact this) GW523.out)) | (dsimp only; exact Nat.ne_of_lt (Nat.lt_of_lt_of_le (by have := World.block_lt_of_cell? _ _ hw515_1; first | rwa [add_block] at this | exact this) GW523.out))) _).trans (((cell_far (p := ⟨gb523, _, none⟩) (by first | exact Nat.ne_of_lt (Nat.lt_of_lt_of_le (by have := World.block_lt_of_cell? _ _ hw515_1; first | rwa [add_block] at this | exact this) GW523.out) | (rw [add_block]; exact Nat.ne_of_lt (Nat.lt_of_lt_of_le (by have := World.block_lt_of_cell? _ _ hw515_1; first | rwa [add_block] at this | exact this) GW523.out)) | (show (Addr.add _ _).block ≠ _; rw [add_block]; exact Nat.ne_of_lt (Nat.lt_of_lt_of_le (by have := World.block_lt_of_cell? _ _ hw515_1; first | rwa [add_block] at this | exact this) GW523.out)) | (dsimp only; exact Nat.ne_of_lt (Nat.lt_of_lt_of_le (by have := World.block_lt_of_cell? _ _ hw515_1; first | rwa [add_block] at this | exact this) GW523.out))) _).trans (hHeld.2.2.2.2.2.2.2))))))))))))⟩ (fun hHeld => ?_)
        clear hK K
        refine pa_ 12 (some 11) (bl_ 13 8191) HT_ ?_
        refine done_ (done_of HT_.out (by kernel_rfl)) ?_
        replace hn523_505 := NB523_505.out
        replace hn505_523 := NB505_523.out
        replace hn523_514 := NB523_514.out
        replace hn514_523 := NB514_523.out
        replace hc523 := ce6_ BK523
        replace hn514_505 := NB514_505.out
        replace hn505_514 := NB505_514.out
        replace hc514 := ce6_ BK514
        try go_wp2
        have n0_ : Aside0 (Kd.R k58 58 ((((((((((((w29.setCell ⟨gb523, 0, none⟩ (.int .i64 t516)).setCell ⟨gb523, 1, none⟩ (.int .i64 t517)).setCell ⟨gb523, 2, none⟩ (.int .i64 t518)).setCell ⟨gb523, 3, none⟩ (.int .i64 t519)).setCell ⟨gb523, 4, none⟩ (.int .i64 t520)).setCell ⟨gb523, 5, none⟩ (.int .u64 t521)).setCell ⟨gb514, 0, none⟩ (.int .i64 t516)).setCell ⟨gb514, 1, none⟩ (.int .i64 t517)).setCell ⟨gb514, 2, none⟩ (.int .i64 t518)).setCell ⟨gb514, 3, none⟩ (.int .i64 t519)).setCell ⟨gb514, 4, none⟩ (.int .i64 t520)).setCell ⟨gb514, 5, none⟩ (.int .u64 t521)) w.heap.size (fun _ => True) u6 x6_1) := ⟨by (with_reducible repeat (first | apply Kd.R_alloc | apply Kd.R_drewN | apply Kd.R_drew)); exact Kd.R_mono (Kd.R_far (p := ⟨gb514, 5, none⟩) (Kd.R_far (p := ⟨gb514, 4, none⟩) (Kd.R_far (p := ⟨gb514, 3, none⟩) (Kd.R_far (p := ⟨gb514, 2, none⟩) (Kd.R_far (p := ⟨gb514, 1, none⟩) (Kd.R_far (p := ⟨gb514, 0, none⟩) (Kd.R_far (p := ⟨gb523, 5, none⟩) (Kd.R_far (p := ⟨gb523, 4, none⟩) (Kd.R_far (p := ⟨gb523, 3, none⟩) (Kd.R_far (p := ⟨gb523, 2, none⟩) (Kd.R_far (p := ⟨gb523, 1, none⟩) (Kd.R_far (p := ⟨gb523, 0, none⟩) (Kd.R_types (Kd.R_types HO_6.out BK523.out (by decide)) BK514.out (by decide)) (fun _ hk => hk.1.2) (.int .i64 t516)) (fun _ hk => hk.1.2) (.int .i64 t517)) (fun _ hk => hk.1.2) (.int .i64 t518)) (fun _ hk => hk.1.2) (.int .i64 t519)) (fun _ hk => hk.1.2) (.int .i64 t520)) (fun _ hk => hk.1.2) (.int .u64 t521)) (fun _ hk => hk.2) (.int .i64 t516)) (fun _ hk => hk.2) (.int .i64 t517)) (fun _ hk => hk.2) (.int .i64 t518)) (fun _ hk => hk.2) (.int .i64 t519)) (fun _ hk => hk.2) (.int .i64 t520)) (fun _ hk => hk.2) (.int .u64 t521)) (fun _ hk => trivial)⟩
        have n1_ : Aside0 (((((((((((((w29.setCell ⟨gb523, 0, none⟩ (.int .i64 t516)).setCell ⟨gb523, 1, none⟩ (.int .i64 t517)).setCell ⟨gb523, 2, none⟩ (.int .i64 t518)).setCell ⟨gb523, 3, none⟩ (.int .i64 t519)).setCell ⟨gb523, 4, none⟩ (.int .i64 t520)).setCell ⟨gb523, 5, none⟩ (.int .u64 t521)).setCell ⟨gb514, 0, none⟩ (.int .i64 t516)).setCell ⟨gb514, 1, none⟩ (.int .i64 t517)).setCell ⟨gb514, 2, none⟩ (.int .i64 t518)).setCell ⟨gb514, 3, none⟩ (.int .i64 t519)).setCell ⟨gb514, 4, none⟩ (.int .i64 t520)).setCell ⟨gb514, 5, none⟩ (.int .u64 t521)).heap[gb505]? = some (.cells #[.int .i64 a0_0, .int .i64 a0_1, .int .i64 a0_2] 43 (0, 0))) := ⟨(bt_ BK505)⟩
        have n2_ : Aside0 (((((((((((((w29.setCell ⟨gb523, 0, none⟩ (.int .i64 t516)).setCell ⟨gb523, 1, none⟩ (.int .i64 t517)).setCell ⟨gb523, 2, none⟩ (.int .i64 t518)).setCell ⟨gb523, 3, none⟩ (.int .i64 t519)).setCell ⟨gb523, 4, none⟩ (.int .i64 t520)).setCell ⟨gb523, 5, none⟩ (.int .u64 t521)).setCell ⟨gb514, 0, none⟩ (.int .i64 t516)).setCell ⟨gb514, 1, none⟩ (.int .i64 t517)).setCell ⟨gb514, 2, none⟩ (.int .i64 t518)).setCell ⟨gb514, 3, none⟩ (.int .i64 t519)).setCell ⟨gb514, 4, none⟩ (.int .i64 t520)).setCell ⟨gb514, 5, none⟩ (.int .u64 t521)).heap[gb514]? = some (.cells #[.int .i64 t516, .int .i64 t517, .int .i64 t518, .int .i64 t519, .int .i64 t520, .int .u64 t521] 74 (0, 0))) := ⟨(blk_put (cs := #[.int .i64 t516, .int .i64 t517, .int .i64 t518, .int .i64 t519, .int .i64 t520, .int .u64 x515005_1]) (blk_put (cs := #[.int .i64 t516, .int .i64 t517, .int .i64 t518, .int .i64 t519, .int .i64 x515004_1, .int .u64 x515005_1]) (blk_put (cs := #[.int .i64 t516, .int .i64 t517, .int .i64 t518, .int .i64 x515003_1, .int .i64 x515004_1, .int .u64 x515005_1]) (blk_put (cs := #[.int .i64 t516, .int .i64 t517, .int .i64 x515002_1, .int .i64 x515003_1, .int .i64 x515004_1, .int .u64 x515005_1]) (blk_put (cs := #[.int .i64 t516, .int .i64 x515001_1, .int .i64 x515002_1, .int .i64 x515003_1, .int .i64 x515004_1, .int .u64 x515005_1]) (blk_put (cs := #[.int .i64 x515000_1, .int .i64 x515001_1, .int .i64 x515002_1, .int .i64 x515003_1, .int .i64 x515004_1, .int .u64 x515005_1]) (bt_ BK514) 0 _ rfl) 1 _ rfl) 2 _ rfl) 3 _ rfl) 4 _ rfl) 5 _ rfl)⟩
        have n3_ : Aside0 (((((((((((((w29.setCell ⟨gb523, 0, none⟩ (.int .i64 t516)).setCell ⟨gb523, 1, none⟩ (.int .i64 t517)).setCell ⟨gb523, 2, none⟩ (.int .i64 t518)).setCell ⟨gb523, 3, none⟩ (.int .i64 t519)).setCell ⟨gb523, 4, none⟩ (.int .i64 t520)).setCell ⟨gb523, 5, none⟩ (.int .u64 t521)).setCell ⟨gb514, 0, none⟩ (.int .i64 t516)).setCell ⟨gb514, 1, none⟩ (.int .i64 t517)).setCell ⟨gb514, 2, none⟩ (.int .i64 t518)).setCell ⟨gb514, 3, none⟩ (.int .i64 t519)).setCell ⟨gb514, 4, none⟩ (.int .i64 t520)).setCell ⟨gb514, 5, none⟩ (.int .u64 t521)).heap[gb523]? = some (.cells #[.int .i64 t516, .int .i64 t517, .int .i64 t518, .int .i64 t519, .int .i64 t520, .int .u64 t521] 74 (0, 0))) := ⟨(blk_far (blk_far (blk_far (blk_far (blk_far (blk_far (bp6_ (bq_ BK523)) NB523_514.out _) NB523_514.out _) NB523_514.out _) NB523_514.out _) NB523_514.out _) NB523_514.out _)⟩
        have n4_ : Aside0 (Below w.heap.size w ((((((((((((w29.setCell ⟨gb523, 0, none⟩ (.int .i64 t516)).setCell ⟨gb523, 1, none⟩ (.int .i64 t517)).setCell ⟨gb523, 2, none⟩ (.int .i64 t518)).setCell ⟨gb523, 3, none⟩ (.int .i64 t519)).setCell ⟨gb523, 4, none⟩ (.int .i64 t520)).setCell ⟨gb523, 5, none⟩ (.int .u64 t521)).setCell ⟨gb514, 0, none⟩ (.int .i64 t516)).setCell ⟨gb514, 1, none⟩ (.int .i64 t517)).setCell ⟨gb514, 2, none⟩ (.int .i64 t518)).setCell ⟨gb514, 3, none⟩ (.int .i64 t519)).setCell ⟨gb514, 4, none⟩ (.int .i64 t520)).setCell ⟨gb514, 5, none⟩ (.int .u64 t521))) := bw_
        (try clear HO_6)
        (try clear BK505)
        (try clear BK514)
        (try clear BK523)
        (try clear HB)
        generalize ((((((((((((w29.setCell ⟨gb523, 0, none⟩ (.int .i64 t516)).setCell ⟨gb523, 1, none⟩ (.int .i64 t517)).setCell ⟨gb523, 2, none⟩ (.int .i64 t518)).setCell ⟨gb523, 3, none⟩ (.int .i64 t519)).setCell ⟨gb523, 4, none⟩ (.int .i64 t520)).setCell ⟨gb523, 5, none⟩ (.int .u64 t521)).setCell ⟨gb514, 0, none⟩ (.int .i64 t516)).setCell ⟨gb514, 1, none⟩ (.int .i64 t517)).setCell ⟨gb514, 2, none⟩ (.int .i64 t518)).setCell ⟨gb514, 3, none⟩ (.int .i64 t519)).setCell ⟨gb514, 4, none⟩ (.int .i64 t520)).setCell ⟨gb514, 5, none⟩ (.int .u64 t521)) = w41 at n0_ n1_ n2_ n3_ n4_ ⊢
        have HO_6 := n0_
        have BK505 := n1_
        have BK514 := n2_
        have BK523 := n3_
        have HB := n4_
        clear n0_ n1_ n2_ n3_ n4_
        replace HO_6 := Aside0.mk (Kd.R_drew HO_6.out)
        replace BK505 := Aside0.mk (blk_drew BK505.out)
        replace BK514 := Aside0.mk (blk_drew BK514.out)
        replace BK523 := Aside0.mk (blk_drew BK523.out)
        replace HB := Aside0.mk (below_drew1 HB.out)
        have p524 : 0 ≤ (x9_1 : Int) := of_decide_eq_true (by first | (with_reducible assumption) | assumption)
        have q524 : x9_1 < (l1.length : Int) := of_decide_eq_true (by first | (with_reducible assumption) | assumption)
        obtain ⟨ad524, e524, hx524_0, hx524_1⟩ := at_T58 HR1.out x9_1 p524 q524
        have hw524_1 := hx524_1
        have hw524_0 := hx524_0
        obtain rfl : ad506 = ad524 := (by injection e524)
        replace hx524_0 := (HB.out.cell (World.block_lt_of_cell? w _ hx524_0)).trans hx524_0
        replace hx524_1 := (HB.out.cell (World.block_lt_of_cell? w _ hx524_1)).trans hx524_1
        replace p524 := eq_true p524
        replace q524 := eq_true q524
        refine start_ (n := 13) (S := fun w' => w'.cell? ⟨gb514, 0, none⟩ = some (.int .i64 t516) ∧ w'.cell? ⟨gb514, 1, none⟩ = some (.int .i64 t517) ∧ w'.cell? ⟨gb514, 2, none⟩ = some (.int .i64 t518) ∧ w'.cell? ⟨gb514, 3, none⟩ = some (.int .i64 t519) ∧ w'.cell? ⟨gb514, 4, none⟩ = some (.int .i64 t520) ∧ w'.cell? ⟨gb514, 5, none⟩ = some (.int .u64 t521) ∧ w'.cell? (ad506.add ((x9_1).toNat * 2)) = some (.int .u64 ((rd_T58 l1 x9_1).f0)) ∧ w'.cell? ⟨(ad506.add ((x9_1).toNat * 2)).block, (ad506.add ((x9_1).toNat * 2)).off + 1, none⟩ = some (.int .i64 ((rd_T58 l1 x9_1).f1))) (ds := []) (bl_ 13 0) (by kernel_rfl) rfl (by kernel_rfl) ⟨(blk_cell BK514.out 0).trans rfl, (blk_cell BK514.out 1).trans rfl, (blk_cell BK514.out 2).trans rfl, (blk_cell BK514.out 3).trans rfl, (blk_cell BK514.out 4).trans rfl, (blk_cell BK514.out 5).trans rfl, ((HB.out.cell (World.block_lt_of_cell? w _ hw524_0)).trans hw524_0), ((HB.out.cell (World.block_lt_of_cell? w _ hw524_1)).trans hw524_1)⟩ (fun hHeld => ?_); refine with_tabW spigotlaw38_passes.tab14 spigotlaw38_passes.bits14 (fun HT_ HW_ => ?_)
        generalize w41.drew = w42 at HO_6 BK505 BK514 BK523 HB hx524_0 hx524_1 hHeld ⊢
        refine pa_ 1 (some 49) (bl_ 13 2) HT_ ?_
        refine pa_ 2 (some 50) (bl_ 13 6) HT_ ?_
        refine pa_ 3 (some 51) (bl_ 13 14) HT_ ?_
        refine pa_ 4 (some 52) (bl_ 13 30) HT_ ?_
        refine ta_ 0 (some 48) (bl_ 13 31) HT_ HW_ hHeld ?_
        refine ta_ 5 (some 53) (bl_ 13 63) HT_ HW_ hHeld ?_
        refine join_ (σ := Nat) 2 (bl_ 13 2047) (fun s_ => [(54, .tuple #[.agg #[.int .i64 t525, .int .i64 t526, .int .i64 t527, .int .i64 t528, .int .i64 t529, .int .u64 t530], .int .i64 t531]), (12, .pointer (some ⟨s_, 0, none⟩)), (47, .tuple #[.agg #[.int .i64 t525, .int .i64 t526, .int .i64 t527, .int .i64 t528, .int .i64 t529, .int .u64 t530], .int .i64 t531]), (55, .agg #[.int .i64 t525, .int .i64 t526, .int .i64 t527, .int .i64 t528, .int .i64 t529, .int .u64 t530]), (56, .int .i64 t531)]) (fun s_ w' => (w'.cell? ⟨gb514, 0, none⟩ = some (.int .i64 t516) ∧ w'.cell? ⟨gb514, 1, none⟩ = some (.int .i64 t517) ∧ w'.cell? ⟨gb514, 2, none⟩ = some (.int .i64 t518) ∧ w'.cell? ⟨gb514, 3, none⟩ = some (.int .i64 t519) ∧ w'.cell? ⟨gb514, 4, none⟩ = some (.int .i64 t520) ∧ w'.cell? ⟨gb514, 5, none⟩ = some (.int .u64 t521) ∧ w'.cell? (ad506.add ((x9_1).toNat * 2)) = some (.int .u64 ((rd_T58 l1 x9_1).f0)) ∧ w'.cell? ⟨(ad506.add ((x9_1).toNat * 2)).block, (ad506.add ((x9_1).toNat * 2)).off + 1, none⟩ = some (.int .i64 ((rd_T58 l1 x9_1).f1))) ∧ (Kd.R k58 58 w' w.heap.size (fun _ => True) u6 x6_1) ∧ (w'.heap[gb505]? = some (.cells #[.int .i64 a0_0, .int .i64 a0_1, .int .i64 a0_2] 43 (0, 0))) ∧ (w'.heap[gb514]? = some (.cells #[.int .i64 t516, .int .i64 t517, .int .i64 t518, .int .i64 t519, .int .i64 t520, .int .u64 t521] 74 (0, 0))) ∧ (w'.heap[gb523]? = some (.cells #[.int .i64 t516, .int .i64 t517, .int .i64 t518, .int .i64 t519, .int .i64 t520, .int .u64 t521] 74 (0, 0))) ∧ (w'.heap[s_]? = some (.cells #[.int .i64 0, .int .i64 0, .int .i64 0, .int .i64 0, .int .i64 0, .int .u64 0] 74 (0, 0))) ∧ (w.heap.size ≤ s_) ∧ (w.heap.size ≤ s_) ∧ (gb505 ≠ s_) ∧ (s_ ≠ gb505) ∧ (gb514 ≠ s_) ∧ (s_ ≠ gb514) ∧ (gb523 ≠ s_) ∧ (s_ ≠ gb523) ∧ (Below w.heap.size w w')) ?_ ?_
        rotate_left
        ·intro hCont
         refine tw_ 6 10 (some 54) (some 12) (bl_ 13 127) (bl_ 13 1087) HT_ (fun K hK => ?_) fun K hK => ?_
         ·refine goesB_ Try.func44 #[.agg #[.int .i64 t516, .int .i64 t517, .int .i64 t518, .int .i64 t519, .int .i64 t520, .int .u64 t521], .int .i64 ((rd_T58 l1 x9_1).f1)] ?_
          with_reducible refine (bucket_Charge.calls t516 t517 t518 t519 t520 t521 ((rd_T58 l1 x9_1).f1) t525 t526 t527 t528 t529 t530 t531 _ A23.out).mono ?_
          rintro e w43 ⟨rfl, hb⟩
          refine ⟨_, rfl, ?_⟩
          replace HO_6 := rb_ HO_6 hb
          replace BK505 := bb_ BK505 hb
          replace BK514 := bb_ BK514 hb
          replace BK523 := bb_ BK523 hb
          replace HB := bs_ w hb
          clear hb
          refine hK.out _ _ ⟨(blk_cell BK514.out 0).trans rfl, (blk_cell BK514.out 1).trans rfl, (blk_cell BK514.out 2).trans rfl, (blk_cell BK514.out 3).trans rfl, (blk_cell BK514.out 4).trans rfl, (blk_cell BK514.out 5).trans rfl, ((HB.out.cell (World.block_lt_of_cell? w _ hw524_0)).trans hw524_0), ((HB.out.cell (World.block_lt_of_cell? w _ hw524_1)).trans hw524_1)⟩ (fun hHeld => ?_)
          clear hK K
          refine nm_ (some 54) ?_
          refine pa_ 7 (some 47) (bl_ 13 255) HT_ ?_
          refine pa_ 8 (some 55) (bl_ 13 511) HT_ ?_
          refine pa_ 9 (some 56) (bl_ 13 1023) HT_ ?_
          refine oa_ 10 (some 12) (bl_ 13 2047) HT_ fun K hK => ?_
          refine bs2_ #[.int .i64 0, .int .i64 0, .int .i64 0, .int .i64 0, .int .i64 0, .int .u64 0] 74 ?_
          intro gb532 hg w44 BK532 hb
          have GW532 := bz_ w hg
          have GE532 := GW532
          have NB505_532 := bn_ BK505 hg
          have NB532_505 := bm_ BK505 hg
          have NB514_532 := bn_ BK514 hg
          have NB532_514 := bm_ BK514 hg
          have NB523_532 := bn_ BK523 hg
          have NB532_523 := bm_ BK523 hg
          replace HO_6 := rb_ HO_6 hb
          replace BK505 := bb_ BK505 hb
          replace BK514 := bb_ BK514 hb
          replace BK523 := bb_ BK523 hb
          replace HB := bs_ w hb
          clear hb hg
          refine hK.out _ _ ⟨(blk_cell BK514.out 0).trans rfl, (blk_cell BK514.out 1).trans rfl, (blk_cell BK514.out 2).trans rfl, (blk_cell BK514.out 3).trans rfl, (blk_cell BK514.out 4).trans rfl, (blk_cell BK514.out 5).trans rfl, ((HB.out.cell (World.block_lt_of_cell? w _ hw524_0)).trans hw524_0), ((HB.out.cell (World.block_lt_of_cell? w _ hw524_1)).trans hw524_1)⟩ (fun hHeld => ?_)
          clear hK K
          refine nm_ (some 12) ?_
          exact no_ (hCont (gb532) _ ⟨hHeld, (rs_ HO_6), (bq_ BK505), (bq_ BK514), (bq_ BK523), (bq_ BK532), GW532.out, GE532.out, NB505_532.out, NB532_505.out, NB514_532.out, NB532_514.out, NB523_532.out, NB532_523.out, bh_⟩)
         ·refine bs2_ #[.int .i64 0, .int .i64 0, .int .i64 0, .int .i64 0, .int .i64 0, .int .u64 0] 74 ?_
          intro gb532 hg w43 BK532 hb
          have GW532 := bz_ w hg
          have GE532 := GW532
          have NB505_532 := bn_ BK505 hg
          have NB532_505 := bm_ BK505 hg
          have NB514_532 := bn_ BK514 hg
          have NB532_514 := bm_ BK514 hg
          have NB523_532 := bn_ BK523 hg
          have NB532_523 := bm_ BK523 hg
          replace HO_6 := rb_ HO_6 hb
          replace BK505 := bb_ BK505 hb
          replace BK514 := bb_ BK514 hb
          replace BK523 := bb_ BK523 hb
          replace HB := bs_ w hb
          clear hb hg
          refine hK.out _ _ ⟨(blk_cell BK514.out 0).trans rfl, (blk_cell BK514.out 1).trans rfl, (blk_cell BK514.out 2).trans rfl, (blk_cell BK514.out 3).trans rfl, (blk_cell BK514.out 4).trans rfl, (blk_cell BK514.out 5).trans rfl, ((HB.out.cell (World.block_lt_of_cell? w _ hw524_0)).trans hw524_0), ((HB.out.cell (World.block_lt_of_cell? w _ hw524_1)).trans hw524_1)⟩ (fun hHeld => ?_)
          clear hK K
          refine nm_ (some 12) ?_
          refine oa_ 6 (some 54) (bl_ 13 1151) HT_ fun K hK => ?_
          refine goesB_ Try.func44 #[.agg #[.int .i64 t516, .int .i64 t517, .int .i64 t518, .int .i64 t519, .int .i64 t520, .int .u64 t521], .int .i64 ((rd_T58 l1 x9_1).f1)] ?_
          with_reducible refine (bucket_Charge.calls t516 t517 t518 t519 t520 t521 ((rd_T58 l1 x9_1).f1) t525 t526 t527 t528 t529 t530 t531 _ A23.out).mono ?_
          rintro e w44 ⟨rfl, hb⟩
          refine ⟨_, rfl, ?_⟩
          replace HO_6 := rb_ HO_6 hb
          replace BK505 := bb_ BK505 hb
          replace BK514 := bb_ BK514 hb
          replace BK523 := bb_ BK523 hb
          replace BK532 := bb_ BK532 hb
          replace HB := bs_ w hb
          clear hb
          refine hK.out _ _ ⟨(blk_cell BK514.out 0).trans rfl, (blk_cell BK514.out 1).trans rfl, (blk_cell BK514.out 2).trans rfl, (blk_cell BK514.out 3).trans rfl, (blk_cell BK514.out 4).trans rfl, (blk_cell BK514.out 5).trans rfl, ((HB.out.cell (World.block_lt_of_cell? w _ hw524_0)).trans hw524_0), ((HB.out.cell (World.block_lt_of_cell? w _ hw524_1)).trans hw524_1)⟩ (fun hHeld => ?_)
          clear hK K
          refine nm_ (some 54) ?_
          refine pa_ 7 (some 47) (bl_ 13 1279) HT_ ?_
          refine pa_ 8 (some 55) (bl_ 13 1535) HT_ ?_
          refine pa_ 9 (some 56) (bl_ 13 2047) HT_ ?_
          exact no_ (hCont (gb532) _ ⟨hHeld, (rs_ HO_6), (bq_ BK505), (bq_ BK514), (bq_ BK523), (bq_ BK532), GW532.out, GE532.out, NB505_532.out, NB532_505.out, NB514_532.out, NB532_514.out, NB523_532.out, NB532_523.out, bh_⟩)
        rintro gb532 w45 ⟨hS_, h0_, h1_, h2_, h3_, h4_, h5_, h6_, h7_, h8_, h9_, h10_, h11_, h12_, h13_⟩
        have BK532 := Aside0.mk h4_
        have GW532 := Aside0.mk h5_
        have GE532 := Aside0.mk h6_
        have NB505_532 := Aside0.mk h7_
        have NB532_505 := Aside0.mk h8_
        have NB514_532 := Aside0.mk h9_
        have NB532_514 := Aside0.mk h10_
        have NB523_532 := Aside0.mk h11_
        have NB532_523 := Aside0.mk h12_
        replace HO_6 : Aside0 (Kd.R k58 58 w45 w.heap.size (fun _ => True) u6 x6_1) := ⟨h0_⟩
        replace BK505 := Aside0.mk h1_
        replace BK514 := Aside0.mk h2_
        replace BK523 := Aside0.mk h3_
        replace HB := Aside0.mk h13_
        clear h0_ h1_ h2_ h3_ h4_ h5_ h6_ h7_ h8_ h9_ h10_ h11_ h12_ h13_
        have hHeld := hS_
        refine nq_ ?_
        refine oa_ 11 none (bl_ 13 4095) HT_ fun K hK => ?_
        have hs46 : w45.cell? ⟨gb532, 0, none⟩ = some (.int .i64 0) := (blk_cell BK532.out 0).trans rfl
        have hfs46 := blk_frozen BK532.out 0
        have hns46_0 := NB505_532.out
        have hns46_1 := NB514_532.out
        have hns46_2 := NB523_532.out
        have hms46_0 := NB532_505.out
        have hms46_1 := NB532_514.out
        have hms46_2 := NB532_523.out
        have hs47 : w45.cell? ⟨gb532, 1, none⟩ = some (.int .i64 0) := (blk_cell BK532.out 1).trans rfl
        have hfs47 := blk_frozen BK532.out 1
        have hns47_0 := NB505_532.out
        have hns47_1 := NB514_532.out
        have hns47_2 := NB523_532.out
        have hms47_0 := NB532_505.out
        have hms47_1 := NB532_514.out
        have hms47_2 := NB532_523.out
        have hs48 : w45.cell? ⟨gb532, 2, none⟩ = some (.int .i64 0) := (blk_cell BK532.out 2).trans rfl
        have hfs48 := blk_frozen BK532.out 2
        have hns48_0 := NB505_532.out
        have hns48_1 := NB514_532.out
        have hns48_2 := NB523_532.out
        have hms48_0 := NB532_505.out
        have hms48_1 := NB532_514.out
        have hms48_2 := NB532_523.out
        have hs49 : w45.cell? ⟨gb532, 3, none⟩ = some (.int .i64 0) := (blk_cell BK532.out 3).trans rfl
        have hfs49 := blk_frozen BK532.out 3
        have hns49_0 := NB505_532.out
        have hns49_1 := NB514_532.out
        have hns49_2 := NB523_532.out
        have hms49_0 := NB532_505.out
        have hms49_1 := NB532_514.out
        have hms49_2 := NB532_523.out
        have hs50 : w45.cell? ⟨gb532, 4, none⟩ = some (.int .i64 0) := (blk_cell BK532.out 4).trans rfl
        have hfs50 := blk_frozen BK532.out 4
        have hns50_0 := NB505_532.out
        have hns50_1 := NB514_532.out
        have hns50_2 := NB523_532.out
        have hms50_0 := NB532_505.out
        have hms50_1 := NB532_514.out
        have hms50_2 := NB532_523.out
        have hs51 : w45.cell? ⟨gb532, 5, none⟩ = some (.int .u64 0) := (blk_cell BK532.out 5).trans rfl
        have hfs51 := blk_frozen BK532.out 5
        have hns51_0 := NB505_532.out
        have hns51_1 := NB514_532.out
        have hns51_2 := NB523_532.out
        have hms51_0 := NB532_505.out
        have hms51_1 := NB532_514.out
        have hms51_2 := NB532_523.out
        refine sk_ ?_
        refine hK.out _ _ ⟨((cell_far (p := ⟨gb532, _, none⟩) NB514_532.out _).trans (((cell_far (p := ⟨gb532, _, none⟩) NB514_532.out _).trans (((cell_far (p := ⟨gb532, _, none⟩) NB514_532.out _).trans (((cell_far (p := ⟨gb532, _, none⟩) NB514_532.out _).trans (((cell_far (p := ⟨gb532, _, none⟩) NB514_532.out _).trans (((cell_far (p := ⟨gb532, _, none⟩) NB514_532.out _).trans (hHeld.1)))))))))))), ((cell_far (p := ⟨gb532, _, none⟩) NB514_532.out _).trans (((cell_far (p := ⟨gb532, _, none⟩) NB514_532.out _).trans (((cell_far (p := ⟨gb532, _, none⟩) NB514_532.out _).trans (((cell_far (p := ⟨gb532, _, none⟩) NB514_532.out _).trans (((cell_far (p := ⟨gb532, _, none⟩) NB514_532.out _).trans (((cell_far (p := ⟨gb532, _, none⟩) NB514_532.out _).trans (hHeld.2.1)))))))))))), ((cell_far (p := ⟨gb532, _, none⟩) NB514_532.out _).trans (((cell_far (p := ⟨gb532, _, none⟩) NB514_532.out _).trans (((cell_far (p := ⟨gb532, _, none⟩) NB514_532.out _).trans (((cell_far (p := ⟨gb532, _, none⟩) NB514_532.out _).trans (((cell_far (p := ⟨gb532, _, none⟩) NB514_532.out _).trans (((cell_far (p := ⟨gb532, _, none⟩) NB514_532.out _).trans (hHeld.2.2.1)))))))))))), ((cell_far (p := ⟨gb532, _, none⟩) NB514_532.out _).trans (((cell_far (p := ⟨gb532, _, none⟩) NB514_532.out _).trans (((cell_far (p := ⟨gb532, _, none⟩) NB514_532.out _).trans (((cell_far (p := ⟨gb532, _, none⟩) NB514_532.out _).trans (((cell_far (p := ⟨gb532, _, none⟩) NB514_532.out _).trans (((cell_far (p := ⟨gb532, _, none⟩) NB514_532.out _).trans (hHeld.2.2.2.1)))))))))))), ((cell_far (p := ⟨gb532, _, none⟩) NB514_532.out _).trans (((cell_far (p := ⟨gb532, _, none⟩) NB514_532.out _).trans (((cell_far (p := ⟨gb532, _, none⟩) NB514_532.out _).trans (((cell_far (p := ⟨gb532, _, none⟩) NB514_532.out _).trans (((cell_far (p := ⟨gb532, _, none⟩) NB514_532.out _).trans (((cell_far (p := ⟨gb532, _, none⟩) NB514_532.out _).trans (hHeld.2.2.2.2.1)))))))))))), ((cell_far (p := ⟨gb532, _, none⟩) NB514_532.out _).trans (((cell_far (p := ⟨gb532, _, none⟩) NB514_532.out _).trans (((cell_far (p := ⟨gb532, _, none⟩) NB514_532.out _).trans (((cell_far (p := ⟨gb532, _, none⟩) NB514_532.out _).trans (((cell_far (p := ⟨gb532, _, none⟩) NB514_532.out _).trans (((cell_far (p := ⟨gb532, _, none⟩) NB514_532.out _).trans (hHeld.2.2.2.2.2.1)))))))))))), ((cell_far (p := ⟨gb532, _, none⟩) (by first | exact Nat.ne_of_lt (Nat.lt_of_lt_of_le (by have := World.block_lt_of_cell? _ _ hw524_0; first | rwa [add_block] at this | exact this) GW532.out) | (rw [add_block]; exact Nat.ne_of_lt (Nat.lt_of_lt_of_le (by have := World.block_lt_of_cell? _ _ hw524_0; first | rwa [add_block] at this | exact this) GW532.out)) | (show (Addr.add _ _).block ≠ _; rw [add_block]; exact Nat.ne_of_lt (Nat.lt_of_lt_of_le (by have := World.block_lt_of_cell? _ _ hw524_0; first | rwa [add_block] at this | exact this) GW532.out)) | (dsimp only; exact Nat.ne_of_lt (Nat.lt_of_lt_of_le (by have := World.block_lt_of_cell? _ _ hw524_0; first | rwa [add_block] at this | exact this) GW532.out))) _).trans (((cell_far (p := ⟨gb532, _, none⟩) (by first | exact Nat.ne_of_lt (Nat.lt_of_lt_of_le (by have := World.block_lt_of_cell? _ _ hw524_0; first | rwa [add_block] at this | exact this) GW532.out) | (rw [add_block]; exact Nat.ne_of_lt (Nat.lt_of_lt_of_le (by have := World.block_lt_of_cell? _ _ hw524_0; first | rwa [add_block] at this | exact this) GW532.out)) | (show (Addr.add _ _).block ≠ _; rw [add_block]; exact Nat.ne_of_lt (Nat.lt_of_lt_of_le (by have := World.block_lt_of_cell? _ _ hw524_0; first | rwa [add_block] at this | exact this) GW532.out)) | (dsimp only; exact Nat.ne_of_lt (Nat.lt_of_lt_of_le (by have := World.block_lt_of_cell? _ _ hw524_0; first | rwa [add_block] at this | exact this) GW532.out))) _).trans (((cell_far (p := ⟨gb532, _, none⟩) (by first | exact Nat.ne_of_lt (Nat.lt_of_lt_of_le (by have := World.block_lt_of_cell? _ _ hw524_0; first | rwa [add_block] at this | exact this) GW532.out) | (rw [add_block]; exact Nat.ne_of_lt (Nat.lt_of_lt_of_le (by have := World.block_lt_of_cell? _ _ hw524_0; first | rwa [add_block] at this | exact this) GW532.out)) | (show (Addr.add _ _).block ≠ _; rw [add_block]; exact Nat.ne_of_lt (Nat.lt_of_lt_of_le (by have := World.block_lt_of_cell? _ _ hw524_0; first | rwa [add_block] at this | exact this) GW532.out)) | (dsimp only; exact Nat.ne_of_lt (Nat.lt_of_lt_of_le (by have := World.block_lt_of_cell? _ _ hw524_0; first | rwa [add_block] at this | exact this) GW532.out))) _).trans (((cell_far (p := ⟨gb532, _, none⟩) (by first | exact Nat.ne_of_lt (Nat.lt_of_lt_of_le (by have := World.block_lt_of_cell? _ _ hw524_0; first | rwa [add_block] at this | exact this) GW532.out) | (rw [add_block]; exact Nat.ne_of_lt (Nat.lt_of_lt_of_le (by have := World.block_lt_of_cell? _ _ hw524_0; first | rwa [add_block] at this | exact this) GW532.out)) | (show (Addr.add _ _).block ≠ _; rw [add_block]; exact Nat.ne_of_lt (Nat.lt_of_lt_of_le (by have := World.block_lt_of_cell? _ _ hw524_0; first | rwa [add_block] at this | exact this) GW532.out)) | (dsimp only; exact Nat.ne_of_lt (Nat.lt_of_lt_of_le (by have := World.block_lt_of_cell? _ _ hw524_0; first | rwa [add_block] at this | exact this) GW532.out))) _).trans (((cell_far (p := ⟨gb532, _, none⟩) (by first | exact Nat.ne_of_lt (Nat.lt_of_lt_of_le (by have := World.block_lt_of_cell? _ _ hw524_0; first | rwa [add_block] at this | exact this) GW532.out) | (rw [add_block]; exact Nat.ne_of_lt (Nat.lt_of_lt_of_le (by have := World.block_lt_of_cell? _ _ hw524_0; first | rwa [add_block] at this | exact this) GW532.out)) | (show (Addr.add _ _).block ≠ _; rw [add_block]; exact Nat.ne_of_lt (Nat.lt_of_lt_of_le (by have := World.block_lt_of_cell? _ _ hw524_0; first | rwa [add_block] at this | exact this) GW532.out)) | (dsimp only; exact Nat.ne_of_lt (Nat.lt_of_lt_of_le (by have := World.block_lt_of_cell? _ _ hw524_0; first | rwa [add_block] at this | exact this) GW532.out))) _).trans (((cell_far (p := ⟨gb532, _, none⟩) (by first | exact Nat.ne_of_lt (Nat.lt_of_lt_of_le (by have := World.block_lt_of_cell? _ _ hw524_0; first | rwa [add_block] at this | exact this) GW532.out) | (rw [add_block]; exact Nat.ne_of_lt (Nat.lt_of_lt_of_le (by have := World.block_lt_of_cell? _ _ hw524_0; first | rwa [add_block] at this | exact this) GW532.out)) | (show (Addr.add _ _).block ≠ _; rw [add_block]; exact Nat.ne_of_lt (Nat.lt_of_lt_of_le (by have := World.block_lt_of_cell? _ _ hw524_0; first | rwa [add_block] at this | exact this) GW532.out)) | (dsimp only; exact Nat.ne_of_lt (Nat.lt_of_lt_of_le (by have := World.block_lt_of_cell? _ _ hw524_0; first | rwa [add_block] at this | exact this) GW532.out))) _).trans (hHeld.2.2.2.2.2.2.1)))))))))))), ((cell_far (p := ⟨gb532, _, none⟩) (by first | exact Nat.ne_of_lt (Nat.lt_of_lt_of_le (by have := World.block_lt_of_cell? _ _ hw524_1; first | rwa [add_block] at this | exact this) GW532.out) | (rw [add_block]; exact Nat.ne_of_lt (Nat.lt_of_lt_of_le (by have := World.block_lt_of_cell? _ _ hw524_1; first | rwa [add_block] at this | exact this) GW532.out)) | (show (Addr.add _ _).block ≠ _; rw [add_block]; exact Nat.ne_of_lt (Nat.lt_of_lt_of_le (by have := World.block_lt_of_cell? _ _ hw524_1; first | rwa [add_block] at this | exact this) GW532.out)) | (dsimp only; exact Nat.ne_of_lt (Nat.lt_of_lt_of_le (by have := World.block_lt_of_cell? _ _ hw524_1; first | rwa [add_block] at this | exact this) GW532.out))) _).trans (((cell_far (p := ⟨gb532, _, none⟩) (by first | exact Nat.ne_of_lt (Nat.lt_of_lt_of_le (by have := World.block_lt_of_cell? _ _ hw524_1; first | rwa [add_block] at this | exact this) GW532.out) | (rw [add_block]; exact Nat.ne_of_lt (Nat.lt_of_lt_of_le (by have := World.block_lt_of_cell? _ _ hw524_1; first | rwa [add_block] at this | exact this) GW532.out)) | (show (Addr.add _ _).block ≠ _; rw [add_block]; exact Nat.ne_of_lt (Nat.lt_of_lt_of_le (by have := World.block_lt_of_cell? _ _ hw524_1; first | rwa [add_block] at this | exact this) GW532.out)) | (dsimp only; exact Nat.ne_of_lt (Nat.lt_of_lt_of_le (by have := World.block_lt_of_cell? _ _ hw524_1; first | rwa [add_block] at this | exact this) GW532.out))) _).trans (((cell_far (p := ⟨gb532, _, none⟩) (by first | exact Nat.ne_of_lt (Nat.lt_of_lt_of_le (by have := World.block_lt_of_cell? _ _ hw524_1; first | rwa [add_block] at this | exact this) GW532.out) | (rw [add_block]; exact Nat.ne_of_lt (Nat.lt_of_lt_of_le (by have := World.block_lt_of_cell? _ _ hw524_1; first | rwa [add_block] at this | exact this) GW532.out)) | (show (Addr.add _ _).block ≠ _; rw [add_block]; exact Nat.ne_of_lt (Nat.lt_of_lt_of_le (by have := World.block_lt_of_cell? _ _ hw524_1; first | rwa [add_block] at this | exact this) GW532.out)) | (dsimp only; exact Nat.ne_of_lt (Nat.lt_of_lt_of_le (by have := World.block_lt_of_cell? _ _ hw524_1; first | rwa [add_block] at this | exact this) GW532.out))) _).trans (((cell_far (p := ⟨gb532, _, none⟩) (by first | exact Nat.ne_of_lt (Nat.lt_of_lt_of_le (by have := World.block_lt_of_cell? _ _ hw524_1; first | rwa [add_block] at this | exact this) GW532.out) | (rw [add_block]; exact Nat.ne_of_lt (Nat.lt_of_lt_of_le (by have := World.block_lt_of_cell? _ _ hw524_1; first | rwa [add_block] at this | exact this) GW532.out)) | (show (Addr.add _ _).block ≠ _; rw [add_block]; exact Nat.ne_of_lt (Nat.lt_of_lt_of_le (by have := World.block_lt_of_cell? _ _ hw524_1; first | rwa [add_block] at this | exact this) GW532.out)) | (dsimp only; exact Nat.ne_of_lt (Nat.lt_of_lt_of_le (by have := World.block_lt_of_cell? _ _ hw524_1; first | rwa [add_block] at this | exact this) GW532.out))) _).trans (((cell_far (p := ⟨gb532, _, none⟩) (by first | exact Nat.ne_of_lt (Nat.lt_of_lt_of_le (by have := World.block_lt_of_cell? _ _ hw524_1; first | rwa [add_block] at this | exact this) GW532.out) | (rw [add_block]; exact Nat.ne_of_lt (Nat.lt_of_lt_of_le (by have := World.block_lt_of_cell? _ _ hw524_1; first | rwa [add_block] at this | exact this) GW532.out)) | (show (Addr.add _ _).block ≠ _; rw [add_block]; exact Nat.ne_of_lt (Nat.lt_of_lt_of_le (by have := World.block_lt_of_cell? _ _ hw524_1; first | rwa [add_block] at this | exact this) GW532.out)) | (dsimp only; exact Nat.ne_of_lt (Nat.lt_of_lt_of_le (by have := World.block_lt_of_cell? _ _ hw524_1; first | rwa [add_block] at this | exact this) GW532.out))) _).trans (((cell_far (p := ⟨gb532, _, none⟩) (by first | exact Nat.ne_of_lt (Nat.lt_of_lt_of_le (by have := World.block_lt_of_cell? _ _ hw524_1; first | rwa [add_block] at this | exact this) GW532.out) | (rw [add_block]; exact Nat.ne_of_lt (Nat.lt_of_lt_of_le (by have := World.block_lt_of_cell? _ _ hw524_1; first | rwa [add_block] at this | exact this) GW532.out)) | (show (Addr.add _ _).block ≠ _; rw [add_block]; exact Nat.ne_of_lt (Nat.lt_of_lt_of_le (by have := World.block_lt_of_cell? _ _ hw524_1; first | rwa [add_block] at this | exact this) GW532.out)) | (dsimp only; exact Nat.ne_of_lt (Nat.lt_of_lt_of_le (by have := World.block_lt_of_cell? _ _ hw524_1; first | rwa [add_block] at this | exact this) GW532.out))) _).trans (hHeld.2.2.2.2.2.2.2))))))))))))⟩ (fun hHeld => ?_)
        clear hK K
        refine pa_ 12 (some 13) (bl_ 13 8191) HT_ ?_
        refine done_ (done_of HT_.out (by kernel_rfl)) ?_
        replace hn532_505 := NB532_505.out
        replace hn505_532 := NB505_532.out
        replace hn532_514 := NB532_514.out
        replace hn514_532 := NB514_532.out
        replace hn532_523 := NB532_523.out
        replace hn523_532 := NB523_532.out
        replace hc532 := ce6_ BK532
        replace hc514 := ce6_ BK514
        have p533 : 0 ≤ (x9_1 : Int) := of_decide_eq_true (by first | (with_reducible assumption) | assumption)
        have q533 : x9_1 < (l1.length : Int) := of_decide_eq_true (by first | (with_reducible assumption) | assumption)
        obtain ⟨ad533, e533, hx533_0, hx533_1⟩ := at_T58 HR1.out x9_1 p533 q533
        obtain rfl : ad506 = ad533 := (by injection e533)
        have hn533_0 : ad506.block ≠ gb532 := Nat.ne_of_lt (Nat.lt_of_lt_of_le (by have := World.block_lt_of_cell? _ _ hx533_0; first | rwa [add_block] at this | exact this) GW532.out)
        have hn533_1 : ad506.block ≠ gb532 := Nat.ne_of_lt (Nat.lt_of_lt_of_le (by have := World.block_lt_of_cell? _ _ hx533_0; first | rwa [add_block] at this | exact this) GW532.out)
        have hn533_2 : ad506.block ≠ gb532 := Nat.ne_of_lt (Nat.lt_of_lt_of_le (by have := World.block_lt_of_cell? _ _ hx533_0; first | rwa [add_block] at this | exact this) GW532.out)
        have hn533_3 : ad506.block ≠ gb532 := Nat.ne_of_lt (Nat.lt_of_lt_of_le (by have := World.block_lt_of_cell? _ _ hx533_0; first | rwa [add_block] at this | exact this) GW532.out)
        have hn533_4 : ad506.block ≠ gb532 := Nat.ne_of_lt (Nat.lt_of_lt_of_le (by have := World.block_lt_of_cell? _ _ hx533_0; first | rwa [add_block] at this | exact this) GW532.out)
        have hn533_5 : ad506.block ≠ gb532 := Nat.ne_of_lt (Nat.lt_of_lt_of_le (by have := World.block_lt_of_cell? _ _ hx533_0; first | rwa [add_block] at this | exact this) GW532.out)
        have hn533_6 : ad506.block ≠ gb514 := Nat.ne_of_lt (Nat.lt_of_lt_of_le (by have := World.block_lt_of_cell? _ _ hx533_0; first | rwa [add_block] at this | exact this) GW514.out)
        have hn533_7 : ad506.block ≠ gb514 := Nat.ne_of_lt (Nat.lt_of_lt_of_le (by have := World.block_lt_of_cell? _ _ hx533_0; first | rwa [add_block] at this | exact this) GW514.out)
        have hn533_8 : ad506.block ≠ gb514 := Nat.ne_of_lt (Nat.lt_of_lt_of_le (by have := World.block_lt_of_cell? _ _ hx533_0; first | rwa [add_block] at this | exact this) GW514.out)
        have hn533_9 : ad506.block ≠ gb514 := Nat.ne_of_lt (Nat.lt_of_lt_of_le (by have := World.block_lt_of_cell? _ _ hx533_0; first | rwa [add_block] at this | exact this) GW514.out)
        have hn533_10 : ad506.block ≠ gb514 := Nat.ne_of_lt (Nat.lt_of_lt_of_le (by have := World.block_lt_of_cell? _ _ hx533_0; first | rwa [add_block] at this | exact this) GW514.out)
        have hn533_11 : ad506.block ≠ gb514 := Nat.ne_of_lt (Nat.lt_of_lt_of_le (by have := World.block_lt_of_cell? _ _ hx533_0; first | rwa [add_block] at this | exact this) GW514.out)
        replace hx533_0 := (HB.out.cell (World.block_lt_of_cell? w _ hx533_0)).trans hx533_0
        replace hx533_1 := (HB.out.cell (World.block_lt_of_cell? w _ hx533_1)).trans hx533_1
        replace hx533_0 := (cell_far (p := ⟨gb532, 0, none⟩) (by first | (rw [add_block]; exact hn533_0) | (show (Addr.add _ _).block ≠ _; rw [add_block]; exact hn533_0) | exact hn533_0) (.int .i64 t525)).trans hx533_0
        replace hx533_1 := (cell_far (p := ⟨gb532, 0, none⟩) (by first | (rw [add_block]; exact hn533_0) | (show (Addr.add _ _).block ≠ _; rw [add_block]; exact hn533_0) | exact hn533_0) (.int .i64 t525)).trans hx533_1
        replace hx533_0 := (cell_far (p := ⟨gb532, 1, none⟩) (by first | (rw [add_block]; exact hn533_1) | (show (Addr.add _ _).block ≠ _; rw [add_block]; exact hn533_1) | exact hn533_1) (.int .i64 t526)).trans hx533_0
        replace hx533_1 := (cell_far (p := ⟨gb532, 1, none⟩) (by first | (rw [add_block]; exact hn533_1) | (show (Addr.add _ _).block ≠ _; rw [add_block]; exact hn533_1) | exact hn533_1) (.int .i64 t526)).trans hx533_1
        replace hx533_0 := (cell_far (p := ⟨gb532, 2, none⟩) (by first | (rw [add_block]; exact hn533_2) | (show (Addr.add _ _).block ≠ _; rw [add_block]; exact hn533_2) | exact hn533_2) (.int .i64 t527)).trans hx533_0
        replace hx533_1 := (cell_far (p := ⟨gb532, 2, none⟩) (by first | (rw [add_block]; exact hn533_2) | (show (Addr.add _ _).block ≠ _; rw [add_block]; exact hn533_2) | exact hn533_2) (.int .i64 t527)).trans hx533_1
        replace hx533_0 := (cell_far (p := ⟨gb532, 3, none⟩) (by first | (rw [add_block]; exact hn533_3) | (show (Addr.add _ _).block ≠ _; rw [add_block]; exact hn533_3) | exact hn533_3) (.int .i64 t528)).trans hx533_0
        replace hx533_1 := (cell_far (p := ⟨gb532, 3, none⟩) (by first | (rw [add_block]; exact hn533_3) | (show (Addr.add _ _).block ≠ _; rw [add_block]; exact hn533_3) | exact hn533_3) (.int .i64 t528)).trans hx533_1
        replace hx533_0 := (cell_far (p := ⟨gb532, 4, none⟩) (by first | (rw [add_block]; exact hn533_4) | (show (Addr.add _ _).block ≠ _; rw [add_block]; exact hn533_4) | exact hn533_4) (.int .i64 t529)).trans hx533_0
        replace hx533_1 := (cell_far (p := ⟨gb532, 4, none⟩) (by first | (rw [add_block]; exact hn533_4) | (show (Addr.add _ _).block ≠ _; rw [add_block]; exact hn533_4) | exact hn533_4) (.int .i64 t529)).trans hx533_1
        replace hx533_0 := (cell_far (p := ⟨gb532, 5, none⟩) (by first | (rw [add_block]; exact hn533_5) | (show (Addr.add _ _).block ≠ _; rw [add_block]; exact hn533_5) | exact hn533_5) (.int .u64 t530)).trans hx533_0
        replace hx533_1 := (cell_far (p := ⟨gb532, 5, none⟩) (by first | (rw [add_block]; exact hn533_5) | (show (Addr.add _ _).block ≠ _; rw [add_block]; exact hn533_5) | exact hn533_5) (.int .u64 t530)).trans hx533_1
        replace hx533_0 := (cell_far (p := ⟨gb514, 0, none⟩) (by first | (rw [add_block]; exact hn533_6) | (show (Addr.add _ _).block ≠ _; rw [add_block]; exact hn533_6) | exact hn533_6) (.int .i64 t525)).trans hx533_0
        replace hx533_1 := (cell_far (p := ⟨gb514, 0, none⟩) (by first | (rw [add_block]; exact hn533_6) | (show (Addr.add _ _).block ≠ _; rw [add_block]; exact hn533_6) | exact hn533_6) (.int .i64 t525)).trans hx533_1
        replace hx533_0 := (cell_far (p := ⟨gb514, 1, none⟩) (by first | (rw [add_block]; exact hn533_7) | (show (Addr.add _ _).block ≠ _; rw [add_block]; exact hn533_7) | exact hn533_7) (.int .i64 t526)).trans hx533_0
        replace hx533_1 := (cell_far (p := ⟨gb514, 1, none⟩) (by first | (rw [add_block]; exact hn533_7) | (show (Addr.add _ _).block ≠ _; rw [add_block]; exact hn533_7) | exact hn533_7) (.int .i64 t526)).trans hx533_1
        replace hx533_0 := (cell_far (p := ⟨gb514, 2, none⟩) (by first | (rw [add_block]; exact hn533_8) | (show (Addr.add _ _).block ≠ _; rw [add_block]; exact hn533_8) | exact hn533_8) (.int .i64 t527)).trans hx533_0
        replace hx533_1 := (cell_far (p := ⟨gb514, 2, none⟩) (by first | (rw [add_block]; exact hn533_8) | (show (Addr.add _ _).block ≠ _; rw [add_block]; exact hn533_8) | exact hn533_8) (.int .i64 t527)).trans hx533_1
        replace hx533_0 := (cell_far (p := ⟨gb514, 3, none⟩) (by first | (rw [add_block]; exact hn533_9) | (show (Addr.add _ _).block ≠ _; rw [add_block]; exact hn533_9) | exact hn533_9) (.int .i64 t528)).trans hx533_0
        replace hx533_1 := (cell_far (p := ⟨gb514, 3, none⟩) (by first | (rw [add_block]; exact hn533_9) | (show (Addr.add _ _).block ≠ _; rw [add_block]; exact hn533_9) | exact hn533_9) (.int .i64 t528)).trans hx533_1
        replace hx533_0 := (cell_far (p := ⟨gb514, 4, none⟩) (by first | (rw [add_block]; exact hn533_10) | (show (Addr.add _ _).block ≠ _; rw [add_block]; exact hn533_10) | exact hn533_10) (.int .i64 t529)).trans hx533_0
        replace hx533_1 := (cell_far (p := ⟨gb514, 4, none⟩) (by first | (rw [add_block]; exact hn533_10) | (show (Addr.add _ _).block ≠ _; rw [add_block]; exact hn533_10) | exact hn533_10) (.int .i64 t529)).trans hx533_1
        replace hx533_0 := (cell_far (p := ⟨gb514, 5, none⟩) (by first | (rw [add_block]; exact hn533_11) | (show (Addr.add _ _).block ≠ _; rw [add_block]; exact hn533_11) | exact hn533_11) (.int .u64 t530)).trans hx533_0
        replace hx533_1 := (cell_far (p := ⟨gb514, 5, none⟩) (by first | (rw [add_block]; exact hn533_11) | (show (Addr.add _ _).block ≠ _; rw [add_block]; exact hn533_11) | exact hn533_11) (.int .u64 t530)).trans hx533_1
        clear hn533_0
        clear hn533_1
        clear hn533_2
        clear hn533_3
        clear hn533_4
        clear hn533_5
        clear hn533_6
        clear hn533_7
        clear hn533_8
        clear hn533_9
        clear hn533_10
        clear hn533_11
        replace p533 := eq_true p533
        replace q533 := eq_true q533
        try go_wp2_with (first | ((with_reducible refine gate_builtin (b := .append) (xs := #[.tmp 60, .tmp 65]) rfl ?_); at_builtin; refine Kd.R_append k58 (w0 := w) w.heap.size rfl (.tmp 60) (.tmp 65) 24 58 (.agg #[(.int .u64 0), (.int .i64 0)]) 16 rfl Try.underlying24 info58 rfl (by decide) (by omega) u6 x6_1 (⟨(rd_T58 l1 x9_1).f0, (rd_T58 l1 x9_1).f1⟩ : S58) [.int .u64 ((rd_T58 l1 x9_1).f0), .int .i64 ((rd_T58 l1 x9_1).f1)] (fun _ => True) (fun _ => False) rfl (by first | (go_simp; done) | (go_simp; rfl)) ?aP (fun _ hk => hk.elim) ?aF ?aO ?aB ?aS ?aL ?_; (case aP => exact k58_mkM _ _ _ (⟨(rd_T58 l1 x9_1).f0, (rd_T58 l1 x9_1).f1⟩ : S58)); (case aB => exact bh_); (case aF => exact (fun _ _ => trivial)); (case aO => exact (by (with_reducible repeat (first | apply Kd.R_alloc | apply Kd.R_drewN | apply Kd.R_drew)); exact Kd.R_mono (Kd.R_far (p := ⟨gb514, 5, none⟩) (Kd.R_far (p := ⟨gb514, 4, none⟩) (Kd.R_far (p := ⟨gb514, 3, none⟩) (Kd.R_far (p := ⟨gb514, 2, none⟩) (Kd.R_far (p := ⟨gb514, 1, none⟩) (Kd.R_far (p := ⟨gb514, 0, none⟩) (Kd.R_far (p := ⟨gb532, 5, none⟩) (Kd.R_far (p := ⟨gb532, 4, none⟩) (Kd.R_far (p := ⟨gb532, 3, none⟩) (Kd.R_far (p := ⟨gb532, 2, none⟩) (Kd.R_far (p := ⟨gb532, 1, none⟩) (Kd.R_far (p := ⟨gb532, 0, none⟩) (Kd.R_types (Kd.R_types HO_6.out BK532.out (by decide)) BK514.out (by decide)) (fun _ hk => hk.1.2) (.int .i64 t525)) (fun _ hk => hk.1.2) (.int .i64 t526)) (fun _ hk => hk.1.2) (.int .i64 t527)) (fun _ hk => hk.1.2) (.int .i64 t528)) (fun _ hk => hk.1.2) (.int .i64 t529)) (fun _ hk => hk.1.2) (.int .u64 t530)) (fun _ hk => hk.2) (.int .i64 t525)) (fun _ hk => hk.2) (.int .i64 t526)) (fun _ hk => hk.2) (.int .i64 t527)) (fun _ hk => hk.2) (.int .i64 t528)) (fun _ hk => hk.2) (.int .i64 t529)) (fun _ hk => hk.2) (.int .u64 t530)) (fun _ hk => trivial))); (case aS => exact (below_size bh_)); (case aL => have := LMc25.out; omega); intro v535 w57 ho hb hg hat; rw [← Ny534.out] at ho; have HO536 := Aside0.mk (ho); replace BK505 := Aside0.mk (blk_grown (g := gb505) (o := .cells #[.int .i64 a0_0, .int .i64 a0_1, .int .i64 a0_2] 43 (0, 0)) (bt_ BK505) hg (Kd.R_ne HO_6.out BK505.out (by decide))); replace BK514 := Aside0.mk (blk_grown (g := gb514) (o := .cells #[.int .i64 t525, .int .i64 t526, .int .i64 t527, .int .i64 t528, .int .i64 t529, .int .u64 t530] 74 (0, 0)) (blk_put (cs := #[.int .i64 t525, .int .i64 t526, .int .i64 t527, .int .i64 t528, .int .i64 t529, .int .u64 t521]) (blk_put (cs := #[.int .i64 t525, .int .i64 t526, .int .i64 t527, .int .i64 t528, .int .i64 t520, .int .u64 t521]) (blk_put (cs := #[.int .i64 t525, .int .i64 t526, .int .i64 t527, .int .i64 t519, .int .i64 t520, .int .u64 t521]) (blk_put (cs := #[.int .i64 t525, .int .i64 t526, .int .i64 t518, .int .i64 t519, .int .i64 t520, .int .u64 t521]) (blk_put (cs := #[.int .i64 t525, .int .i64 t517, .int .i64 t518, .int .i64 t519, .int .i64 t520, .int .u64 t521]) (blk_put (cs := #[.int .i64 t516, .int .i64 t517, .int .i64 t518, .int .i64 t519, .int .i64 t520, .int .u64 t521]) (bt_ BK514) 0 _ rfl) 1 _ rfl) 2 _ rfl) 3 _ rfl) 4 _ rfl) 5 _ rfl) hg (Kd.R_ne HO_6.out BK514.out (by decide))); replace BK523 := Aside0.mk (blk_grown (g := gb523) (o := .cells #[.int .i64 t516, .int .i64 t517, .int .i64 t518, .int .i64 t519, .int .i64 t520, .int .u64 t521] 74 (0, 0)) (bt_ BK523) hg (Kd.R_ne HO_6.out BK523.out (by decide))); replace BK532 := Aside0.mk (blk_grown (g := gb532) (o := .cells #[.int .i64 t525, .int .i64 t526, .int .i64 t527, .int .i64 t528, .int .i64 t529, .int .u64 t530] 74 (0, 0)) (blk_far (blk_far (blk_far (blk_far (blk_far (blk_far (bp6_ (bq_ BK532)) NB532_514.out _) NB532_514.out _) NB532_514.out _) NB532_514.out _) NB532_514.out _) NB532_514.out _) hg (Kd.R_ne HO_6.out BK532.out (by decide))); replace HB := Aside0.mk (hb); clear HO_6; clear ho hb hg hat))
        go_roundg k1
        case measure => have := HK1.out; omega
        case rel => exact ⟨(y534), (wrap64 (x9_1 + 1)), (t525), (t526), (t527), (t528), (t529), (t530), rf_, H', ⟨by have := HK1.out; omega⟩, ⟨rs_ HO536⟩, ⟨bq_ BK505⟩, ⟨bq_ BK514⟩, bw_⟩
       ·rw [if_neg c24] at H
        have c24b0 : (t531 == 0) = false := beq_eq_false_iff_ne.mpr c24
        have c24b1 : (t531 != 0) = true := bne_iff_ne.mpr c24
        by_cases c58 : t531 = 20
        ·rw [if_pos c58] at H
         have c58b0 : (t531 == 20) = true := beq_iff_eq.mpr c58
         have c58b1 : (t531 != 20) = false := bne_eq_false_iff_eq.mpr c58
         clear c58
         have H' := Aside0.mk H
         clear H
         try go_wp2
         replace HO_6 := Aside0.mk (Kd.R_drew HO_6.out)
         replace BK505 := Aside0.mk (blk_drew BK505.out)
         replace BK514 := Aside0.mk (blk_drew BK514.out)
         replace HB := Aside0.mk (below_drew1 HB.out)
         have p515 : 0 ≤ (x9_1 : Int) := of_decide_eq_true (by first | (with_reducible assumption) | assumption)
         have q515 : x9_1 < (l1.length : Int) := of_decide_eq_true (by first | (with_reducible assumption) | assumption)
         obtain ⟨ad515, e515, hx515_0, hx515_1⟩ := at_T58 HR1.out x9_1 p515 q515
         have hw515_1 := hx515_1
         have hw515_0 := hx515_0
         obtain rfl : ad506 = ad515 := (by injection e515)
         replace hx515_0 := (HB.out.cell (World.block_lt_of_cell? w _ hx515_0)).trans hx515_0
         replace hx515_1 := (HB.out.cell (World.block_lt_of_cell? w _ hx515_1)).trans hx515_1
         replace p515 := eq_true p515
         replace q515 := eq_true q515
         refine start_ (n := 13) (S := fun w' => w'.cell? ⟨gb514, 0, none⟩ = some (.int .i64 x515000_1) ∧ w'.cell? ⟨gb514, 1, none⟩ = some (.int .i64 x515001_1) ∧ w'.cell? ⟨gb514, 2, none⟩ = some (.int .i64 x515002_1) ∧ w'.cell? ⟨gb514, 3, none⟩ = some (.int .i64 x515003_1) ∧ w'.cell? ⟨gb514, 4, none⟩ = some (.int .i64 x515004_1) ∧ w'.cell? ⟨gb514, 5, none⟩ = some (.int .u64 x515005_1) ∧ w'.cell? (ad506.add ((x9_1).toNat * 2)) = some (.int .u64 ((rd_T58 l1 x9_1).f0)) ∧ w'.cell? ⟨(ad506.add ((x9_1).toNat * 2)).block, (ad506.add ((x9_1).toNat * 2)).off + 1, none⟩ = some (.int .i64 ((rd_T58 l1 x9_1).f1))) (ds := []) (bl_ 13 0) (by kernel_rfl) rfl (by kernel_rfl) ⟨(blk_cell BK514.out 0).trans rfl, (blk_cell BK514.out 1).trans rfl, (blk_cell BK514.out 2).trans rfl, (blk_cell BK514.out 3).trans rfl, (blk_cell BK514.out 4).trans rfl, (blk_cell BK514.out 5).trans rfl, ((HB.out.cell (World.block_lt_of_cell? w _ hw515_0)).trans hw515_0), ((HB.out.cell (World.block_lt_of_cell? w _ hw515_1)).trans hw515_1)⟩ (fun hHeld => ?_); refine with_tabW spigotlaw38_passes.tab10 spigotlaw38_passes.bits10 (fun HT_ HW_ => ?_)
         generalize wr.drew = w59 at HO_6 BK505 BK514 HB hx515_0 hx515_1 hHeld ⊢
         refine pa_ 1 (some 36) (bl_ 13 2) HT_ ?_
         refine pa_ 2 (some 37) (bl_ 13 6) HT_ ?_
         refine pa_ 3 (some 38) (bl_ 13 14) HT_ ?_
         refine pa_ 4 (some 39) (bl_ 13 30) HT_ ?_
         refine ta_ 0 (some 35) (bl_ 13 31) HT_ HW_ hHeld ?_
         refine ta_ 5 (some 40) (bl_ 13 63) HT_ HW_ hHeld ?_
         refine join_ (σ := Nat) 2 (bl_ 13 2047) (fun s_ => [(41, .tuple #[.agg #[.int .i64 t516, .int .i64 t517, .int .i64 t518, .int .i64 t519, .int .i64 t520, .int .u64 t521], .int .i64 t522]), (10, .pointer (some ⟨s_, 0, none⟩)), (34, .tuple #[.agg #[.int .i64 t516, .int .i64 t517, .int .i64 t518, .int .i64 t519, .int .i64 t520, .int .u64 t521], .int .i64 t522]), (42, .agg #[.int .i64 t516, .int .i64 t517, .int .i64 t518, .int .i64 t519, .int .i64 t520, .int .u64 t521]), (43, .int .i64 t522)]) (fun s_ w' => (w'.cell? ⟨gb514, 0, none⟩ = some (.int .i64 x515000_1) ∧ w'.cell? ⟨gb514, 1, none⟩ = some (.int .i64 x515001_1) ∧ w'.cell? ⟨gb514, 2, none⟩ = some (.int .i64 x515002_1) ∧ w'.cell? ⟨gb514, 3, none⟩ = some (.int .i64 x515003_1) ∧ w'.cell? ⟨gb514, 4, none⟩ = some (.int .i64 x515004_1) ∧ w'.cell? ⟨gb514, 5, none⟩ = some (.int .u64 x515005_1) ∧ w'.cell? (ad506.add ((x9_1).toNat * 2)) = some (.int .u64 ((rd_T58 l1 x9_1).f0)) ∧ w'.cell? ⟨(ad506.add ((x9_1).toNat * 2)).block, (ad506.add ((x9_1).toNat * 2)).off + 1, none⟩ = some (.int .i64 ((rd_T58 l1 x9_1).f1))) ∧ (Kd.R k58 58 w' w.heap.size (fun _ => True) u6 x6_1) ∧ (w'.heap[gb505]? = some (.cells #[.int .i64 a0_0, .int .i64 a0_1, .int .i64 a0_2] 43 (0, 0))) ∧ (w'.heap[gb514]? = some (.cells #[.int .i64 x515000_1, .int .i64 x515001_1, .int .i64 x515002_1, .int .i64 x515003_1, .int .i64 x515004_1, .int .u64 x515005_1] 74 (0, 0))) ∧ (w'.heap[s_]? = some (.cells #[.int .i64 0, .int .i64 0, .int .i64 0, .int .i64 0, .int .i64 0, .int .u64 0] 74 (0, 0))) ∧ (w.heap.size ≤ s_) ∧ (w.heap.size ≤ s_) ∧ (gb505 ≠ s_) ∧ (s_ ≠ gb505) ∧ (gb514 ≠ s_) ∧ (s_ ≠ gb514) ∧ (Below w.heap.size w w')) ?_ ?_
         rotate_left
         ·intro hCont
          refine tw_ 6 10 (some 41) (some 10) (bl_ 13 127) (bl_ 13 1087) HT_ (fun K hK => ?_) fun K hK => ?_
          ·refine goesB_ Try.func43 #[.agg #[.int .i64 x515000_1, .int .i64 x515001_1, .int .i64 x515002_1, .int .i64 x515003_1, .int .i64 x515004_1, .int .u64 x515005_1], .int .u64 ((rd_T58 l1 x9_1).f0)] ?_
           with_reducible refine (bucket_Refill.calls k1 x515000_1 x515001_1 x515002_1 x515003_1 x515004_1 x515005_1 ((rd_T58 l1 x9_1).f0) t516 t517 t518 t519 t520 t521 t522 _ A21.out).mono ?_
           rintro e w60 ⟨rfl, hb⟩
           refine ⟨_, rfl, ?_⟩
           replace HO_6 := rb_ HO_6 hb
           replace BK505 := bb_ BK505 hb
           replace BK514 := bb_ BK514 hb
           replace HB := bs_ w hb
           clear hb
           refine hK.out _ _ ⟨(blk_cell BK514.out 0).trans rfl, (blk_cell BK514.out 1).trans rfl, (blk_cell BK514.out 2).trans rfl, (blk_cell BK514.out 3).trans rfl, (blk_cell BK514.out 4).trans rfl, (blk_cell BK514.out 5).trans rfl, ((HB.out.cell (World.block_lt_of_cell? w _ hw515_0)).trans hw515_0), ((HB.out.cell (World.block_lt_of_cell? w _ hw515_1)).trans hw515_1)⟩ (fun hHeld => ?_)
           clear hK K
           refine nm_ (some 41) ?_
           refine pa_ 7 (some 34) (bl_ 13 255) HT_ ?_
           refine pa_ 8 (some 42) (bl_ 13 511) HT_ ?_
           refine pa_ 9 (some 43) (bl_ 13 1023) HT_ ?_
           refine oa_ 10 (some 10) (bl_ 13 2047) HT_ fun K hK => ?_
           refine bs2_ #[.int .i64 0, .int .i64 0, .int .i64 0, .int .i64 0, .int .i64 0, .int .u64 0] 74 ?_
           intro gb523 hg w61 BK523 hb
           have GW523 := bz_ w hg
           have GE523 := GW523
           have NB505_523 := bn_ BK505 hg
           have NB523_505 := bm_ BK505 hg
           have NB514_523 := bn_ BK514 hg
           have NB523_514 := bm_ BK514 hg
           replace HO_6 := rb_ HO_6 hb
           replace BK505 := bb_ BK505 hb
           replace BK514 := bb_ BK514 hb
           replace HB := bs_ w hb
           clear hb hg
           refine hK.out _ _ ⟨(blk_cell BK514.out 0).trans rfl, (blk_cell BK514.out 1).trans rfl, (blk_cell BK514.out 2).trans rfl, (blk_cell BK514.out 3).trans rfl, (blk_cell BK514.out 4).trans rfl, (blk_cell BK514.out 5).trans rfl, ((HB.out.cell (World.block_lt_of_cell? w _ hw515_0)).trans hw515_0), ((HB.out.cell (World.block_lt_of_cell? w _ hw515_1)).trans hw515_1)⟩ (fun hHeld => ?_)
           clear hK K
           refine nm_ (some 10) ?_
           exact no_ (hCont (gb523) _ ⟨hHeld, (rs_ HO_6), (bq_ BK505), (bq_ BK514), (bq_ BK523), GW523.out, GE523.out, NB505_523.out, NB523_505.out, NB514_523.out, NB523_514.out, bh_⟩)
          ·refine bs2_ #[.int .i64 0, .int .i64 0, .int .i64 0, .int .i64 0, .int .i64 0, .int .u64 0] 74 ?_
           intro gb523 hg w60 BK523 hb
           have GW523 := bz_ w hg
           have GE523 := GW523
           have NB505_523 := bn_ BK505 hg
           have NB523_505 := bm_ BK505 hg
           have NB514_523 := bn_ BK514 hg
           have NB523_514 := bm_ BK514 hg
           replace HO_6 := rb_ HO_6 hb
           replace BK505 := bb_ BK505 hb
           replace BK514 := bb_ BK514 hb
           replace HB := bs_ w hb
           clear hb hg
           refine hK.out _ _ ⟨(blk_cell BK514.out 0).trans rfl, (blk_cell BK514.out 1).trans rfl, (blk_cell BK514.out 2).trans rfl, (blk_cell BK514.out 3).trans rfl, (blk_cell BK514.out 4).trans rfl, (blk_cell BK514.out 5).trans rfl, ((HB.out.cell (World.block_lt_of_cell? w _ hw515_0)).trans hw515_0), ((HB.out.cell (World.block_lt_of_cell? w _ hw515_1)).trans hw515_1)⟩ (fun hHeld => ?_)
           clear hK K
           refine nm_ (some 10) ?_
           refine oa_ 6 (some 41) (bl_ 13 1151) HT_ fun K hK => ?_
           refine goesB_ Try.func43 #[.agg #[.int .i64 x515000_1, .int .i64 x515001_1, .int .i64 x515002_1, .int .i64 x515003_1, .int .i64 x515004_1, .int .u64 x515005_1], .int .u64 ((rd_T58 l1 x9_1).f0)] ?_
           with_reducible refine (bucket_Refill.calls k1 x515000_1 x515001_1 x515002_1 x515003_1 x515004_1 x515005_1 ((rd_T58 l1 x9_1).f0) t516 t517 t518 t519 t520 t521 t522 _ A21.out).mono ?_
           rintro e w61 ⟨rfl, hb⟩
           refine ⟨_, rfl, ?_⟩
           replace HO_6 := rb_ HO_6 hb
           replace BK505 := bb_ BK505 hb
           replace BK514 := bb_ BK514 hb
           replace BK523 := bb_ BK523 hb
           replace HB := bs_ w hb
           clear hb
           refine hK.out _ _ ⟨(blk_cell BK514.out 0).trans rfl, (blk_cell BK514.out 1).trans rfl, (blk_cell BK514.out 2).trans rfl, (blk_cell BK514.out 3).trans rfl, (blk_cell BK514.out 4).trans rfl, (blk_cell BK514.out 5).trans rfl, ((HB.out.cell (World.block_lt_of_cell? w _ hw515_0)).trans hw515_0), ((HB.out.cell (World.block_lt_of_cell? w _ hw515_1)).trans hw515_1)⟩ (fun hHeld => ?_)
           clear hK K
           refine nm_ (some 41) ?_
           refine pa_ 7 (some 34) (bl_ 13 1279) HT_ ?_
           refine pa_ 8 (some 42) (bl_ 13 1535) HT_ ?_
           refine pa_ 9 (some 43) (bl_ 13 2047) HT_ ?_
           exact no_ (hCont (gb523) _ ⟨hHeld, (rs_ HO_6), (bq_ BK505), (bq_ BK514), (bq_ BK523), GW523.out, GE523.out, NB505_523.out, NB523_505.out, NB514_523.out, NB523_514.out, bh_⟩)
         rintro gb523 w62 ⟨hS_, h0_, h1_, h2_, h3_, h4_, h5_, h6_, h7_, h8_, h9_, h10_⟩
         have BK523 := Aside0.mk h3_
         have GW523 := Aside0.mk h4_
         have GE523 := Aside0.mk h5_
         have NB505_523 := Aside0.mk h6_
         have NB523_505 := Aside0.mk h7_
         have NB514_523 := Aside0.mk h8_
         have NB523_514 := Aside0.mk h9_
         replace HO_6 : Aside0 (Kd.R k58 58 w62 w.heap.size (fun _ => True) u6 x6_1) := ⟨h0_⟩
         replace BK505 := Aside0.mk h1_
         replace BK514 := Aside0.mk h2_
         replace HB := Aside0.mk h10_
         clear h0_ h1_ h2_ h3_ h4_ h5_ h6_ h7_ h8_ h9_ h10_
         have hHeld := hS_
         refine nq_ ?_
         refine oa_ 11 none (bl_ 13 4095) HT_ fun K hK => ?_
         have hs63 : w62.cell? ⟨gb523, 0, none⟩ = some (.int .i64 0) := (blk_cell BK523.out 0).trans rfl
         have hfs63 := blk_frozen BK523.out 0
         have hns63_0 := NB505_523.out
         have hns63_1 := NB514_523.out
         have hms63_0 := NB523_505.out
         have hms63_1 := NB523_514.out
         have hs64 : w62.cell? ⟨gb523, 1, none⟩ = some (.int .i64 0) := (blk_cell BK523.out 1).trans rfl
         have hfs64 := blk_frozen BK523.out 1
         have hns64_0 := NB505_523.out
         have hns64_1 := NB514_523.out
         have hms64_0 := NB523_505.out
         have hms64_1 := NB523_514.out
         have hs65 : w62.cell? ⟨gb523, 2, none⟩ = some (.int .i64 0) := (blk_cell BK523.out 2).trans rfl
         have hfs65 := blk_frozen BK523.out 2
         have hns65_0 := NB505_523.out
         have hns65_1 := NB514_523.out
         have hms65_0 := NB523_505.out
         have hms65_1 := NB523_514.out
         have hs66 : w62.cell? ⟨gb523, 3, none⟩ = some (.int .i64 0) := (blk_cell BK523.out 3).trans rfl
         have hfs66 := blk_frozen BK523.out 3
         have hns66_0 := NB505_523.out
         have hns66_1 := NB514_523.out
         have hms66_0 := NB523_505.out
         have hms66_1 := NB523_514.out
         have hs67 : w62.cell? ⟨gb523, 4, none⟩ = some (.int .i64 0) := (blk_cell BK523.out 4).trans rfl
         have hfs67 := blk_frozen BK523.out 4
         have hns67_0 := NB505_523.out
         have hns67_1 := NB514_523.out
         have hms67_0 := NB523_505.out
         have hms67_1 := NB523_514.out
         have hs68 : w62.cell? ⟨gb523, 5, none⟩ = some (.int .u64 0) := (blk_cell BK523.out 5).trans rfl
         have hfs68 := blk_frozen BK523.out 5
         have hns68_0 := NB505_523.out
         have hns68_1 := NB514_523.out
         have hms68_0 := NB523_505.out
         have hms68_1 := NB523_514.out
         refine sk_ ?_
         refine hK.out _ _ ⟨((cell_far (p := ⟨gb523, _, none⟩) NB514_523.out _).trans (((cell_far (p := ⟨gb523, _, none⟩) NB514_523.out _).trans (((cell_far (p := ⟨gb523, _, none⟩) NB514_523.out _).trans (((cell_far (p := ⟨gb523, _, none⟩) NB514_523.out _).trans (((cell_far (p := ⟨gb523, _, none⟩) NB514_523.out _).trans (((cell_far (p := ⟨gb523, _, none⟩) NB514_523.out _).trans (hHeld.1)))))))))))), ((cell_far (p := ⟨gb523, _, none⟩) NB514_523.out _).trans (((cell_far (p := ⟨gb523, _, none⟩) NB514_523.out _).trans (((cell_far (p := ⟨gb523, _, none⟩) NB514_523.out _).trans (((cell_far (p := ⟨gb523, _, none⟩) NB514_523.out _).trans (((cell_far (p := ⟨gb523, _, none⟩) NB514_523.out _).trans (((cell_far (p := ⟨gb523, _, none⟩) NB514_523.out _).trans (hHeld.2.1)))))))))))), ((cell_far (p := ⟨gb523, _, none⟩) NB514_523.out _).trans (((cell_far (p := ⟨gb523, _, none⟩) NB514_523.out _).trans (((cell_far (p := ⟨gb523, _, none⟩) NB514_523.out _).trans (((cell_far (p := ⟨gb523, _, none⟩) NB514_523.out _).trans (((cell_far (p := ⟨gb523, _, none⟩) NB514_523.out _).trans (((cell_far (p := ⟨gb523, _, none⟩) NB514_523.out _).trans (hHeld.2.2.1)))))))))))), ((cell_far (p := ⟨gb523, _, none⟩) NB514_523.out _).trans (((cell_far (p := ⟨gb523, _, none⟩) NB514_523.out _).trans (((cell_far (p := ⟨gb523, _, none⟩) NB514_523.out _).trans (((cell_far (p := ⟨gb523, _, none⟩) NB514_523.out _).trans (((cell_far (p := ⟨gb523, _, none⟩) NB514_523.out _).trans (((cell_far (p := ⟨gb523, _, none⟩) NB514_523.out _).trans (hHeld.2.2.2.1)))))))))))), ((cell_far (p := ⟨gb523, _, none⟩) NB514_523.out _).trans (((cell_far (p := ⟨gb523, _, none⟩) NB514_523.out _).trans (((cell_far (p := ⟨gb523, _, none⟩) NB514_523.out _).trans (((cell_far (p := ⟨gb523, _, none⟩) NB514_523.out _).trans (((cell_far (p := ⟨gb523, _, none⟩) NB514_523.out _).trans (((cell_far (p := ⟨gb523, _, none⟩) NB514_523.out _).trans (hHeld.2.2.2.2.1)))))))))))), ((cell_far (p := ⟨gb523, _, none⟩) NB514_523.out _).trans (((cell_far (p := ⟨gb523, _, none⟩) NB514_523.out _).trans (((cell_far (p := ⟨gb523, _, none⟩) NB514_523.out _).trans (((cell_far (p := ⟨gb523, _, none⟩) NB514_523.out _).trans (((cell_far (p := ⟨gb523, _, none⟩) NB514_523.out _).trans (((cell_far (p := ⟨gb523, _, none⟩) NB514_523.out _).trans (hHeld.2.2.2.2.2.1)))))))))))), ((cell_far (p := ⟨gb523, _, none⟩) (by first | exact Nat.ne_of_lt (Nat.lt_of_lt_of_le (by have := World.block_lt_of_cell? _ _ hw515_0; first | rwa [add_block] at this | exact this) GW523.out) | (rw [add_block]; exact Nat.ne_of_lt (Nat.lt_of_lt_of_le (by have := World.block_lt_of_cell? _ _ hw515_0; first | rwa [add_block] at this | exact this) GW523.out)) | (show (Addr.add _ _).block ≠ _; rw [add_block]; exact Nat.ne_of_lt (Nat.lt_of_lt_of_le (by have := World.block_lt_of_cell? _ _ hw515_0; first | rwa [add_block] at this | exact this) GW523.out)) | (dsimp only; exact Nat.ne_of_lt (Nat.lt_of_lt_of_le (by have := World.block_lt_of_cell? _ _ hw515_0; first | rwa [add_block] at this | exact this) GW523.out))) _).trans (((cell_far (p := ⟨gb523, _, none⟩) (by first | exact Nat.ne_of_lt (Nat.lt_of_lt_of_le (by have := World.block_lt_of_cell? _ _ hw515_0; first | rwa [add_block] at this | exact this) GW523.out) | (rw [add_block]; exact Nat.ne_of_lt (Nat.lt_of_lt_of_le (by have := World.block_lt_of_cell? _ _ hw515_0; first | rwa [add_block] at this | exact this) GW523.out)) | (show (Addr.add _ _).block ≠ _; rw [add_block]; exact Nat.ne_of_lt (Nat.lt_of_lt_of_le (by have := World.block_lt_of_cell? _ _ hw515_0; first | rwa [add_block] at this | exact this) GW523.out)) | (dsimp only; exact Nat.ne_of_lt (Nat.lt_of_lt_of_le (by have := World.block_lt_of_cell? _ _ hw515_0; first | rwa [add_block] at this | exact this) GW523.out))) _).trans (((cell_far (p := ⟨gb523, _, none⟩) (by first | exact Nat.ne_of_lt (Nat.lt_of_lt_of_le (by have := World.block_lt_of_cell? _ _ hw515_0; first | rwa [add_block] at this | exact this) GW523.out) | (rw [add_block]; exact Nat.ne_of_lt (Nat.lt_of_lt_of_le (by have := World.block_lt_of_cell? _ _ hw515_0; first | rwa [add_block] at this | exact this) GW523.out)) | (show (Addr.add _ _).block ≠ _; rw [add_block]; exact Nat.ne_of_lt (Nat.lt_of_lt_of_le (by have := World.block_lt_of_cell? _ _ hw515_0; first | rwa [add_block] at this | exact this) GW523.out)) | (dsimp only; exact Nat.ne_of_lt (Nat.lt_of_lt_of_le (by have := World.block_lt_of_cell? _ _ hw515_0; first | rwa [add_block] at this | exact this) GW523.out))) _).trans (((cell_far (p := ⟨gb523, _, none⟩) (by first | exact Nat.ne_of_lt (Nat.lt_of_lt_of_le (by have := World.block_lt_of_cell? _ _ hw515_0; first | rwa [add_block] at this | exact this) GW523.out) | (rw [add_block]; exact Nat.ne_of_lt (Nat.lt_of_lt_of_le (by have := World.block_lt_of_cell? _ _ hw515_0; first | rwa [add_block] at this | exact this) GW523.out)) | (show (Addr.add _ _).block ≠ _; rw [add_block]; exact Nat.ne_of_lt (Nat.lt_of_lt_of_le (by have := World.block_lt_of_cell? _ _ hw515_0; first | rwa [add_block] at this | exact this) GW523.out)) | (dsimp only; exact Nat.ne_of_lt (Nat.lt_of_lt_of_le (by have := World.block_lt_of_cell? _ _ hw515_0; first | rwa [add_block] at this | exact this) GW523.out))) _).trans (((cell_far (p := ⟨gb523, _, none⟩) (by first | exact Nat.ne_of_lt (Nat.lt_of_lt_of_le (by have := World.block_lt_of_cell? _ _ hw515_0; first | rwa [add_block] at this | exact this) GW523.out) | (rw [add_block]; exact Nat.ne_of_lt (Nat.lt_of_lt_of_le (by have := World.block_lt_of_cell? _ _ hw515_0; first | rwa [add_block] at this | exact this) GW523.out)) | (show (Addr.add _ _).block ≠ _; rw [add_block]; exact Nat.ne_of_lt (Nat.lt_of_lt_of_le (by have := World.block_lt_of_cell? _ _ hw515_0; first | rwa [add_block] at this | exact this) GW523.out)) | (dsimp only; exact Nat.ne_of_lt (Nat.lt_of_lt_of_le (by have := World.block_lt_of_cell? _ _ hw515_0; first | rwa [add_block] at this | exact this) GW523.out))) _).trans (((cell_far (p := ⟨gb523, _, none⟩) (by first | exact Nat.ne_of_lt (Nat.lt_of_lt_of_le (by have := World.block_lt_of_cell? _ _ hw515_0; first | rwa [add_block] at this | exact this) GW523.out) | (rw [add_block]; exact Nat.ne_of_lt (Nat.lt_of_lt_of_le (by have := World.block_lt_of_cell? _ _ hw515_0; first | rwa [add_block] at this | exact this) GW523.out)) | (show (Addr.add _ _).block ≠ _; rw [add_block]; exact Nat.ne_of_lt (Nat.lt_of_lt_of_le (by have := World.block_lt_of_cell? _ _ hw515_0; first | rwa [add_block] at this | exact this) GW523.out)) | (dsimp only; exact Nat.ne_of_lt (Nat.lt_of_lt_of_le (by have := World.block_lt_of_cell? _ _ hw515_0; first | rwa [add_block] at this | exact this) GW523.out))) _).trans (hHeld.2.2.2.2.2.2.1)))))))))))), ((cell_far (p := ⟨gb523, _, none⟩) (by first | exact Nat.ne_of_lt (Nat.lt_of_lt_of_le (by have := World.block_lt_of_cell? _ _ hw515_1; first | rwa [add_block] at this | exact this) GW523.out) | (rw [add_block]; exact Nat.ne_of_lt (Nat.lt_of_lt_of_le (by have := World.block_lt_of_cell? _ _ hw515_1; first | rwa [add_block] at this | exact this) GW523.out)) | (show (Addr.add _ _).block ≠ _; rw [add_block]; exact Nat.ne_of_lt (Nat.lt_of_lt_of_le (by have := World.block_lt_of_cell? _ _ hw515_1; first | rwa [add_block] at this | exact this) GW523.out)) | (dsimp only; exact Nat.ne_of_lt (Nat.lt_of_lt_of_le (by have := World.block_lt_of_cell? _ _ hw515_1; first | rwa [add_block] at this | exact this) GW523.out))) _).trans (((cell_far (p := ⟨gb523, _, none⟩) (by first | exact Nat.ne_of_lt (Nat.lt_of_lt_of_le (by have := World.block_lt_of_cell? _ _ hw515_1; first | rwa [add_block] at this | exact this) GW523.out) | (rw [add_block]; exact Nat.ne_of_lt (Nat.lt_of_lt_of_le (by have := World.block_lt_of_cell? _ _ hw515_1; first | rwa [add_block] at this | exact this) GW523.out)) | (show (Addr.add _ _).block ≠ _; rw [add_block]; exact Nat.ne_of_lt (Nat.lt_of_lt_of_le (by have := World.block_lt_of_cell? _ _ hw515_1; first | rwa [add_block] at this | exact this) GW523.out)) | (dsimp only; exact Nat.ne_of_lt (Nat.lt_of_lt_of_le (by have := World.block_lt_of_cell? _ _ hw515_1; first | rwa [add_block] at this | exact this) GW523.out))) _).trans (((cell_far (p := ⟨gb523, _, none⟩) (by first | exact Nat.ne_of_lt (Nat.lt_of_lt_of_le (by have := World.block_lt_of_cell? _ _ hw515_1; first | rwa [add_block] at this | exact this) GW523.out) | (rw [add_block]; exact Nat.ne_of_lt (Nat.lt_of_lt_of_le (by have := World.block_lt_of_cell? _ _ hw515_1; first | rwa [add_block] at this | exact this) GW523.out)) | (show (Addr.add _ _).block ≠ _; rw [add_block]; exact Nat.ne_of_lt (Nat.lt_of_lt_of_le (by have := World.block_lt_of_cell? _ _ hw515_1; first | rwa [add_block] at this | exact this) GW523.out)) | (dsimp only; exact Nat.ne_of_lt (Nat.lt_of_lt_of_le (by have := World.block_lt_of_cell? _ _ hw515_1; first | rwa [add_block] at this | exact this) GW523.out))) _).trans (((cell_far (p := ⟨gb523, _, none⟩) (by first | exact Nat.ne_of_lt (Nat.lt_of_lt_of_le (by have := World.block_lt_of_cell? _ _ hw515_1; first | rwa [add_block] at this | exact this) GW523.out) | (rw [add_block]; exact Nat.ne_of_lt (Nat.lt_of_lt_of_le (by have := World.block_lt_of_cell? _ _ hw515_1; first | rwa [add_block] at this | exact this) GW523.out)) | (show (Addr.add _ _).block ≠ _; rw [add_block]; exact Nat.ne_of_lt (Nat.lt_of_lt_of_le (by have := World.block_lt_of_cell? _ _ hw515_1; first | rwa [add_block] at this | exact this) GW523.out)) | (dsimp only; exact Nat.ne_of_lt (Nat.lt_of_lt_of_le (by have := World.block_lt_of_cell? _ _ hw515_1; first | rwa [add_block] at this | exact this) GW523.out))) _).trans (((cell_far (p := ⟨gb523, _, none⟩) (by first | exact Nat.ne_of_lt (Nat.lt_of_lt_of_le (by have := World.block_lt_of_cell? _ _ hw515_1; first | rwa [add_block] at this | exact this) GW523.out) | (rw [add_block]; exact Nat.ne_of_lt (Nat.lt_of_lt_of_le (by have := World.block_lt_of_cell? _ _ hw515_1; first | rwa [add_block] at this | exact this) GW523.out)) | (show (Addr.add _ _).block ≠ _; rw [add_block]; exact Nat.ne_of_lt (Nat.lt_of_lt_of_le (by have := World.block_lt_of_cell? _ _ hw515_1; first | rwa [add_block] at this | exact this) GW523.out)) | (dsimp only; exact Nat.ne_of_lt (Nat.lt_of_lt_of_le (by have := World.block_lt_of_cell? _ _ hw515_1; first | rwa [add_block] at this | exact this) GW523.out))) _).trans (((cell_far (p := ⟨gb523, _, none⟩) (by first | exact Nat.ne_of_lt (Nat.lt_of_lt_of_le (by have := World.block_lt_of_cell? _ _ hw515_1; first | rwa [add_block] at this | exact this) GW523.out) | (rw [add_block]; exact Nat.ne_of_lt (Nat.lt_of_lt_of_le (by have := World.block_lt_of_cell? _ _ hw515_1; first | rwa [add_block] at this | exact this) GW523.out)) | (show (Addr.add _ _).block ≠ _; rw [add_block]; exact Nat.ne_of_lt (Nat.lt_of_lt_of_le (by have := World.block_lt_of_cell? _ _ hw515_1; first | rwa [add_block] at this | exact this) GW523.out)) | (dsimp only; exact Nat.ne_of_lt (Nat.lt_of_lt_of_le (by have := World.block_lt_of_cell? _ _ hw515_1; first | rwa [add_block] at this | exact this) GW523.out))) _).trans (hHeld.2.2.2.2.2.2.2))))))))))))⟩ (fun hHeld => ?_)
         clear hK K
         refine pa_ 12 (some 11) (bl_ 13 8191) HT_ ?_
         refine done_ (done_of HT_.out (by kernel_rfl)) ?_
         replace hn523_505 := NB523_505.out
         replace hn505_523 := NB505_523.out
         replace hn523_514 := NB523_514.out
         replace hn514_523 := NB514_523.out
         replace hc523 := ce6_ BK523
         replace hn514_505 := NB514_505.out
         replace hn505_514 := NB505_514.out
         replace hc514 := ce6_ BK514
         try go_wp2
         have n0_ : Aside0 (Kd.R k58 58 ((((((((((((w62.setCell ⟨gb523, 0, none⟩ (.int .i64 t516)).setCell ⟨gb523, 1, none⟩ (.int .i64 t517)).setCell ⟨gb523, 2, none⟩ (.int .i64 t518)).setCell ⟨gb523, 3, none⟩ (.int .i64 t519)).setCell ⟨gb523, 4, none⟩ (.int .i64 t520)).setCell ⟨gb523, 5, none⟩ (.int .u64 t521)).setCell ⟨gb514, 0, none⟩ (.int .i64 t516)).setCell ⟨gb514, 1, none⟩ (.int .i64 t517)).setCell ⟨gb514, 2, none⟩ (.int .i64 t518)).setCell ⟨gb514, 3, none⟩ (.int .i64 t519)).setCell ⟨gb514, 4, none⟩ (.int .i64 t520)).setCell ⟨gb514, 5, none⟩ (.int .u64 t521)) w.heap.size (fun _ => True) u6 x6_1) := ⟨by (with_reducible repeat (first | apply Kd.R_alloc | apply Kd.R_drewN | apply Kd.R_drew)); exact Kd.R_mono (Kd.R_far (p := ⟨gb514, 5, none⟩) (Kd.R_far (p := ⟨gb514, 4, none⟩) (Kd.R_far (p := ⟨gb514, 3, none⟩) (Kd.R_far (p := ⟨gb514, 2, none⟩) (Kd.R_far (p := ⟨gb514, 1, none⟩) (Kd.R_far (p := ⟨gb514, 0, none⟩) (Kd.R_far (p := ⟨gb523, 5, none⟩) (Kd.R_far (p := ⟨gb523, 4, none⟩) (Kd.R_far (p := ⟨gb523, 3, none⟩) (Kd.R_far (p := ⟨gb523, 2, none⟩) (Kd.R_far (p := ⟨gb523, 1, none⟩) (Kd.R_far (p := ⟨gb523, 0, none⟩) (Kd.R_types (Kd.R_types HO_6.out BK523.out (by decide)) BK514.out (by decide)) (fun _ hk => hk.1.2) (.int .i64 t516)) (fun _ hk => hk.1.2) (.int .i64 t517)) (fun _ hk => hk.1.2) (.int .i64 t518)) (fun _ hk => hk.1.2) (.int .i64 t519)) (fun _ hk => hk.1.2) (.int .i64 t520)) (fun _ hk => hk.1.2) (.int .u64 t521)) (fun _ hk => hk.2) (.int .i64 t516)) (fun _ hk => hk.2) (.int .i64 t517)) (fun _ hk => hk.2) (.int .i64 t518)) (fun _ hk => hk.2) (.int .i64 t519)) (fun _ hk => hk.2) (.int .i64 t520)) (fun _ hk => hk.2) (.int .u64 t521)) (fun _ hk => trivial)⟩
         have n1_ : Aside0 (((((((((((((w62.setCell ⟨gb523, 0, none⟩ (.int .i64 t516)).setCell ⟨gb523, 1, none⟩ (.int .i64 t517)).setCell ⟨gb523, 2, none⟩ (.int .i64 t518)).setCell ⟨gb523, 3, none⟩ (.int .i64 t519)).setCell ⟨gb523, 4, none⟩ (.int .i64 t520)).setCell ⟨gb523, 5, none⟩ (.int .u64 t521)).setCell ⟨gb514, 0, none⟩ (.int .i64 t516)).setCell ⟨gb514, 1, none⟩ (.int .i64 t517)).setCell ⟨gb514, 2, none⟩ (.int .i64 t518)).setCell ⟨gb514, 3, none⟩ (.int .i64 t519)).setCell ⟨gb514, 4, none⟩ (.int .i64 t520)).setCell ⟨gb514, 5, none⟩ (.int .u64 t521)).heap[gb505]? = some (.cells #[.int .i64 a0_0, .int .i64 a0_1, .int .i64 a0_2] 43 (0, 0))) := ⟨(bt_ BK505)⟩
         have n2_ : Aside0 (((((((((((((w62.setCell ⟨gb523, 0, none⟩ (.int .i64 t516)).setCell ⟨gb523, 1, none⟩ (.int .i64 t517)).setCell ⟨gb523, 2, none⟩ (.int .i64 t518)).setCell ⟨gb523, 3, none⟩ (.int .i64 t519)).setCell ⟨gb523, 4, none⟩ (.int .i64 t520)).setCell ⟨gb523, 5, none⟩ (.int .u64 t521)).setCell ⟨gb514, 0, none⟩ (.int .i64 t516)).setCell ⟨gb514, 1, none⟩ (.int .i64 t517)).setCell ⟨gb514, 2, none⟩ (.int .i64 t518)).setCell ⟨gb514, 3, none⟩ (.int .i64 t519)).setCell ⟨gb514, 4, none⟩ (.int .i64 t520)).setCell ⟨gb514, 5, none⟩ (.int .u64 t521)).heap[gb514]? = some (.cells #[.int .i64 t516, .int .i64 t517, .int .i64 t518, .int .i64 t519, .int .i64 t520, .int .u64 t521] 74 (0, 0))) := ⟨(blk_put (cs := #[.int .i64 t516, .int .i64 t517, .int .i64 t518, .int .i64 t519, .int .i64 t520, .int .u64 x515005_1]) (blk_put (cs := #[.int .i64 t516, .int .i64 t517, .int .i64 t518, .int .i64 t519, .int .i64 x515004_1, .int .u64 x515005_1]) (blk_put (cs := #[.int .i64 t516, .int .i64 t517, .int .i64 t518, .int .i64 x515003_1, .int .i64 x515004_1, .int .u64 x515005_1]) (blk_put (cs := #[.int .i64 t516, .int .i64 t517, .int .i64 x515002_1, .int .i64 x515003_1, .int .i64 x515004_1, .int .u64 x515005_1]) (blk_put (cs := #[.int .i64 t516, .int .i64 x515001_1, .int .i64 x515002_1, .int .i64 x515003_1, .int .i64 x515004_1, .int .u64 x515005_1]) (blk_put (cs := #[.int .i64 x515000_1, .int .i64 x515001_1, .int .i64 x515002_1, .int .i64 x515003_1, .int .i64 x515004_1, .int .u64 x515005_1]) (bt_ BK514) 0 _ rfl) 1 _ rfl) 2 _ rfl) 3 _ rfl) 4 _ rfl) 5 _ rfl)⟩
         have n3_ : Aside0 (((((((((((((w62.setCell ⟨gb523, 0, none⟩ (.int .i64 t516)).setCell ⟨gb523, 1, none⟩ (.int .i64 t517)).setCell ⟨gb523, 2, none⟩ (.int .i64 t518)).setCell ⟨gb523, 3, none⟩ (.int .i64 t519)).setCell ⟨gb523, 4, none⟩ (.int .i64 t520)).setCell ⟨gb523, 5, none⟩ (.int .u64 t521)).setCell ⟨gb514, 0, none⟩ (.int .i64 t516)).setCell ⟨gb514, 1, none⟩ (.int .i64 t517)).setCell ⟨gb514, 2, none⟩ (.int .i64 t518)).setCell ⟨gb514, 3, none⟩ (.int .i64 t519)).setCell ⟨gb514, 4, none⟩ (.int .i64 t520)).setCell ⟨gb514, 5, none⟩ (.int .u64 t521)).heap[gb523]? = some (.cells #[.int .i64 t516, .int .i64 t517, .int .i64 t518, .int .i64 t519, .int .i64 t520, .int .u64 t521] 74 (0, 0))) := ⟨(blk_far (blk_far (blk_far (blk_far (blk_far (blk_far (bp6_ (bq_ BK523)) NB523_514.out _) NB523_514.out _) NB523_514.out _) NB523_514.out _) NB523_514.out _) NB523_514.out _)⟩
         have n4_ : Aside0 (Below w.heap.size w ((((((((((((w62.setCell ⟨gb523, 0, none⟩ (.int .i64 t516)).setCell ⟨gb523, 1, none⟩ (.int .i64 t517)).setCell ⟨gb523, 2, none⟩ (.int .i64 t518)).setCell ⟨gb523, 3, none⟩ (.int .i64 t519)).setCell ⟨gb523, 4, none⟩ (.int .i64 t520)).setCell ⟨gb523, 5, none⟩ (.int .u64 t521)).setCell ⟨gb514, 0, none⟩ (.int .i64 t516)).setCell ⟨gb514, 1, none⟩ (.int .i64 t517)).setCell ⟨gb514, 2, none⟩ (.int .i64 t518)).setCell ⟨gb514, 3, none⟩ (.int .i64 t519)).setCell ⟨gb514, 4, none⟩ (.int .i64 t520)).setCell ⟨gb514, 5, none⟩ (.int .u64 t521))) := bw_
         (try clear HO_6)
         (try clear BK505)
         (try clear BK514)
         (try clear BK523)
         (try clear HB)
         generalize ((((((((((((w62.setCell ⟨gb523, 0, none⟩ (.int .i64 t516)).setCell ⟨gb523, 1, none⟩ (.int .i64 t517)).setCell ⟨gb523, 2, none⟩ (.int .i64 t518)).setCell ⟨gb523, 3, none⟩ (.int .i64 t519)).setCell ⟨gb523, 4, none⟩ (.int .i64 t520)).setCell ⟨gb523, 5, none⟩ (.int .u64 t521)).setCell ⟨gb514, 0, none⟩ (.int .i64 t516)).setCell ⟨gb514, 1, none⟩ (.int .i64 t517)).setCell ⟨gb514, 2, none⟩ (.int .i64 t518)).setCell ⟨gb514, 3, none⟩ (.int .i64 t519)).setCell ⟨gb514, 4, none⟩ (.int .i64 t520)).setCell ⟨gb514, 5, none⟩ (.int .u64 t521)) = w74 at n0_ n1_ n2_ n3_ n4_ ⊢
         have HO_6 := n0_
         have BK505 := n1_
         have BK514 := n2_
         have BK523 := n3_
         have HB := n4_
         clear n0_ n1_ n2_ n3_ n4_
         replace HO_6 := Aside0.mk (Kd.R_drew HO_6.out)
         replace BK505 := Aside0.mk (blk_drew BK505.out)
         replace BK514 := Aside0.mk (blk_drew BK514.out)
         replace BK523 := Aside0.mk (blk_drew BK523.out)
         replace HB := Aside0.mk (below_drew1 HB.out)
         have p524 : 0 ≤ (x9_1 : Int) := of_decide_eq_true (by first | (with_reducible assumption) | assumption)
         have q524 : x9_1 < (l1.length : Int) := of_decide_eq_true (by first | (with_reducible assumption) | assumption)
         obtain ⟨ad524, e524, hx524_0, hx524_1⟩ := at_T58 HR1.out x9_1 p524 q524
         have hw524_1 := hx524_1
         have hw524_0 := hx524_0
         obtain rfl : ad506 = ad524 := (by injection e524)
         replace hx524_0 := (HB.out.cell (World.block_lt_of_cell? w _ hx524_0)).trans hx524_0
         replace hx524_1 := (HB.out.cell (World.block_lt_of_cell? w _ hx524_1)).trans hx524_1
         replace p524 := eq_true p524
         replace q524 := eq_true q524
         refine start_ (n := 13) (S := fun w' => w'.cell? ⟨gb514, 0, none⟩ = some (.int .i64 t516) ∧ w'.cell? ⟨gb514, 1, none⟩ = some (.int .i64 t517) ∧ w'.cell? ⟨gb514, 2, none⟩ = some (.int .i64 t518) ∧ w'.cell? ⟨gb514, 3, none⟩ = some (.int .i64 t519) ∧ w'.cell? ⟨gb514, 4, none⟩ = some (.int .i64 t520) ∧ w'.cell? ⟨gb514, 5, none⟩ = some (.int .u64 t521) ∧ w'.cell? (ad506.add ((x9_1).toNat * 2)) = some (.int .u64 ((rd_T58 l1 x9_1).f0)) ∧ w'.cell? ⟨(ad506.add ((x9_1).toNat * 2)).block, (ad506.add ((x9_1).toNat * 2)).off + 1, none⟩ = some (.int .i64 ((rd_T58 l1 x9_1).f1))) (ds := []) (bl_ 13 0) (by kernel_rfl) rfl (by kernel_rfl) ⟨(blk_cell BK514.out 0).trans rfl, (blk_cell BK514.out 1).trans rfl, (blk_cell BK514.out 2).trans rfl, (blk_cell BK514.out 3).trans rfl, (blk_cell BK514.out 4).trans rfl, (blk_cell BK514.out 5).trans rfl, ((HB.out.cell (World.block_lt_of_cell? w _ hw524_0)).trans hw524_0), ((HB.out.cell (World.block_lt_of_cell? w _ hw524_1)).trans hw524_1)⟩ (fun hHeld => ?_); refine with_tabW spigotlaw38_passes.tab14 spigotlaw38_passes.bits14 (fun HT_ HW_ => ?_)
         generalize w74.drew = w75 at HO_6 BK505 BK514 BK523 HB hx524_0 hx524_1 hHeld ⊢
         refine pa_ 1 (some 49) (bl_ 13 2) HT_ ?_
         refine pa_ 2 (some 50) (bl_ 13 6) HT_ ?_
         refine pa_ 3 (some 51) (bl_ 13 14) HT_ ?_
         refine pa_ 4 (some 52) (bl_ 13 30) HT_ ?_
         refine ta_ 0 (some 48) (bl_ 13 31) HT_ HW_ hHeld ?_
         refine ta_ 5 (some 53) (bl_ 13 63) HT_ HW_ hHeld ?_
         refine join_ (σ := Nat) 2 (bl_ 13 2047) (fun s_ => [(54, .tuple #[.agg #[.int .i64 t525, .int .i64 t526, .int .i64 t527, .int .i64 t528, .int .i64 t529, .int .u64 t530], .int .i64 t531]), (12, .pointer (some ⟨s_, 0, none⟩)), (47, .tuple #[.agg #[.int .i64 t525, .int .i64 t526, .int .i64 t527, .int .i64 t528, .int .i64 t529, .int .u64 t530], .int .i64 t531]), (55, .agg #[.int .i64 t525, .int .i64 t526, .int .i64 t527, .int .i64 t528, .int .i64 t529, .int .u64 t530]), (56, .int .i64 t531)]) (fun s_ w' => (w'.cell? ⟨gb514, 0, none⟩ = some (.int .i64 t516) ∧ w'.cell? ⟨gb514, 1, none⟩ = some (.int .i64 t517) ∧ w'.cell? ⟨gb514, 2, none⟩ = some (.int .i64 t518) ∧ w'.cell? ⟨gb514, 3, none⟩ = some (.int .i64 t519) ∧ w'.cell? ⟨gb514, 4, none⟩ = some (.int .i64 t520) ∧ w'.cell? ⟨gb514, 5, none⟩ = some (.int .u64 t521) ∧ w'.cell? (ad506.add ((x9_1).toNat * 2)) = some (.int .u64 ((rd_T58 l1 x9_1).f0)) ∧ w'.cell? ⟨(ad506.add ((x9_1).toNat * 2)).block, (ad506.add ((x9_1).toNat * 2)).off + 1, none⟩ = some (.int .i64 ((rd_T58 l1 x9_1).f1))) ∧ (Kd.R k58 58 w' w.heap.size (fun _ => True) u6 x6_1) ∧ (w'.heap[gb505]? = some (.cells #[.int .i64 a0_0, .int .i64 a0_1, .int .i64 a0_2] 43 (0, 0))) ∧ (w'.heap[gb514]? = some (.cells #[.int .i64 t516, .int .i64 t517, .int .i64 t518, .int .i64 t519, .int .i64 t520, .int .u64 t521] 74 (0, 0))) ∧ (w'.heap[gb523]? = some (.cells #[.int .i64 t516, .int .i64 t517, .int .i64 t518, .int .i64 t519, .int .i64 t520, .int .u64 t521] 74 (0, 0))) ∧ (w'.heap[s_]? = some (.cells #[.int .i64 0, .int .i64 0, .int .i64 0, .int .i64 0, .int .i64 0, .int .u64 0] 74 (0, 0))) ∧ (w.heap.size ≤ s_) ∧ (w.heap.size ≤ s_) ∧ (gb505 ≠ s_) ∧ (s_ ≠ gb505) ∧ (gb514 ≠ s_) ∧ (s_ ≠ gb514) ∧ (gb523 ≠ s_) ∧ (s_ ≠ gb523) ∧ (Below w.heap.size w w')) ?_ ?_
         rotate_left
         ·intro hCont
          refine tw_ 6 10 (some 54) (some 12) (bl_ 13 127) (bl_ 13 1087) HT_ (fun K hK => ?_) fun K hK => ?_
          ·refine goesB_ Try.func44 #[.agg #[.int .i64 t516, .int .i64 t517, .int .i64 t518, .int .i64 t519, .int .i64 t520, .int .u64 t521], .int .i64 ((rd_T58 l1 x9_1).f1)] ?_
           with_reducible refine (bucket_Charge.calls t516 t517 t518 t519 t520 t521 ((rd_T58 l1 x9_1).f1) t525 t526 t527 t528 t529 t530 t531 _ A23.out).mono ?_
           rintro e w76 ⟨rfl, hb⟩
           refine ⟨_, rfl, ?_⟩
           replace HO_6 := rb_ HO_6 hb
           replace BK505 := bb_ BK505 hb
           replace BK514 := bb_ BK514 hb
           replace BK523 := bb_ BK523 hb
           replace HB := bs_ w hb
           clear hb
           refine hK.out _ _ ⟨(blk_cell BK514.out 0).trans rfl, (blk_cell BK514.out 1).trans rfl, (blk_cell BK514.out 2).trans rfl, (blk_cell BK514.out 3).trans rfl, (blk_cell BK514.out 4).trans rfl, (blk_cell BK514.out 5).trans rfl, ((HB.out.cell (World.block_lt_of_cell? w _ hw524_0)).trans hw524_0), ((HB.out.cell (World.block_lt_of_cell? w _ hw524_1)).trans hw524_1)⟩ (fun hHeld => ?_)
           clear hK K
           refine nm_ (some 54) ?_
           refine pa_ 7 (some 47) (bl_ 13 255) HT_ ?_
           refine pa_ 8 (some 55) (bl_ 13 511) HT_ ?_
           refine pa_ 9 (some 56) (bl_ 13 1023) HT_ ?_
           refine oa_ 10 (some 12) (bl_ 13 2047) HT_ fun K hK => ?_
           refine bs2_ #[.int .i64 0, .int .i64 0, .int .i64 0, .int .i64 0, .int .i64 0, .int .u64 0] 74 ?_
           intro gb532 hg w77 BK532 hb
           have GW532 := bz_ w hg
           have GE532 := GW532
           have NB505_532 := bn_ BK505 hg
           have NB532_505 := bm_ BK505 hg
           have NB514_532 := bn_ BK514 hg
           have NB532_514 := bm_ BK514 hg
           have NB523_532 := bn_ BK523 hg
           have NB532_523 := bm_ BK523 hg
           replace HO_6 := rb_ HO_6 hb
           replace BK505 := bb_ BK505 hb
           replace BK514 := bb_ BK514 hb
           replace BK523 := bb_ BK523 hb
           replace HB := bs_ w hb
           clear hb hg
           refine hK.out _ _ ⟨(blk_cell BK514.out 0).trans rfl, (blk_cell BK514.out 1).trans rfl, (blk_cell BK514.out 2).trans rfl, (blk_cell BK514.out 3).trans rfl, (blk_cell BK514.out 4).trans rfl, (blk_cell BK514.out 5).trans rfl, ((HB.out.cell (World.block_lt_of_cell? w _ hw524_0)).trans hw524_0), ((HB.out.cell (World.block_lt_of_cell? w _ hw524_1)).trans hw524_1)⟩ (fun hHeld => ?_)
           clear hK K
           refine nm_ (some 12) ?_
           exact no_ (hCont (gb532) _ ⟨hHeld, (rs_ HO_6), (bq_ BK505), (bq_ BK514), (bq_ BK523), (bq_ BK532), GW532.out, GE532.out, NB505_532.out, NB532_505.out, NB514_532.out, NB532_514.out, NB523_532.out, NB532_523.out, bh_⟩)
          ·refine bs2_ #[.int .i64 0, .int .i64 0, .int .i64 0, .int .i64 0, .int .i64 0, .int .u64 0] 74 ?_
           intro gb532 hg w76 BK532 hb
           have GW532 := bz_ w hg
           have GE532 := GW532
           have NB505_532 := bn_ BK505 hg
           have NB532_505 := bm_ BK505 hg
           have NB514_532 := bn_ BK514 hg
           have NB532_514 := bm_ BK514 hg
           have NB523_532 := bn_ BK523 hg
           have NB532_523 := bm_ BK523 hg
           replace HO_6 := rb_ HO_6 hb
           replace BK505 := bb_ BK505 hb
           replace BK514 := bb_ BK514 hb
           replace BK523 := bb_ BK523 hb
           replace HB := bs_ w hb
           clear hb hg
           refine hK.out _ _ ⟨(blk_cell BK514.out 0).trans rfl, (blk_cell BK514.out 1).trans rfl, (blk_cell BK514.out 2).trans rfl, (blk_cell BK514.out 3).trans rfl, (blk_cell BK514.out 4).trans rfl, (blk_cell BK514.out 5).trans rfl, ((HB.out.cell (World.block_lt_of_cell? w _ hw524_0)).trans hw524_0), ((HB.out.cell (World.block_lt_of_cell? w _ hw524_1)).trans hw524_1)⟩ (fun hHeld => ?_)
           clear hK K
           refine nm_ (some 12) ?_
           refine oa_ 6 (some 54) (bl_ 13 1151) HT_ fun K hK => ?_
           refine goesB_ Try.func44 #[.agg #[.int .i64 t516, .int .i64 t517, .int .i64 t518, .int .i64 t519, .int .i64 t520, .int .u64 t521], .int .i64 ((rd_T58 l1 x9_1).f1)] ?_
           with_reducible refine (bucket_Charge.calls t516 t517 t518 t519 t520 t521 ((rd_T58 l1 x9_1).f1) t525 t526 t527 t528 t529 t530 t531 _ A23.out).mono ?_
           rintro e w77 ⟨rfl, hb⟩
           refine ⟨_, rfl, ?_⟩
           replace HO_6 := rb_ HO_6 hb
           replace BK505 := bb_ BK505 hb
           replace BK514 := bb_ BK514 hb
           replace BK523 := bb_ BK523 hb
           replace BK532 := bb_ BK532 hb
           replace HB := bs_ w hb
           clear hb
           refine hK.out _ _ ⟨(blk_cell BK514.out 0).trans rfl, (blk_cell BK514.out 1).trans rfl, (blk_cell BK514.out 2).trans rfl, (blk_cell BK514.out 3).trans rfl, (blk_cell BK514.out 4).trans rfl, (blk_cell BK514.out 5).trans rfl, ((HB.out.cell (World.block_lt_of_cell? w _ hw524_0)).trans hw524_0), ((HB.out.cell (World.block_lt_of_cell? w _ hw524_1)).trans hw524_1)⟩ (fun hHeld => ?_)
           clear hK K
           refine nm_ (some 54) ?_
           refine pa_ 7 (some 47) (bl_ 13 1279) HT_ ?_
           refine pa_ 8 (some 55) (bl_ 13 1535) HT_ ?_
           refine pa_ 9 (some 56) (bl_ 13 2047) HT_ ?_
           exact no_ (hCont (gb532) _ ⟨hHeld, (rs_ HO_6), (bq_ BK505), (bq_ BK514), (bq_ BK523), (bq_ BK532), GW532.out, GE532.out, NB505_532.out, NB532_505.out, NB514_532.out, NB532_514.out, NB523_532.out, NB532_523.out, bh_⟩)
         rintro gb532 w78 ⟨hS_, h0_, h1_, h2_, h3_, h4_, h5_, h6_, h7_, h8_, h9_, h10_, h11_, h12_, h13_⟩
         have BK532 := Aside0.mk h4_
         have GW532 := Aside0.mk h5_
         have GE532 := Aside0.mk h6_
         have NB505_532 := Aside0.mk h7_
         have NB532_505 := Aside0.mk h8_
         have NB514_532 := Aside0.mk h9_
         have NB532_514 := Aside0.mk h10_
         have NB523_532 := Aside0.mk h11_
         have NB532_523 := Aside0.mk h12_
         replace HO_6 : Aside0 (Kd.R k58 58 w78 w.heap.size (fun _ => True) u6 x6_1) := ⟨h0_⟩
         replace BK505 := Aside0.mk h1_
         replace BK514 := Aside0.mk h2_
         replace BK523 := Aside0.mk h3_
         replace HB := Aside0.mk h13_
         clear h0_ h1_ h2_ h3_ h4_ h5_ h6_ h7_ h8_ h9_ h10_ h11_ h12_ h13_
         have hHeld := hS_
         refine nq_ ?_
         refine oa_ 11 none (bl_ 13 4095) HT_ fun K hK => ?_
         have hs79 : w78.cell? ⟨gb532, 0, none⟩ = some (.int .i64 0) := (blk_cell BK532.out 0).trans rfl
         have hfs79 := blk_frozen BK532.out 0
         have hns79_0 := NB505_532.out
         have hns79_1 := NB514_532.out
         have hns79_2 := NB523_532.out
         have hms79_0 := NB532_505.out
         have hms79_1 := NB532_514.out
         have hms79_2 := NB532_523.out
         have hs80 : w78.cell? ⟨gb532, 1, none⟩ = some (.int .i64 0) := (blk_cell BK532.out 1).trans rfl
         have hfs80 := blk_frozen BK532.out 1
         have hns80_0 := NB505_532.out
         have hns80_1 := NB514_532.out
         have hns80_2 := NB523_532.out
         have hms80_0 := NB532_505.out
         have hms80_1 := NB532_514.out
         have hms80_2 := NB532_523.out
         have hs81 : w78.cell? ⟨gb532, 2, none⟩ = some (.int .i64 0) := (blk_cell BK532.out 2).trans rfl
         have hfs81 := blk_frozen BK532.out 2
         have hns81_0 := NB505_532.out
         have hns81_1 := NB514_532.out
         have hns81_2 := NB523_532.out
         have hms81_0 := NB532_505.out
         have hms81_1 := NB532_514.out
         have hms81_2 := NB532_523.out
         have hs82 : w78.cell? ⟨gb532, 3, none⟩ = some (.int .i64 0) := (blk_cell BK532.out 3).trans rfl
         have hfs82 := blk_frozen BK532.out 3
         have hns82_0 := NB505_532.out
         have hns82_1 := NB514_532.out
         have hns82_2 := NB523_532.out
         have hms82_0 := NB532_505.out
         have hms82_1 := NB532_514.out
         have hms82_2 := NB532_523.out
         have hs83 : w78.cell? ⟨gb532, 4, none⟩ = some (.int .i64 0) := (blk_cell BK532.out 4).trans rfl
         have hfs83 := blk_frozen BK532.out 4
         have hns83_0 := NB505_532.out
         have hns83_1 := NB514_532.out
         have hns83_2 := NB523_532.out
         have hms83_0 := NB532_505.out
         have hms83_1 := NB532_514.out
         have hms83_2 := NB532_523.out
         have hs84 : w78.cell? ⟨gb532, 5, none⟩ = some (.int .u64 0) := (blk_cell BK532.out 5).trans rfl
         have hfs84 := blk_frozen BK532.out 5
         have hns84_0 := NB505_532.out
         have hns84_1 := NB514_532.out
         have hns84_2 := NB523_532.out
         have hms84_0 := NB532_505.out
         have hms84_1 := NB532_514.out
         have hms84_2 := NB532_523.out
         refine sk_ ?_
         refine hK.out _ _ ⟨((cell_far (p := ⟨gb532, _, none⟩) NB514_532.out _).trans (((cell_far (p := ⟨gb532, _, none⟩) NB514_532.out _).trans (((cell_far (p := ⟨gb532, _, none⟩) NB514_532.out _).trans (((cell_far (p := ⟨gb532, _, none⟩) NB514_532.out _).trans (((cell_far (p := ⟨gb532, _, none⟩) NB514_532.out _).trans (((cell_far (p := ⟨gb532, _, none⟩) NB514_532.out _).trans (hHeld.1)))))))))))), ((cell_far (p := ⟨gb532, _, none⟩) NB514_532.out _).trans (((cell_far (p := ⟨gb532, _, none⟩) NB514_532.out _).trans (((cell_far (p := ⟨gb532, _, none⟩) NB514_532.out _).trans (((cell_far (p := ⟨gb532, _, none⟩) NB514_532.out _).trans (((cell_far (p := ⟨gb532, _, none⟩) NB514_532.out _).trans (((cell_far (p := ⟨gb532, _, none⟩) NB514_532.out _).trans (hHeld.2.1)))))))))))), ((cell_far (p := ⟨gb532, _, none⟩) NB514_532.out _).trans (((cell_far (p := ⟨gb532, _, none⟩) NB514_532.out _).trans (((cell_far (p := ⟨gb532, _, none⟩) NB514_532.out _).trans (((cell_far (p := ⟨gb532, _, none⟩) NB514_532.out _).trans (((cell_far (p := ⟨gb532, _, none⟩) NB514_532.out _).trans (((cell_far (p := ⟨gb532, _, none⟩) NB514_532.out _).trans (hHeld.2.2.1)))))))))))), ((cell_far (p := ⟨gb532, _, none⟩) NB514_532.out _).trans (((cell_far (p := ⟨gb532, _, none⟩) NB514_532.out _).trans (((cell_far (p := ⟨gb532, _, none⟩) NB514_532.out _).trans (((cell_far (p := ⟨gb532, _, none⟩) NB514_532.out _).trans (((cell_far (p := ⟨gb532, _, none⟩) NB514_532.out _).trans (((cell_far (p := ⟨gb532, _, none⟩) NB514_532.out _).trans (hHeld.2.2.2.1)))))))))))), ((cell_far (p := ⟨gb532, _, none⟩) NB514_532.out _).trans (((cell_far (p := ⟨gb532, _, none⟩) NB514_532.out _).trans (((cell_far (p := ⟨gb532, _, none⟩) NB514_532.out _).trans (((cell_far (p := ⟨gb532, _, none⟩) NB514_532.out _).trans (((cell_far (p := ⟨gb532, _, none⟩) NB514_532.out _).trans (((cell_far (p := ⟨gb532, _, none⟩) NB514_532.out _).trans (hHeld.2.2.2.2.1)))))))))))), ((cell_far (p := ⟨gb532, _, none⟩) NB514_532.out _).trans (((cell_far (p := ⟨gb532, _, none⟩) NB514_532.out _).trans (((cell_far (p := ⟨gb532, _, none⟩) NB514_532.out _).trans (((cell_far (p := ⟨gb532, _, none⟩) NB514_532.out _).trans (((cell_far (p := ⟨gb532, _, none⟩) NB514_532.out _).trans (((cell_far (p := ⟨gb532, _, none⟩) NB514_532.out _).trans (hHeld.2.2.2.2.2.1)))))))))))), ((cell_far (p := ⟨gb532, _, none⟩) (by first | exact Nat.ne_of_lt (Nat.lt_of_lt_of_le (by have := World.block_lt_of_cell? _ _ hw524_0; first | rwa [add_block] at this | exact this) GW532.out) | (rw [add_block]; exact Nat.ne_of_lt (Nat.lt_of_lt_of_le (by have := World.block_lt_of_cell? _ _ hw524_0; first | rwa [add_block] at this | exact this) GW532.out)) | (show (Addr.add _ _).block ≠ _; rw [add_block]; exact Nat.ne_of_lt (Nat.lt_of_lt_of_le (by have := World.block_lt_of_cell? _ _ hw524_0; first | rwa [add_block] at this | exact this) GW532.out)) | (dsimp only; exact Nat.ne_of_lt (Nat.lt_of_lt_of_le (by have := World.block_lt_of_cell? _ _ hw524_0; first | rwa [add_block] at this | exact this) GW532.out))) _).trans (((cell_far (p := ⟨gb532, _, none⟩) (by first | exact Nat.ne_of_lt (Nat.lt_of_lt_of_le (by have := World.block_lt_of_cell? _ _ hw524_0; first | rwa [add_block] at this | exact this) GW532.out) | (rw [add_block]; exact Nat.ne_of_lt (Nat.lt_of_lt_of_le (by have := World.block_lt_of_cell? _ _ hw524_0; first | rwa [add_block] at this | exact this) GW532.out)) | (show (Addr.add _ _).block ≠ _; rw [add_block]; exact Nat.ne_of_lt (Nat.lt_of_lt_of_le (by have := World.block_lt_of_cell? _ _ hw524_0; first | rwa [add_block] at this | exact this) GW532.out)) | (dsimp only; exact Nat.ne_of_lt (Nat.lt_of_lt_of_le (by have := World.block_lt_of_cell? _ _ hw524_0; first | rwa [add_block] at this | exact this) GW532.out))) _).trans (((cell_far (p := ⟨gb532, _, none⟩) (by first | exact Nat.ne_of_lt (Nat.lt_of_lt_of_le (by have := World.block_lt_of_cell? _ _ hw524_0; first | rwa [add_block] at this | exact this) GW532.out) | (rw [add_block]; exact Nat.ne_of_lt (Nat.lt_of_lt_of_le (by have := World.block_lt_of_cell? _ _ hw524_0; first | rwa [add_block] at this | exact this) GW532.out)) | (show (Addr.add _ _).block ≠ _; rw [add_block]; exact Nat.ne_of_lt (Nat.lt_of_lt_of_le (by have := World.block_lt_of_cell? _ _ hw524_0; first | rwa [add_block] at this | exact this) GW532.out)) | (dsimp only; exact Nat.ne_of_lt (Nat.lt_of_lt_of_le (by have := World.block_lt_of_cell? _ _ hw524_0; first | rwa [add_block] at this | exact this) GW532.out))) _).trans (((cell_far (p := ⟨gb532, _, none⟩) (by first | exact Nat.ne_of_lt (Nat.lt_of_lt_of_le (by have := World.block_lt_of_cell? _ _ hw524_0; first | rwa [add_block] at this | exact this) GW532.out) | (rw [add_block]; exact Nat.ne_of_lt (Nat.lt_of_lt_of_le (by have := World.block_lt_of_cell? _ _ hw524_0; first | rwa [add_block] at this | exact this) GW532.out)) | (show (Addr.add _ _).block ≠ _; rw [add_block]; exact Nat.ne_of_lt (Nat.lt_of_lt_of_le (by have := World.block_lt_of_cell? _ _ hw524_0; first | rwa [add_block] at this | exact this) GW532.out)) | (dsimp only; exact Nat.ne_of_lt (Nat.lt_of_lt_of_le (by have := World.block_lt_of_cell? _ _ hw524_0; first | rwa [add_block] at this | exact this) GW532.out))) _).trans (((cell_far (p := ⟨gb532, _, none⟩) (by first | exact Nat.ne_of_lt (Nat.lt_of_lt_of_le (by have := World.block_lt_of_cell? _ _ hw524_0; first | rwa [add_block] at this | exact this) GW532.out) | (rw [add_block]; exact Nat.ne_of_lt (Nat.lt_of_lt_of_le (by have := World.block_lt_of_cell? _ _ hw524_0; first | rwa [add_block] at this | exact this) GW532.out)) | (show (Addr.add _ _).block ≠ _; rw [add_block]; exact Nat.ne_of_lt (Nat.lt_of_lt_of_le (by have := World.block_lt_of_cell? _ _ hw524_0; first | rwa [add_block] at this | exact this) GW532.out)) | (dsimp only; exact Nat.ne_of_lt (Nat.lt_of_lt_of_le (by have := World.block_lt_of_cell? _ _ hw524_0; first | rwa [add_block] at this | exact this) GW532.out))) _).trans (((cell_far (p := ⟨gb532, _, none⟩) (by first | exact Nat.ne_of_lt (Nat.lt_of_lt_of_le (by have := World.block_lt_of_cell? _ _ hw524_0; first | rwa [add_block] at this | exact this) GW532.out) | (rw [add_block]; exact Nat.ne_of_lt (Nat.lt_of_lt_of_le (by have := World.block_lt_of_cell? _ _ hw524_0; first | rwa [add_block] at this | exact this) GW532.out)) | (show (Addr.add _ _).block ≠ _; rw [add_block]; exact Nat.ne_of_lt (Nat.lt_of_lt_of_le (by have := World.block_lt_of_cell? _ _ hw524_0; first | rwa [add_block] at this | exact this) GW532.out)) | (dsimp only; exact Nat.ne_of_lt (Nat.lt_of_lt_of_le (by have := World.block_lt_of_cell? _ _ hw524_0; first | rwa [add_block] at this | exact this) GW532.out))) _).trans (hHeld.2.2.2.2.2.2.1)))))))))))), ((cell_far (p := ⟨gb532, _, none⟩) (by first | exact Nat.ne_of_lt (Nat.lt_of_lt_of_le (by have := World.block_lt_of_cell? _ _ hw524_1; first | rwa [add_block] at this | exact this) GW532.out) | (rw [add_block]; exact Nat.ne_of_lt (Nat.lt_of_lt_of_le (by have := World.block_lt_of_cell? _ _ hw524_1; first | rwa [add_block] at this | exact this) GW532.out)) | (show (Addr.add _ _).block ≠ _; rw [add_block]; exact Nat.ne_of_lt (Nat.lt_of_lt_of_le (by have := World.block_lt_of_cell? _ _ hw524_1; first | rwa [add_block] at this | exact this) GW532.out)) | (dsimp only; exact Nat.ne_of_lt (Nat.lt_of_lt_of_le (by have := World.block_lt_of_cell? _ _ hw524_1; first | rwa [add_block] at this | exact this) GW532.out))) _).trans (((cell_far (p := ⟨gb532, _, none⟩) (by first | exact Nat.ne_of_lt (Nat.lt_of_lt_of_le (by have := World.block_lt_of_cell? _ _ hw524_1; first | rwa [add_block] at this | exact this) GW532.out) | (rw [add_block]; exact Nat.ne_of_lt (Nat.lt_of_lt_of_le (by have := World.block_lt_of_cell? _ _ hw524_1; first | rwa [add_block] at this | exact this) GW532.out)) | (show (Addr.add _ _).block ≠ _; rw [add_block]; exact Nat.ne_of_lt (Nat.lt_of_lt_of_le (by have := World.block_lt_of_cell? _ _ hw524_1; first | rwa [add_block] at this | exact this) GW532.out)) | (dsimp only; exact Nat.ne_of_lt (Nat.lt_of_lt_of_le (by have := World.block_lt_of_cell? _ _ hw524_1; first | rwa [add_block] at this | exact this) GW532.out))) _).trans (((cell_far (p := ⟨gb532, _, none⟩) (by first | exact Nat.ne_of_lt (Nat.lt_of_lt_of_le (by have := World.block_lt_of_cell? _ _ hw524_1; first | rwa [add_block] at this | exact this) GW532.out) | (rw [add_block]; exact Nat.ne_of_lt (Nat.lt_of_lt_of_le (by have := World.block_lt_of_cell? _ _ hw524_1; first | rwa [add_block] at this | exact this) GW532.out)) | (show (Addr.add _ _).block ≠ _; rw [add_block]; exact Nat.ne_of_lt (Nat.lt_of_lt_of_le (by have := World.block_lt_of_cell? _ _ hw524_1; first | rwa [add_block] at this | exact this) GW532.out)) | (dsimp only; exact Nat.ne_of_lt (Nat.lt_of_lt_of_le (by have := World.block_lt_of_cell? _ _ hw524_1; first | rwa [add_block] at this | exact this) GW532.out))) _).trans (((cell_far (p := ⟨gb532, _, none⟩) (by first | exact Nat.ne_of_lt (Nat.lt_of_lt_of_le (by have := World.block_lt_of_cell? _ _ hw524_1; first | rwa [add_block] at this | exact this) GW532.out) | (rw [add_block]; exact Nat.ne_of_lt (Nat.lt_of_lt_of_le (by have := World.block_lt_of_cell? _ _ hw524_1; first | rwa [add_block] at this | exact this) GW532.out)) | (show (Addr.add _ _).block ≠ _; rw [add_block]; exact Nat.ne_of_lt (Nat.lt_of_lt_of_le (by have := World.block_lt_of_cell? _ _ hw524_1; first | rwa [add_block] at this | exact this) GW532.out)) | (dsimp only; exact Nat.ne_of_lt (Nat.lt_of_lt_of_le (by have := World.block_lt_of_cell? _ _ hw524_1; first | rwa [add_block] at this | exact this) GW532.out))) _).trans (((cell_far (p := ⟨gb532, _, none⟩) (by first | exact Nat.ne_of_lt (Nat.lt_of_lt_of_le (by have := World.block_lt_of_cell? _ _ hw524_1; first | rwa [add_block] at this | exact this) GW532.out) | (rw [add_block]; exact Nat.ne_of_lt (Nat.lt_of_lt_of_le (by have := World.block_lt_of_cell? _ _ hw524_1; first | rwa [add_block] at this | exact this) GW532.out)) | (show (Addr.add _ _).block ≠ _; rw [add_block]; exact Nat.ne_of_lt (Nat.lt_of_lt_of_le (by have := World.block_lt_of_cell? _ _ hw524_1; first | rwa [add_block] at this | exact this) GW532.out)) | (dsimp only; exact Nat.ne_of_lt (Nat.lt_of_lt_of_le (by have := World.block_lt_of_cell? _ _ hw524_1; first | rwa [add_block] at this | exact this) GW532.out))) _).trans (((cell_far (p := ⟨gb532, _, none⟩) (by first | exact Nat.ne_of_lt (Nat.lt_of_lt_of_le (by have := World.block_lt_of_cell? _ _ hw524_1; first | rwa [add_block] at this | exact this) GW532.out) | (rw [add_block]; exact Nat.ne_of_lt (Nat.lt_of_lt_of_le (by have := World.block_lt_of_cell? _ _ hw524_1; first | rwa [add_block] at this | exact this) GW532.out)) | (show (Addr.add _ _).block ≠ _; rw [add_block]; exact Nat.ne_of_lt (Nat.lt_of_lt_of_le (by have := World.block_lt_of_cell? _ _ hw524_1; first | rwa [add_block] at this | exact this) GW532.out)) | (dsimp only; exact Nat.ne_of_lt (Nat.lt_of_lt_of_le (by have := World.block_lt_of_cell? _ _ hw524_1; first | rwa [add_block] at this | exact this) GW532.out))) _).trans (hHeld.2.2.2.2.2.2.2))))))))))))⟩ (fun hHeld => ?_)
         clear hK K
         refine pa_ 12 (some 13) (bl_ 13 8191) HT_ ?_
         refine done_ (done_of HT_.out (by kernel_rfl)) ?_
         try go_wp2
         go_roundg k1
         case measure => have := HK1.out; omega
         case rel => exact ⟨(x6_1), (wrap64 (x9_1 + 1)), (t516), (t517), (t518), (t519), (t520), (t521), rf_, H', ⟨by have := HK1.out; omega⟩, ⟨by (with_reducible repeat (first | apply Kd.R_alloc | apply Kd.R_drewN | apply Kd.R_drew)); exact Kd.R_mono (Kd.R_far (p := ⟨gb532, 5, none⟩) (Kd.R_far (p := ⟨gb532, 4, none⟩) (Kd.R_far (p := ⟨gb532, 3, none⟩) (Kd.R_far (p := ⟨gb532, 2, none⟩) (Kd.R_far (p := ⟨gb532, 1, none⟩) (Kd.R_far (p := ⟨gb532, 0, none⟩) (Kd.R_types HO_6.out BK532.out (by decide)) (fun _ hk => hk.2) (.int .i64 t525)) (fun _ hk => hk.2) (.int .i64 t526)) (fun _ hk => hk.2) (.int .i64 t527)) (fun _ hk => hk.2) (.int .i64 t528)) (fun _ hk => hk.2) (.int .i64 t529)) (fun _ hk => hk.2) (.int .u64 t530)) (fun _ hk => trivial)⟩, ⟨(bt_ BK505)⟩, ⟨(bt_ BK514)⟩, bw_⟩
        ·rw [if_neg c58] at H
         have c58b0 : (t531 == 20) = false := beq_eq_false_iff_ne.mpr c58
         have c58b1 : (t531 != 20) = true := bne_iff_ne.mpr c58
         simp only [Option.some.injEq, Prod.mk.injEq] at H
         obtain ⟨rfl, rfl⟩ := H
         try go_wp2
         replace HO_6 := Aside0.mk (Kd.R_drew HO_6.out)
         replace BK505 := Aside0.mk (blk_drew BK505.out)
         replace BK514 := Aside0.mk (blk_drew BK514.out)
         replace HB := Aside0.mk (below_drew1 HB.out)
         have p515 : 0 ≤ (x9_1 : Int) := of_decide_eq_true (by first | (with_reducible assumption) | assumption)
         have q515 : x9_1 < (l1.length : Int) := of_decide_eq_true (by first | (with_reducible assumption) | assumption)
         obtain ⟨ad515, e515, hx515_0, hx515_1⟩ := at_T58 HR1.out x9_1 p515 q515
         have hw515_1 := hx515_1
         have hw515_0 := hx515_0
         obtain rfl : ad506 = ad515 := (by injection e515)
         replace hx515_0 := (HB.out.cell (World.block_lt_of_cell? w _ hx515_0)).trans hx515_0
         replace hx515_1 := (HB.out.cell (World.block_lt_of_cell? w _ hx515_1)).trans hx515_1
         replace p515 := eq_true p515
         replace q515 := eq_true q515
         refine start_ (n := 13) (S := fun w' => w'.cell? ⟨gb514, 0, none⟩ = some (.int .i64 x515000_1) ∧ w'.cell? ⟨gb514, 1, none⟩ = some (.int .i64 x515001_1) ∧ w'.cell? ⟨gb514, 2, none⟩ = some (.int .i64 x515002_1) ∧ w'.cell? ⟨gb514, 3, none⟩ = some (.int .i64 x515003_1) ∧ w'.cell? ⟨gb514, 4, none⟩ = some (.int .i64 x515004_1) ∧ w'.cell? ⟨gb514, 5, none⟩ = some (.int .u64 x515005_1) ∧ w'.cell? (ad506.add ((x9_1).toNat * 2)) = some (.int .u64 ((rd_T58 l1 x9_1).f0)) ∧ w'.cell? ⟨(ad506.add ((x9_1).toNat * 2)).block, (ad506.add ((x9_1).toNat * 2)).off + 1, none⟩ = some (.int .i64 ((rd_T58 l1 x9_1).f1))) (ds := []) (bl_ 13 0) (by kernel_rfl) rfl (by kernel_rfl) ⟨(blk_cell BK514.out 0).trans rfl, (blk_cell BK514.out 1).trans rfl, (blk_cell BK514.out 2).trans rfl, (blk_cell BK514.out 3).trans rfl, (blk_cell BK514.out 4).trans rfl, (blk_cell BK514.out 5).trans rfl, ((HB.out.cell (World.block_lt_of_cell? w _ hw515_0)).trans hw515_0), ((HB.out.cell (World.block_lt_of_cell? w _ hw515_1)).trans hw515_1)⟩ (fun hHeld => ?_); refine with_tabW spigotlaw38_passes.tab10 spigotlaw38_passes.bits10 (fun HT_ HW_ => ?_)
         generalize wr.drew = w85 at HO_6 BK505 BK514 HB hx515_0 hx515_1 hHeld ⊢
         refine pa_ 1 (some 36) (bl_ 13 2) HT_ ?_
         refine pa_ 2 (some 37) (bl_ 13 6) HT_ ?_
         refine pa_ 3 (some 38) (bl_ 13 14) HT_ ?_
         refine pa_ 4 (some 39) (bl_ 13 30) HT_ ?_
         refine ta_ 0 (some 35) (bl_ 13 31) HT_ HW_ hHeld ?_
         refine ta_ 5 (some 40) (bl_ 13 63) HT_ HW_ hHeld ?_
         refine join_ (σ := Nat) 2 (bl_ 13 2047) (fun s_ => [(41, .tuple #[.agg #[.int .i64 t516, .int .i64 t517, .int .i64 t518, .int .i64 t519, .int .i64 t520, .int .u64 t521], .int .i64 t522]), (10, .pointer (some ⟨s_, 0, none⟩)), (34, .tuple #[.agg #[.int .i64 t516, .int .i64 t517, .int .i64 t518, .int .i64 t519, .int .i64 t520, .int .u64 t521], .int .i64 t522]), (42, .agg #[.int .i64 t516, .int .i64 t517, .int .i64 t518, .int .i64 t519, .int .i64 t520, .int .u64 t521]), (43, .int .i64 t522)]) (fun s_ w' => (w'.cell? ⟨gb514, 0, none⟩ = some (.int .i64 x515000_1) ∧ w'.cell? ⟨gb514, 1, none⟩ = some (.int .i64 x515001_1) ∧ w'.cell? ⟨gb514, 2, none⟩ = some (.int .i64 x515002_1) ∧ w'.cell? ⟨gb514, 3, none⟩ = some (.int .i64 x515003_1) ∧ w'.cell? ⟨gb514, 4, none⟩ = some (.int .i64 x515004_1) ∧ w'.cell? ⟨gb514, 5, none⟩ = some (.int .u64 x515005_1) ∧ w'.cell? (ad506.add ((x9_1).toNat * 2)) = some (.int .u64 ((rd_T58 l1 x9_1).f0)) ∧ w'.cell? ⟨(ad506.add ((x9_1).toNat * 2)).block, (ad506.add ((x9_1).toNat * 2)).off + 1, none⟩ = some (.int .i64 ((rd_T58 l1 x9_1).f1))) ∧ (Kd.R k58 58 w' w.heap.size (fun _ => True) u6 x6_1) ∧ (w'.heap[gb505]? = some (.cells #[.int .i64 a0_0, .int .i64 a0_1, .int .i64 a0_2] 43 (0, 0))) ∧ (w'.heap[gb514]? = some (.cells #[.int .i64 x515000_1, .int .i64 x515001_1, .int .i64 x515002_1, .int .i64 x515003_1, .int .i64 x515004_1, .int .u64 x515005_1] 74 (0, 0))) ∧ (w'.heap[s_]? = some (.cells #[.int .i64 0, .int .i64 0, .int .i64 0, .int .i64 0, .int .i64 0, .int .u64 0] 74 (0, 0))) ∧ (w.heap.size ≤ s_) ∧ (w.heap.size ≤ s_) ∧ (gb505 ≠ s_) ∧ (s_ ≠ gb505) ∧ (gb514 ≠ s_) ∧ (s_ ≠ gb514) ∧ (Below w.heap.size w w')) ?_ ?_
         rotate_left
         ·intro hCont
          refine tw_ 6 10 (some 41) (some 10) (bl_ 13 127) (bl_ 13 1087) HT_ (fun K hK => ?_) fun K hK => ?_
          ·refine goesB_ Try.func43 #[.agg #[.int .i64 x515000_1, .int .i64 x515001_1, .int .i64 x515002_1, .int .i64 x515003_1, .int .i64 x515004_1, .int .u64 x515005_1], .int .u64 ((rd_T58 l1 x9_1).f0)] ?_
           with_reducible refine (bucket_Refill.calls k1 x515000_1 x515001_1 x515002_1 x515003_1 x515004_1 x515005_1 ((rd_T58 l1 x9_1).f0) t516 t517 t518 t519 t520 t521 t522 _ A21.out).mono ?_
           rintro e w86 ⟨rfl, hb⟩
           refine ⟨_, rfl, ?_⟩
           replace HO_6 := rb_ HO_6 hb
           replace BK505 := bb_ BK505 hb
           replace BK514 := bb_ BK514 hb
           replace HB := bs_ w hb
           clear hb
           refine hK.out _ _ ⟨(blk_cell BK514.out 0).trans rfl, (blk_cell BK514.out 1).trans rfl, (blk_cell BK514.out 2).trans rfl, (blk_cell BK514.out 3).trans rfl, (blk_cell BK514.out 4).trans rfl, (blk_cell BK514.out 5).trans rfl, ((HB.out.cell (World.block_lt_of_cell? w _ hw515_0)).trans hw515_0), ((HB.out.cell (World.block_lt_of_cell? w _ hw515_1)).trans hw515_1)⟩ (fun hHeld => ?_)
           clear hK K
           refine nm_ (some 41) ?_
           refine pa_ 7 (some 34) (bl_ 13 255) HT_ ?_
           refine pa_ 8 (some 42) (bl_ 13 511) HT_ ?_
           refine pa_ 9 (some 43) (bl_ 13 1023) HT_ ?_
           refine oa_ 10 (some 10) (bl_ 13 2047) HT_ fun K hK => ?_
           refine bs2_ #[.int .i64 0, .int .i64 0, .int .i64 0, .int .i64 0, .int .i64 0, .int .u64 0] 74 ?_
           intro gb523 hg w87 BK523 hb
           have GW523 := bz_ w hg
           have GE523 := GW523
           have NB505_523 := bn_ BK505 hg
           have NB523_505 := bm_ BK505 hg
           have NB514_523 := bn_ BK514 hg
           have NB523_514 := bm_ BK514 hg
           replace HO_6 := rb_ HO_6 hb
           replace BK505 := bb_ BK505 hb
           replace BK514 := bb_ BK514 hb
           replace HB := bs_ w hb
           clear hb hg
           refine hK.out _ _ ⟨(blk_cell BK514.out 0).trans rfl, (blk_cell BK514.out 1).trans rfl, (blk_cell BK514.out 2).trans rfl, (blk_cell BK514.out 3).trans rfl, (blk_cell BK514.out 4).trans rfl, (blk_cell BK514.out 5).trans rfl, ((HB.out.cell (World.block_lt_of_cell? w _ hw515_0)).trans hw515_0), ((HB.out.cell (World.block_lt_of_cell? w _ hw515_1)).trans hw515_1)⟩ (fun hHeld => ?_)
           clear hK K
           refine nm_ (some 10) ?_
           exact no_ (hCont (gb523) _ ⟨hHeld, (rs_ HO_6), (bq_ BK505), (bq_ BK514), (bq_ BK523), GW523.out, GE523.out, NB505_523.out, NB523_505.out, NB514_523.out, NB523_514.out, bh_⟩)
          ·refine bs2_ #[.int .i64 0, .int .i64 0, .int .i64 0, .int .i64 0, .int .i64 0, .int .u64 0] 74 ?_
           intro gb523 hg w86 BK523 hb
           have GW523 := bz_ w hg
           have GE523 := GW523
           have NB505_523 := bn_ BK505 hg
           have NB523_505 := bm_ BK505 hg
           have NB514_523 := bn_ BK514 hg
           have NB523_514 := bm_ BK514 hg
           replace HO_6 := rb_ HO_6 hb
           replace BK505 := bb_ BK505 hb
           replace BK514 := bb_ BK514 hb
           replace HB := bs_ w hb
           clear hb hg
           refine hK.out _ _ ⟨(blk_cell BK514.out 0).trans rfl, (blk_cell BK514.out 1).trans rfl, (blk_cell BK514.out 2).trans rfl, (blk_cell BK514.out 3).trans rfl, (blk_cell BK514.out 4).trans rfl, (blk_cell BK514.out 5).trans rfl, ((HB.out.cell (World.block_lt_of_cell? w _ hw515_0)).trans hw515_0), ((HB.out.cell (World.block_lt_of_cell? w _ hw515_1)).trans hw515_1)⟩ (fun hHeld => ?_)
           clear hK K
           refine nm_ (some 10) ?_
           refine oa_ 6 (some 41) (bl_ 13 1151) HT_ fun K hK => ?_
           refine goesB_ Try.func43 #[.agg #[.int .i64 x515000_1, .int .i64 x515001_1, .int .i64 x515002_1, .int .i64 x515003_1, .int .i64 x515004_1, .int .u64 x515005_1], .int .u64 ((rd_T58 l1 x9_1).f0)] ?_
           with_reducible refine (bucket_Refill.calls k1 x515000_1 x515001_1 x515002_1 x515003_1 x515004_1 x515005_1 ((rd_T58 l1 x9_1).f0) t516 t517 t518 t519 t520 t521 t522 _ A21.out).mono ?_
           rintro e w87 ⟨rfl, hb⟩
           refine ⟨_, rfl, ?_⟩
           replace HO_6 := rb_ HO_6 hb
           replace BK505 := bb_ BK505 hb
           replace BK514 := bb_ BK514 hb
           replace BK523 := bb_ BK523 hb
           replace HB := bs_ w hb
           clear hb
           refine hK.out _ _ ⟨(blk_cell BK514.out 0).trans rfl, (blk_cell BK514.out 1).trans rfl, (blk_cell BK514.out 2).trans rfl, (blk_cell BK514.out 3).trans rfl, (blk_cell BK514.out 4).trans rfl, (blk_cell BK514.out 5).trans rfl, ((HB.out.cell (World.block_lt_of_cell? w _ hw515_0)).trans hw515_0), ((HB.out.cell (World.block_lt_of_cell? w _ hw515_1)).trans hw515_1)⟩ (fun hHeld => ?_)
           clear hK K
           refine nm_ (some 41) ?_
           refine pa_ 7 (some 34) (bl_ 13 1279) HT_ ?_
           refine pa_ 8 (some 42) (bl_ 13 1535) HT_ ?_
           refine pa_ 9 (some 43) (bl_ 13 2047) HT_ ?_
           exact no_ (hCont (gb523) _ ⟨hHeld, (rs_ HO_6), (bq_ BK505), (bq_ BK514), (bq_ BK523), GW523.out, GE523.out, NB505_523.out, NB523_505.out, NB514_523.out, NB523_514.out, bh_⟩)
         rintro gb523 w88 ⟨hS_, h0_, h1_, h2_, h3_, h4_, h5_, h6_, h7_, h8_, h9_, h10_⟩
         have BK523 := Aside0.mk h3_
         have GW523 := Aside0.mk h4_
         have GE523 := Aside0.mk h5_
         have NB505_523 := Aside0.mk h6_
         have NB523_505 := Aside0.mk h7_
         have NB514_523 := Aside0.mk h8_
         have NB523_514 := Aside0.mk h9_
         replace HO_6 : Aside0 (Kd.R k58 58 w88 w.heap.size (fun _ => True) u6 x6_1) := ⟨h0_⟩
         replace BK505 := Aside0.mk h1_
         replace BK514 := Aside0.mk h2_
         replace HB := Aside0.mk h10_
         clear h0_ h1_ h2_ h3_ h4_ h5_ h6_ h7_ h8_ h9_ h10_
         have hHeld := hS_
         refine nq_ ?_
         refine oa_ 11 none (bl_ 13 4095) HT_ fun K hK => ?_
         have hs89 : w88.cell? ⟨gb523, 0, none⟩ = some (.int .i64 0) := (blk_cell BK523.out 0).trans rfl
         have hfs89 := blk_frozen BK523.out 0
         have hns89_0 := NB505_523.out
         have hns89_1 := NB514_523.out
         have hms89_0 := NB523_505.out
         have hms89_1 := NB523_514.out
         have hs90 : w88.cell? ⟨gb523, 1, none⟩ = some (.int .i64 0) := (blk_cell BK523.out 1).trans rfl
         have hfs90 := blk_frozen BK523.out 1
         have hns90_0 := NB505_523.out
         have hns90_1 := NB514_523.out
         have hms90_0 := NB523_505.out
         have hms90_1 := NB523_514.out
         have hs91 : w88.cell? ⟨gb523, 2, none⟩ = some (.int .i64 0) := (blk_cell BK523.out 2).trans rfl
         have hfs91 := blk_frozen BK523.out 2
         have hns91_0 := NB505_523.out
         have hns91_1 := NB514_523.out
         have hms91_0 := NB523_505.out
         have hms91_1 := NB523_514.out
         have hs92 : w88.cell? ⟨gb523, 3, none⟩ = some (.int .i64 0) := (blk_cell BK523.out 3).trans rfl
         have hfs92 := blk_frozen BK523.out 3
         have hns92_0 := NB505_523.out
         have hns92_1 := NB514_523.out
         have hms92_0 := NB523_505.out
         have hms92_1 := NB523_514.out
         have hs93 : w88.cell? ⟨gb523, 4, none⟩ = some (.int .i64 0) := (blk_cell BK523.out 4).trans rfl
         have hfs93 := blk_frozen BK523.out 4
         have hns93_0 := NB505_523.out
         have hns93_1 := NB514_523.out
         have hms93_0 := NB523_505.out
         have hms93_1 := NB523_514.out
         have hs94 : w88.cell? ⟨gb523, 5, none⟩ = some (.int .u64 0) := (blk_cell BK523.out 5).trans rfl
         have hfs94 := blk_frozen BK523.out 5
         have hns94_0 := NB505_523.out
         have hns94_1 := NB514_523.out
         have hms94_0 := NB523_505.out
         have hms94_1 := NB523_514.out
         refine sk_ ?_
         refine hK.out _ _ ⟨((cell_far (p := ⟨gb523, _, none⟩) NB514_523.out _).trans (((cell_far (p := ⟨gb523, _, none⟩) NB514_523.out _).trans (((cell_far (p := ⟨gb523, _, none⟩) NB514_523.out _).trans (((cell_far (p := ⟨gb523, _, none⟩) NB514_523.out _).trans (((cell_far (p := ⟨gb523, _, none⟩) NB514_523.out _).trans (((cell_far (p := ⟨gb523, _, none⟩) NB514_523.out _).trans (hHeld.1)))))))))))), ((cell_far (p := ⟨gb523, _, none⟩) NB514_523.out _).trans (((cell_far (p := ⟨gb523, _, none⟩) NB514_523.out _).trans (((cell_far (p := ⟨gb523, _, none⟩) NB514_523.out _).trans (((cell_far (p := ⟨gb523, _, none⟩) NB514_523.out _).trans (((cell_far (p := ⟨gb523, _, none⟩) NB514_523.out _).trans (((cell_far (p := ⟨gb523, _, none⟩) NB514_523.out _).trans (hHeld.2.1)))))))))))), ((cell_far (p := ⟨gb523, _, none⟩) NB514_523.out _).trans (((cell_far (p := ⟨gb523, _, none⟩) NB514_523.out _).trans (((cell_far (p := ⟨gb523, _, none⟩) NB514_523.out _).trans (((cell_far (p := ⟨gb523, _, none⟩) NB514_523.out _).trans (((cell_far (p := ⟨gb523, _, none⟩) NB514_523.out _).trans (((cell_far (p := ⟨gb523, _, none⟩) NB514_523.out _).trans (hHeld.2.2.1)))))))))))), ((cell_far (p := ⟨gb523, _, none⟩) NB514_523.out _).trans (((cell_far (p := ⟨gb523, _, none⟩) NB514_523.out _).trans (((cell_far (p := ⟨gb523, _, none⟩) NB514_523.out _).trans (((cell_far (p := ⟨gb523, _, none⟩) NB514_523.out _).trans (((cell_far (p := ⟨gb523, _, none⟩) NB514_523.out _).trans (((cell_far (p := ⟨gb523, _, none⟩) NB514_523.out _).trans (hHeld.2.2.2.1)))))))))))), ((cell_far (p := ⟨gb523, _, none⟩) NB514_523.out _).trans (((cell_far (p := ⟨gb523, _, none⟩) NB514_523.out _).trans (((cell_far (p := ⟨gb523, _, none⟩) NB514_523.out _).trans (((cell_far (p := ⟨gb523, _, none⟩) NB514_523.out _).trans (((cell_far (p := ⟨gb523, _, none⟩) NB514_523.out _).trans (((cell_far (p := ⟨gb523, _, none⟩) NB514_523.out _).trans (hHeld.2.2.2.2.1)))))))))))), ((cell_far (p := ⟨gb523, _, none⟩) NB514_523.out _).trans (((cell_far (p := ⟨gb523, _, none⟩) NB514_523.out _).trans (((cell_far (p := ⟨gb523, _, none⟩) NB514_523.out _).trans (((cell_far (p := ⟨gb523, _, none⟩) NB514_523.out _).trans (((cell_far (p := ⟨gb523, _, none⟩) NB514_523.out _).trans (((cell_far (p := ⟨gb523, _, none⟩) NB514_523.out _).trans (hHeld.2.2.2.2.2.1)))))))))))), ((cell_far (p := ⟨gb523, _, none⟩) (by first | exact Nat.ne_of_lt (Nat.lt_of_lt_of_le (by have := World.block_lt_of_cell? _ _ hw515_0; first | rwa [add_block] at this | exact this) GW523.out) | (rw [add_block]; exact Nat.ne_of_lt (Nat.lt_of_lt_of_le (by have := World.block_lt_of_cell? _ _ hw515_0; first | rwa [add_block] at this | exact this) GW523.out)) | (show (Addr.add _ _).block ≠ _; rw [add_block]; exact Nat.ne_of_lt (Nat.lt_of_lt_of_le (by have := World.block_lt_of_cell? _ _ hw515_0; first | rwa [add_block] at this | exact this) GW523.out)) | (dsimp only; exact Nat.ne_of_lt (Nat.lt_of_lt_of_le (by have := World.block_lt_of_cell? _ _ hw515_0; first | rwa [add_block] at this | exact this) GW523.out))) _).trans (((cell_far (p := ⟨gb523, _, none⟩) (by first | exact Nat.ne_of_lt (Nat.lt_of_lt_of_le (by have := World.block_lt_of_cell? _ _ hw515_0; first | rwa [add_block] at this | exact this) GW523.out) | (rw [add_block]; exact Nat.ne_of_lt (Nat.lt_of_lt_of_le (by have := World.block_lt_of_cell? _ _ hw515_0; first | rwa [add_block] at this | exact this) GW523.out)) | (show (Addr.add _ _).block ≠ _; rw [add_block]; exact Nat.ne_of_lt (Nat.lt_of_lt_of_le (by have := World.block_lt_of_cell? _ _ hw515_0; first | rwa [add_block] at this | exact this) GW523.out)) | (dsimp only; exact Nat.ne_of_lt (Nat.lt_of_lt_of_le (by have := World.block_lt_of_cell? _ _ hw515_0; first | rwa [add_block] at this | exact this) GW523.out))) _).trans (((cell_far (p := ⟨gb523, _, none⟩) (by first | exact Nat.ne_of_lt (Nat.lt_of_lt_of_le (by have := World.block_lt_of_cell? _ _ hw515_0; first | rwa [add_block] at this | exact this) GW523.out) | (rw [add_block]; exact Nat.ne_of_lt (Nat.lt_of_lt_of_le (by have := World.block_lt_of_cell? _ _ hw515_0; first | rwa [add_block] at this | exact this) GW523.out)) | (show (Addr.add _ _).block ≠ _; rw [add_block]; exact Nat.ne_of_lt (Nat.lt_of_lt_of_le (by have := World.block_lt_of_cell? _ _ hw515_0; first | rwa [add_block] at this | exact this) GW523.out)) | (dsimp only; exact Nat.ne_of_lt (Nat.lt_of_lt_of_le (by have := World.block_lt_of_cell? _ _ hw515_0; first | rwa [add_block] at this | exact this) GW523.out))) _).trans (((cell_far (p := ⟨gb523, _, none⟩) (by first | exact Nat.ne_of_lt (Nat.lt_of_lt_of_le (by have := World.block_lt_of_cell? _ _ hw515_0; first | rwa [add_block] at this | exact this) GW523.out) | (rw [add_block]; exact Nat.ne_of_lt (Nat.lt_of_lt_of_le (by have := World.block_lt_of_cell? _ _ hw515_0; first | rwa [add_block] at this | exact this) GW523.out)) | (show (Addr.add _ _).block ≠ _; rw [add_block]; exact Nat.ne_of_lt (Nat.lt_of_lt_of_le (by have := World.block_lt_of_cell? _ _ hw515_0; first | rwa [add_block] at this | exact this) GW523.out)) | (dsimp only; exact Nat.ne_of_lt (Nat.lt_of_lt_of_le (by have := World.block_lt_of_cell? _ _ hw515_0; first | rwa [add_block] at this | exact this) GW523.out))) _).trans (((cell_far (p := ⟨gb523, _, none⟩) (by first | exact Nat.ne_of_lt (Nat.lt_of_lt_of_le (by have := World.block_lt_of_cell? _ _ hw515_0; first | rwa [add_block] at this | exact this) GW523.out) | (rw [add_block]; exact Nat.ne_of_lt (Nat.lt_of_lt_of_le (by have := World.block_lt_of_cell? _ _ hw515_0; first | rwa [add_block] at this | exact this) GW523.out)) | (show (Addr.add _ _).block ≠ _; rw [add_block]; exact Nat.ne_of_lt (Nat.lt_of_lt_of_le (by have := World.block_lt_of_cell? _ _ hw515_0; first | rwa [add_block] at this | exact this) GW523.out)) | (dsimp only; exact Nat.ne_of_lt (Nat.lt_of_lt_of_le (by have := World.block_lt_of_cell? _ _ hw515_0; first | rwa [add_block] at this | exact this) GW523.out))) _).trans (((cell_far (p := ⟨gb523, _, none⟩) (by first | exact Nat.ne_of_lt (Nat.lt_of_lt_of_le (by have := World.block_lt_of_cell? _ _ hw515_0; first | rwa [add_block] at this | exact this) GW523.out) | (rw [add_block]; exact Nat.ne_of_lt (Nat.lt_of_lt_of_le (by have := World.block_lt_of_cell? _ _ hw515_0; first | rwa [add_block] at this | exact this) GW523.out)) | (show (Addr.add _ _).block ≠ _; rw [add_block]; exact Nat.ne_of_lt (Nat.lt_of_lt_of_le (by have := World.block_lt_of_cell? _ _ hw515_0; first | rwa [add_block] at this | exact this) GW523.out)) | (dsimp only; exact Nat.ne_of_lt (Nat.lt_of_lt_of_le (by have := World.block_lt_of_cell? _ _ hw515_0; first | rwa [add_block] at this | exact this) GW523.out))) _).trans (hHeld.2.2.2.2.2.2.1)))))))))))), ((cell_far (p := ⟨gb523, _, none⟩) (by first | exact Nat.ne_of_lt (Nat.lt_of_lt_of_le (by have := World.block_lt_of_cell? _ _ hw515_1; first | rwa [add_block] at this | exact this) GW523.out) | (rw [add_block]; exact Nat.ne_of_lt (Nat.lt_of_lt_of_le (by have := World.block_lt_of_cell? _ _ hw515_1; first | rwa [add_block] at this | exact this) GW523.out)) | (show (Addr.add _ _).block ≠ _; rw [add_block]; exact Nat.ne_of_lt (Nat.lt_of_lt_of_le (by have := World.block_lt_of_cell? _ _ hw515_1; first | rwa [add_block] at this | exact this) GW523.out)) | (dsimp only; exact Nat.ne_of_lt (Nat.lt_of_lt_of_le (by have := World.block_lt_of_cell? _ _ hw515_1; first | rwa [add_block] at this | exact this) GW523.out))) _).trans (((cell_far (p := ⟨gb523, _, none⟩) (by first | exact Nat.ne_of_lt (Nat.lt_of_lt_of_le (by have := World.block_lt_of_cell? _ _ hw515_1; first | rwa [add_block] at this | exact this) GW523.out) | (rw [add_block]; exact Nat.ne_of_lt (Nat.lt_of_lt_of_le (by have := World.block_lt_of_cell? _ _ hw515_1; first | rwa [add_block] at this | exact this) GW523.out)) | (show (Addr.add _ _).block ≠ _; rw [add_block]; exact Nat.ne_of_lt (Nat.lt_of_lt_of_le (by have := World.block_lt_of_cell? _ _ hw515_1; first | rwa [add_block] at this | exact this) GW523.out)) | (dsimp only; exact Nat.ne_of_lt (Nat.lt_of_lt_of_le (by have := World.block_lt_of_cell? _ _ hw515_1; first | rwa [add_block] at this | exact this) GW523.out))) _).trans (((cell_far (p := ⟨gb523, _, none⟩) (by first | exact Nat.ne_of_lt (Nat.lt_of_lt_of_le (by have := World.block_lt_of_cell? _ _ hw515_1; first | rwa [add_block] at this | exact this) GW523.out) | (rw [add_block]; exact Nat.ne_of_lt (Nat.lt_of_lt_of_le (by have := World.block_lt_of_cell? _ _ hw515_1; first | rwa [add_block] at this | exact this) GW523.out)) | (show (Addr.add _ _).block ≠ _; rw [add_block]; exact Nat.ne_of_lt (Nat.lt_of_lt_of_le (by have := World.block_lt_of_cell? _ _ hw515_1; first | rwa [add_block] at this | exact this) GW523.out)) | (dsimp only; exact Nat.ne_of_lt (Nat.lt_of_lt_of_le (by have := World.block_lt_of_cell? _ _ hw515_1; first | rwa [add_block] at this | exact this) GW523.out))) _).trans (((cell_far (p := ⟨gb523, _, none⟩) (by first | exact Nat.ne_of_lt (Nat.lt_of_lt_of_le (by have := World.block_lt_of_cell? _ _ hw515_1; first | rwa [add_block] at this | exact this) GW523.out) | (rw [add_block]; exact Nat.ne_of_lt (Nat.lt_of_lt_of_le (by have := World.block_lt_of_cell? _ _ hw515_1; first | rwa [add_block] at this | exact this) GW523.out)) | (show (Addr.add _ _).block ≠ _; rw [add_block]; exact Nat.ne_of_lt (Nat.lt_of_lt_of_le (by have := World.block_lt_of_cell? _ _ hw515_1; first | rwa [add_block] at this | exact this) GW523.out)) | (dsimp only; exact Nat.ne_of_lt (Nat.lt_of_lt_of_le (by have := World.block_lt_of_cell? _ _ hw515_1; first | rwa [add_block] at this | exact this) GW523.out))) _).trans (((cell_far (p := ⟨gb523, _, none⟩) (by first | exact Nat.ne_of_lt (Nat.lt_of_lt_of_le (by have := World.block_lt_of_cell? _ _ hw515_1; first | rwa [add_block] at this | exact this) GW523.out) | (rw [add_block]; exact Nat.ne_of_lt (Nat.lt_of_lt_of_le (by have := World.block_lt_of_cell? _ _ hw515_1; first | rwa [add_block] at this | exact this) GW523.out)) | (show (Addr.add _ _).block ≠ _; rw [add_block]; exact Nat.ne_of_lt (Nat.lt_of_lt_of_le (by have := World.block_lt_of_cell? _ _ hw515_1; first | rwa [add_block] at this | exact this) GW523.out)) | (dsimp only; exact Nat.ne_of_lt (Nat.lt_of_lt_of_le (by have := World.block_lt_of_cell? _ _ hw515_1; first | rwa [add_block] at this | exact this) GW523.out))) _).trans (((cell_far (p := ⟨gb523, _, none⟩) (by first | exact Nat.ne_of_lt (Nat.lt_of_lt_of_le (by have := World.block_lt_of_cell? _ _ hw515_1; first | rwa [add_block] at this | exact this) GW523.out) | (rw [add_block]; exact Nat.ne_of_lt (Nat.lt_of_lt_of_le (by have := World.block_lt_of_cell? _ _ hw515_1; first | rwa [add_block] at this | exact this) GW523.out)) | (show (Addr.add _ _).block ≠ _; rw [add_block]; exact Nat.ne_of_lt (Nat.lt_of_lt_of_le (by have := World.block_lt_of_cell? _ _ hw515_1; first | rwa [add_block] at this | exact this) GW523.out)) | (dsimp only; exact Nat.ne_of_lt (Nat.lt_of_lt_of_le (by have := World.block_lt_of_cell? _ _ hw515_1; first | rwa [add_block] at this | exact this) GW523.out))) _).trans (hHeld.2.2.2.2.2.2.2))))))))))))⟩ (fun hHeld => ?_)
         clear hK K
         refine pa_ 12 (some 11) (bl_ 13 8191) HT_ ?_
         refine done_ (done_of HT_.out (by kernel_rfl)) ?_
         replace hn523_505 := NB523_505.out
         replace hn505_523 := NB505_523.out
         replace hn523_514 := NB523_514.out
         replace hn514_523 := NB514_523.out
         replace hc523 := ce6_ BK523
         replace hn514_505 := NB514_505.out
         replace hn505_514 := NB505_514.out
         replace hc514 := ce6_ BK514
         try go_wp2
         have n0_ : Aside0 (Kd.R k58 58 ((((((((((((w88.setCell ⟨gb523, 0, none⟩ (.int .i64 t516)).setCell ⟨gb523, 1, none⟩ (.int .i64 t517)).setCell ⟨gb523, 2, none⟩ (.int .i64 t518)).setCell ⟨gb523, 3, none⟩ (.int .i64 t519)).setCell ⟨gb523, 4, none⟩ (.int .i64 t520)).setCell ⟨gb523, 5, none⟩ (.int .u64 t521)).setCell ⟨gb514, 0, none⟩ (.int .i64 t516)).setCell ⟨gb514, 1, none⟩ (.int .i64 t517)).setCell ⟨gb514, 2, none⟩ (.int .i64 t518)).setCell ⟨gb514, 3, none⟩ (.int .i64 t519)).setCell ⟨gb514, 4, none⟩ (.int .i64 t520)).setCell ⟨gb514, 5, none⟩ (.int .u64 t521)) w.heap.size (fun _ => True) u6 x6_1) := ⟨by (with_reducible repeat (first | apply Kd.R_alloc | apply Kd.R_drewN | apply Kd.R_drew)); exact Kd.R_mono (Kd.R_far (p := ⟨gb514, 5, none⟩) (Kd.R_far (p := ⟨gb514, 4, none⟩) (Kd.R_far (p := ⟨gb514, 3, none⟩) (Kd.R_far (p := ⟨gb514, 2, none⟩) (Kd.R_far (p := ⟨gb514, 1, none⟩) (Kd.R_far (p := ⟨gb514, 0, none⟩) (Kd.R_far (p := ⟨gb523, 5, none⟩) (Kd.R_far (p := ⟨gb523, 4, none⟩) (Kd.R_far (p := ⟨gb523, 3, none⟩) (Kd.R_far (p := ⟨gb523, 2, none⟩) (Kd.R_far (p := ⟨gb523, 1, none⟩) (Kd.R_far (p := ⟨gb523, 0, none⟩) (Kd.R_types (Kd.R_types HO_6.out BK523.out (by decide)) BK514.out (by decide)) (fun _ hk => hk.1.2) (.int .i64 t516)) (fun _ hk => hk.1.2) (.int .i64 t517)) (fun _ hk => hk.1.2) (.int .i64 t518)) (fun _ hk => hk.1.2) (.int .i64 t519)) (fun _ hk => hk.1.2) (.int .i64 t520)) (fun _ hk => hk.1.2) (.int .u64 t521)) (fun _ hk => hk.2) (.int .i64 t516)) (fun _ hk => hk.2) (.int .i64 t517)) (fun _ hk => hk.2) (.int .i64 t518)) (fun _ hk => hk.2) (.int .i64 t519)) (fun _ hk => hk.2) (.int .i64 t520)) (fun _ hk => hk.2) (.int .u64 t521)) (fun _ hk => trivial)⟩
         have n1_ : Aside0 (((((((((((((w88.setCell ⟨gb523, 0, none⟩ (.int .i64 t516)).setCell ⟨gb523, 1, none⟩ (.int .i64 t517)).setCell ⟨gb523, 2, none⟩ (.int .i64 t518)).setCell ⟨gb523, 3, none⟩ (.int .i64 t519)).setCell ⟨gb523, 4, none⟩ (.int .i64 t520)).setCell ⟨gb523, 5, none⟩ (.int .u64 t521)).setCell ⟨gb514, 0, none⟩ (.int .i64 t516)).setCell ⟨gb514, 1, none⟩ (.int .i64 t517)).setCell ⟨gb514, 2, none⟩ (.int .i64 t518)).setCell ⟨gb514, 3, none⟩ (.int .i64 t519)).setCell ⟨gb514, 4, none⟩ (.int .i64 t520)).setCell ⟨gb514, 5, none⟩ (.int .u64 t521)).heap[gb505]? = some (.cells #[.int .i64 a0_0, .int .i64 a0_1, .int .i64 a0_2] 43 (0, 0))) := ⟨(bt_ BK505)⟩
         have n2_ : Aside0 (((((((((((((w88.setCell ⟨gb523, 0, none⟩ (.int .i64 t516)).setCell ⟨gb523, 1, none⟩ (.int .i64 t517)).setCell ⟨gb523, 2, none⟩ (.int .i64 t518)).setCell ⟨gb523, 3, none⟩ (.int .i64 t519)).setCell ⟨gb523, 4, none⟩ (.int .i64 t520)).setCell ⟨gb523, 5, none⟩ (.int .u64 t521)).setCell ⟨gb514, 0, none⟩ (.int .i64 t516)).setCell ⟨gb514, 1, none⟩ (.int .i64 t517)).setCell ⟨gb514, 2, none⟩ (.int .i64 t518)).setCell ⟨gb514, 3, none⟩ (.int .i64 t519)).setCell ⟨gb514, 4, none⟩ (.int .i64 t520)).setCell ⟨gb514, 5, none⟩ (.int .u64 t521)).heap[gb514]? = some (.cells #[.int .i64 t516, .int .i64 t517, .int .i64 t518, .int .i64 t519, .int .i64 t520, .int .u64 t521] 74 (0, 0))) := ⟨(blk_put (cs := #[.int .i64 t516, .int .i64 t517, .int .i64 t518, .int .i64 t519, .int .i64 t520, .int .u64 x515005_1]) (blk_put (cs := #[.int .i64 t516, .int .i64 t517, .int .i64 t518, .int .i64 t519, .int .i64 x515004_1, .int .u64 x515005_1]) (blk_put (cs := #[.int .i64 t516, .int .i64 t517, .int .i64 t518, .int .i64 x515003_1, .int .i64 x515004_1, .int .u64 x515005_1]) (blk_put (cs := #[.int .i64 t516, .int .i64 t517, .int .i64 x515002_1, .int .i64 x515003_1, .int .i64 x515004_1, .int .u64 x515005_1]) (blk_put (cs := #[.int .i64 t516, .int .i64 x515001_1, .int .i64 x515002_1, .int .i64 x515003_1, .int .i64 x515004_1, .int .u64 x515005_1]) (blk_put (cs := #[.int .i64 x515000_1, .int .i64 x515001_1, .int .i64 x515002_1, .int .i64 x515003_1, .int .i64 x515004_1, .int .u64 x515005_1]) (bt_ BK514) 0 _ rfl) 1 _ rfl) 2 _ rfl) 3 _ rfl) 4 _ rfl) 5 _ rfl)⟩
         have n3_ : Aside0 (((((((((((((w88.setCell ⟨gb523, 0, none⟩ (.int .i64 t516)).setCell ⟨gb523, 1, none⟩ (.int .i64 t517)).setCell ⟨gb523, 2, none⟩ (.int .i64 t518)).setCell ⟨gb523, 3, none⟩ (.int .i64 t519)).setCell ⟨gb523, 4, none⟩ (.int .i64 t520)).setCell ⟨gb523, 5, none⟩ (.int .u64 t521)).setCell ⟨gb514, 0, none⟩ (.int .i64 t516)).setCell ⟨gb514, 1, none⟩ (.int .i64 t517)).setCell ⟨gb514, 2, none⟩ (.int .i64 t518)).setCell ⟨gb514, 3, none⟩ (.int .i64 t519)).setCell ⟨gb514, 4, none⟩ (.int .i64 t520)).setCell ⟨gb514, 5, none⟩ (.int .u64 t521)).heap[gb523]? = some (.cells #[.int .i64 t516, .int .i64 t517, .int .i64 t518, .int .i64 t519, .int .i64 t520, .int .u64 t521] 74 (0, 0))) := ⟨(blk_far (blk_far (blk_far (blk_far (blk_far (blk_far (bp6_ (bq_ BK523)) NB523_514.out _) NB523_514.out _) NB523_514.out _) NB523_514.out _) NB523_514.out _) NB523_514.out _)⟩
         have n4_ : Aside0 (Below w.heap.size w ((((((((((((w88.setCell ⟨gb523, 0, none⟩ (.int .i64 t516)).setCell ⟨gb523, 1, none⟩ (.int .i64 t517)).setCell ⟨gb523, 2, none⟩ (.int .i64 t518)).setCell ⟨gb523, 3, none⟩ (.int .i64 t519)).setCell ⟨gb523, 4, none⟩ (.int .i64 t520)).setCell ⟨gb523, 5, none⟩ (.int .u64 t521)).setCell ⟨gb514, 0, none⟩ (.int .i64 t516)).setCell ⟨gb514, 1, none⟩ (.int .i64 t517)).setCell ⟨gb514, 2, none⟩ (.int .i64 t518)).setCell ⟨gb514, 3, none⟩ (.int .i64 t519)).setCell ⟨gb514, 4, none⟩ (.int .i64 t520)).setCell ⟨gb514, 5, none⟩ (.int .u64 t521))) := bw_
         (try clear HO_6)
         (try clear BK505)
         (try clear BK514)
         (try clear BK523)
         (try clear HB)
         generalize ((((((((((((w88.setCell ⟨gb523, 0, none⟩ (.int .i64 t516)).setCell ⟨gb523, 1, none⟩ (.int .i64 t517)).setCell ⟨gb523, 2, none⟩ (.int .i64 t518)).setCell ⟨gb523, 3, none⟩ (.int .i64 t519)).setCell ⟨gb523, 4, none⟩ (.int .i64 t520)).setCell ⟨gb523, 5, none⟩ (.int .u64 t521)).setCell ⟨gb514, 0, none⟩ (.int .i64 t516)).setCell ⟨gb514, 1, none⟩ (.int .i64 t517)).setCell ⟨gb514, 2, none⟩ (.int .i64 t518)).setCell ⟨gb514, 3, none⟩ (.int .i64 t519)).setCell ⟨gb514, 4, none⟩ (.int .i64 t520)).setCell ⟨gb514, 5, none⟩ (.int .u64 t521)) = w100 at n0_ n1_ n2_ n3_ n4_ ⊢
         have HO_6 := n0_
         have BK505 := n1_
         have BK514 := n2_
         have BK523 := n3_
         have HB := n4_
         clear n0_ n1_ n2_ n3_ n4_
         replace HO_6 := Aside0.mk (Kd.R_drew HO_6.out)
         replace BK505 := Aside0.mk (blk_drew BK505.out)
         replace BK514 := Aside0.mk (blk_drew BK514.out)
         replace BK523 := Aside0.mk (blk_drew BK523.out)
         replace HB := Aside0.mk (below_drew1 HB.out)
         have p524 : 0 ≤ (x9_1 : Int) := of_decide_eq_true (by first | (with_reducible assumption) | assumption)
         have q524 : x9_1 < (l1.length : Int) := of_decide_eq_true (by first | (with_reducible assumption) | assumption)
         obtain ⟨ad524, e524, hx524_0, hx524_1⟩ := at_T58 HR1.out x9_1 p524 q524
         have hw524_1 := hx524_1
         have hw524_0 := hx524_0
         obtain rfl : ad506 = ad524 := (by injection e524)
         replace hx524_0 := (HB.out.cell (World.block_lt_of_cell? w _ hx524_0)).trans hx524_0
         replace hx524_1 := (HB.out.cell (World.block_lt_of_cell? w _ hx524_1)).trans hx524_1
         replace p524 := eq_true p524
         replace q524 := eq_true q524
         refine start_ (n := 13) (S := fun w' => w'.cell? ⟨gb514, 0, none⟩ = some (.int .i64 t516) ∧ w'.cell? ⟨gb514, 1, none⟩ = some (.int .i64 t517) ∧ w'.cell? ⟨gb514, 2, none⟩ = some (.int .i64 t518) ∧ w'.cell? ⟨gb514, 3, none⟩ = some (.int .i64 t519) ∧ w'.cell? ⟨gb514, 4, none⟩ = some (.int .i64 t520) ∧ w'.cell? ⟨gb514, 5, none⟩ = some (.int .u64 t521) ∧ w'.cell? (ad506.add ((x9_1).toNat * 2)) = some (.int .u64 ((rd_T58 l1 x9_1).f0)) ∧ w'.cell? ⟨(ad506.add ((x9_1).toNat * 2)).block, (ad506.add ((x9_1).toNat * 2)).off + 1, none⟩ = some (.int .i64 ((rd_T58 l1 x9_1).f1))) (ds := []) (bl_ 13 0) (by kernel_rfl) rfl (by kernel_rfl) ⟨(blk_cell BK514.out 0).trans rfl, (blk_cell BK514.out 1).trans rfl, (blk_cell BK514.out 2).trans rfl, (blk_cell BK514.out 3).trans rfl, (blk_cell BK514.out 4).trans rfl, (blk_cell BK514.out 5).trans rfl, ((HB.out.cell (World.block_lt_of_cell? w _ hw524_0)).trans hw524_0), ((HB.out.cell (World.block_lt_of_cell? w _ hw524_1)).trans hw524_1)⟩ (fun hHeld => ?_); refine with_tabW spigotlaw38_passes.tab14 spigotlaw38_passes.bits14 (fun HT_ HW_ => ?_)
         generalize w100.drew = w101 at HO_6 BK505 BK514 BK523 HB hx524_0 hx524_1 hHeld ⊢
         refine pa_ 1 (some 49) (bl_ 13 2) HT_ ?_
         refine pa_ 2 (some 50) (bl_ 13 6) HT_ ?_
         refine pa_ 3 (some 51) (bl_ 13 14) HT_ ?_
         refine pa_ 4 (some 52) (bl_ 13 30) HT_ ?_
         refine ta_ 0 (some 48) (bl_ 13 31) HT_ HW_ hHeld ?_
         refine ta_ 5 (some 53) (bl_ 13 63) HT_ HW_ hHeld ?_
         refine join_ (σ := Nat) 2 (bl_ 13 2047) (fun s_ => [(54, .tuple #[.agg #[.int .i64 t525, .int .i64 t526, .int .i64 t527, .int .i64 t528, .int .i64 t529, .int .u64 t530], .int .i64 t531]), (12, .pointer (some ⟨s_, 0, none⟩)), (47, .tuple #[.agg #[.int .i64 t525, .int .i64 t526, .int .i64 t527, .int .i64 t528, .int .i64 t529, .int .u64 t530], .int .i64 t531]), (55, .agg #[.int .i64 t525, .int .i64 t526, .int .i64 t527, .int .i64 t528, .int .i64 t529, .int .u64 t530]), (56, .int .i64 t531)]) (fun s_ w' => (w'.cell? ⟨gb514, 0, none⟩ = some (.int .i64 t516) ∧ w'.cell? ⟨gb514, 1, none⟩ = some (.int .i64 t517) ∧ w'.cell? ⟨gb514, 2, none⟩ = some (.int .i64 t518) ∧ w'.cell? ⟨gb514, 3, none⟩ = some (.int .i64 t519) ∧ w'.cell? ⟨gb514, 4, none⟩ = some (.int .i64 t520) ∧ w'.cell? ⟨gb514, 5, none⟩ = some (.int .u64 t521) ∧ w'.cell? (ad506.add ((x9_1).toNat * 2)) = some (.int .u64 ((rd_T58 l1 x9_1).f0)) ∧ w'.cell? ⟨(ad506.add ((x9_1).toNat * 2)).block, (ad506.add ((x9_1).toNat * 2)).off + 1, none⟩ = some (.int .i64 ((rd_T58 l1 x9_1).f1))) ∧ (Kd.R k58 58 w' w.heap.size (fun _ => True) u6 x6_1) ∧ (w'.heap[gb505]? = some (.cells #[.int .i64 a0_0, .int .i64 a0_1, .int .i64 a0_2] 43 (0, 0))) ∧ (w'.heap[gb514]? = some (.cells #[.int .i64 t516, .int .i64 t517, .int .i64 t518, .int .i64 t519, .int .i64 t520, .int .u64 t521] 74 (0, 0))) ∧ (w'.heap[gb523]? = some (.cells #[.int .i64 t516, .int .i64 t517, .int .i64 t518, .int .i64 t519, .int .i64 t520, .int .u64 t521] 74 (0, 0))) ∧ (w'.heap[s_]? = some (.cells #[.int .i64 0, .int .i64 0, .int .i64 0, .int .i64 0, .int .i64 0, .int .u64 0] 74 (0, 0))) ∧ (w.heap.size ≤ s_) ∧ (w.heap.size ≤ s_) ∧ (gb505 ≠ s_) ∧ (s_ ≠ gb505) ∧ (gb514 ≠ s_) ∧ (s_ ≠ gb514) ∧ (gb523 ≠ s_) ∧ (s_ ≠ gb523) ∧ (Below w.heap.size w w')) ?_ ?_
         rotate_left
         ·intro hCont
          refine tw_ 6 10 (some 54) (some 12) (bl_ 13 127) (bl_ 13 1087) HT_ (fun K hK => ?_) fun K hK => ?_
          ·refine goesB_ Try.func44 #[.agg #[.int .i64 t516, .int .i64 t517, .int .i64 t518, .int .i64 t519, .int .i64 t520, .int .u64 t521], .int .i64 ((rd_T58 l1 x9_1).f1)] ?_
           with_reducible refine (bucket_Charge.calls t516 t517 t518 t519 t520 t521 ((rd_T58 l1 x9_1).f1) t525 t526 t527 t528 t529 t530 t531 _ A23.out).mono ?_
           rintro e w102 ⟨rfl, hb⟩
           refine ⟨_, rfl, ?_⟩
           replace HO_6 := rb_ HO_6 hb
           replace BK505 := bb_ BK505 hb
           replace BK514 := bb_ BK514 hb
           replace BK523 := bb_ BK523 hb
           replace HB := bs_ w hb
           clear hb
           refine hK.out _ _ ⟨(blk_cell BK514.out 0).trans rfl, (blk_cell BK514.out 1).trans rfl, (blk_cell BK514.out 2).trans rfl, (blk_cell BK514.out 3).trans rfl, (blk_cell BK514.out 4).trans rfl, (blk_cell BK514.out 5).trans rfl, ((HB.out.cell (World.block_lt_of_cell? w _ hw524_0)).trans hw524_0), ((HB.out.cell (World.block_lt_of_cell? w _ hw524_1)).trans hw524_1)⟩ (fun hHeld => ?_)
           clear hK K
           refine nm_ (some 54) ?_
           refine pa_ 7 (some 47) (bl_ 13 255) HT_ ?_
           refine pa_ 8 (some 55) (bl_ 13 511) HT_ ?_
           refine pa_ 9 (some 56) (bl_ 13 1023) HT_ ?_
           refine oa_ 10 (some 12) (bl_ 13 2047) HT_ fun K hK => ?_
           refine bs2_ #[.int .i64 0, .int .i64 0, .int .i64 0, .int .i64 0, .int .i64 0, .int .u64 0] 74 ?_
           intro gb532 hg w103 BK532 hb
           have GW532 := bz_ w hg
           have GE532 := GW532
           have NB505_532 := bn_ BK505 hg
           have NB532_505 := bm_ BK505 hg
           have NB514_532 := bn_ BK514 hg
           have NB532_514 := bm_ BK514 hg
           have NB523_532 := bn_ BK523 hg
           have NB532_523 := bm_ BK523 hg
           replace HO_6 := rb_ HO_6 hb
           replace BK505 := bb_ BK505 hb
           replace BK514 := bb_ BK514 hb
           replace BK523 := bb_ BK523 hb
           replace HB := bs_ w hb
           clear hb hg
           refine hK.out _ _ ⟨(blk_cell BK514.out 0).trans rfl, (blk_cell BK514.out 1).trans rfl, (blk_cell BK514.out 2).trans rfl, (blk_cell BK514.out 3).trans rfl, (blk_cell BK514.out 4).trans rfl, (blk_cell BK514.out 5).trans rfl, ((HB.out.cell (World.block_lt_of_cell? w _ hw524_0)).trans hw524_0), ((HB.out.cell (World.block_lt_of_cell? w _ hw524_1)).trans hw524_1)⟩ (fun hHeld => ?_)
           clear hK K
           refine nm_ (some 12) ?_
           exact no_ (hCont (gb532) _ ⟨hHeld, (rs_ HO_6), (bq_ BK505), (bq_ BK514), (bq_ BK523), (bq_ BK532), GW532.out, GE532.out, NB505_532.out, NB532_505.out, NB514_532.out, NB532_514.out, NB523_532.out, NB532_523.out, bh_⟩)
          ·refine bs2_ #[.int .i64 0, .int .i64 0, .int .i64 0, .int .i64 0, .int .i64 0, .int .u64 0] 74 ?_
           intro gb532 hg w102 BK532 hb
           have GW532 := bz_ w hg
           have GE532 := GW532
           have NB505_532 := bn_ BK505 hg
           have NB532_505 := bm_ BK505 hg
           have NB514_532 := bn_ BK514 hg
           have NB532_514 := bm_ BK514 hg
           have NB523_532 := bn_ BK523 hg
           have NB532_523 := bm_ BK523 hg
           replace HO_6 := rb_ HO_6 hb
           replace BK505 := bb_ BK505 hb
           replace BK514 := bb_ BK514 hb
           replace BK523 := bb_ BK523 hb
           replace HB := bs_ w hb
           clear hb hg
           refine hK.out _ _ ⟨(blk_cell BK514.out 0).trans rfl, (blk_cell BK514.out 1).trans rfl, (blk_cell BK514.out 2).trans rfl, (blk_cell BK514.out 3).trans rfl, (blk_cell BK514.out 4).trans rfl, (blk_cell BK514.out 5).trans rfl, ((HB.out.cell (World.block_lt_of_cell? w _ hw524_0)).trans hw524_0), ((HB.out.cell (World.block_lt_of_cell? w _ hw524_1)).trans hw524_1)⟩ (fun hHeld => ?_)
           clear hK K
           refine nm_ (some 12) ?_
           refine oa_ 6 (some 54) (bl_ 13 1151) HT_ fun K hK => ?_
           refine goesB_ Try.func44 #[.agg #[.int .i64 t516, .int .i64 t517, .int .i64 t518, .int .i64 t519, .int .i64 t520, .int .u64 t521], .int .i64 ((rd_T58 l1 x9_1).f1)] ?_
           with_reducible refine (bucket_Charge.calls t516 t517 t518 t519 t520 t521 ((rd_T58 l1 x9_1).f1) t525 t526 t527 t528 t529 t530 t531 _ A23.out).mono ?_
           rintro e w103 ⟨rfl, hb⟩
           refine ⟨_, rfl, ?_⟩
           replace HO_6 := rb_ HO_6 hb
           replace BK505 := bb_ BK505 hb
           replace BK514 := bb_ BK514 hb
           replace BK523 := bb_ BK523 hb
           replace BK532 := bb_ BK532 hb
           replace HB := bs_ w hb
           clear hb
           refine hK.out _ _ ⟨(blk_cell BK514.out 0).trans rfl, (blk_cell BK514.out 1).trans rfl, (blk_cell BK514.out 2).trans rfl, (blk_cell BK514.out 3).trans rfl, (blk_cell BK514.out 4).trans rfl, (blk_cell BK514.out 5).trans rfl, ((HB.out.cell (World.block_lt_of_cell? w _ hw524_0)).trans hw524_0), ((HB.out.cell (World.block_lt_of_cell? w _ hw524_1)).trans hw524_1)⟩ (fun hHeld => ?_)
           clear hK K
           refine nm_ (some 54) ?_
           refine pa_ 7 (some 47) (bl_ 13 1279) HT_ ?_
           refine pa_ 8 (some 55) (bl_ 13 1535) HT_ ?_
           refine pa_ 9 (some 56) (bl_ 13 2047) HT_ ?_
           exact no_ (hCont (gb532) _ ⟨hHeld, (rs_ HO_6), (bq_ BK505), (bq_ BK514), (bq_ BK523), (bq_ BK532), GW532.out, GE532.out, NB505_532.out, NB532_505.out, NB514_532.out, NB532_514.out, NB523_532.out, NB532_523.out, bh_⟩)
         rintro gb532 w104 ⟨hS_, h0_, h1_, h2_, h3_, h4_, h5_, h6_, h7_, h8_, h9_, h10_, h11_, h12_, h13_⟩
         have BK532 := Aside0.mk h4_
         have GW532 := Aside0.mk h5_
         have GE532 := Aside0.mk h6_
         have NB505_532 := Aside0.mk h7_
         have NB532_505 := Aside0.mk h8_
         have NB514_532 := Aside0.mk h9_
         have NB532_514 := Aside0.mk h10_
         have NB523_532 := Aside0.mk h11_
         have NB532_523 := Aside0.mk h12_
         replace HO_6 : Aside0 (Kd.R k58 58 w104 w.heap.size (fun _ => True) u6 x6_1) := ⟨h0_⟩
         replace BK505 := Aside0.mk h1_
         replace BK514 := Aside0.mk h2_
         replace BK523 := Aside0.mk h3_
         replace HB := Aside0.mk h13_
         clear h0_ h1_ h2_ h3_ h4_ h5_ h6_ h7_ h8_ h9_ h10_ h11_ h12_ h13_
         have hHeld := hS_
         refine nq_ ?_
         refine oa_ 11 none (bl_ 13 4095) HT_ fun K hK => ?_
         have hs105 : w104.cell? ⟨gb532, 0, none⟩ = some (.int .i64 0) := (blk_cell BK532.out 0).trans rfl
         have hfs105 := blk_frozen BK532.out 0
         have hns105_0 := NB505_532.out
         have hns105_1 := NB514_532.out
         have hns105_2 := NB523_532.out
         have hms105_0 := NB532_505.out
         have hms105_1 := NB532_514.out
         have hms105_2 := NB532_523.out
         have hs106 : w104.cell? ⟨gb532, 1, none⟩ = some (.int .i64 0) := (blk_cell BK532.out 1).trans rfl
         have hfs106 := blk_frozen BK532.out 1
         have hns106_0 := NB505_532.out
         have hns106_1 := NB514_532.out
         have hns106_2 := NB523_532.out
         have hms106_0 := NB532_505.out
         have hms106_1 := NB532_514.out
         have hms106_2 := NB532_523.out
         have hs107 : w104.cell? ⟨gb532, 2, none⟩ = some (.int .i64 0) := (blk_cell BK532.out 2).trans rfl
         have hfs107 := blk_frozen BK532.out 2
         have hns107_0 := NB505_532.out
         have hns107_1 := NB514_532.out
         have hns107_2 := NB523_532.out
         have hms107_0 := NB532_505.out
         have hms107_1 := NB532_514.out
         have hms107_2 := NB532_523.out
         have hs108 : w104.cell? ⟨gb532, 3, none⟩ = some (.int .i64 0) := (blk_cell BK532.out 3).trans rfl
         have hfs108 := blk_frozen BK532.out 3
         have hns108_0 := NB505_532.out
         have hns108_1 := NB514_532.out
         have hns108_2 := NB523_532.out
         have hms108_0 := NB532_505.out
         have hms108_1 := NB532_514.out
         have hms108_2 := NB532_523.out
         have hs109 : w104.cell? ⟨gb532, 4, none⟩ = some (.int .i64 0) := (blk_cell BK532.out 4).trans rfl
         have hfs109 := blk_frozen BK532.out 4
         have hns109_0 := NB505_532.out
         have hns109_1 := NB514_532.out
         have hns109_2 := NB523_532.out
         have hms109_0 := NB532_505.out
         have hms109_1 := NB532_514.out
         have hms109_2 := NB532_523.out
         have hs110 : w104.cell? ⟨gb532, 5, none⟩ = some (.int .u64 0) := (blk_cell BK532.out 5).trans rfl
         have hfs110 := blk_frozen BK532.out 5
         have hns110_0 := NB505_532.out
         have hns110_1 := NB514_532.out
         have hns110_2 := NB523_532.out
         have hms110_0 := NB532_505.out
         have hms110_1 := NB532_514.out
         have hms110_2 := NB532_523.out
         refine sk_ ?_
         refine hK.out _ _ ⟨((cell_far (p := ⟨gb532, _, none⟩) NB514_532.out _).trans (((cell_far (p := ⟨gb532, _, none⟩) NB514_532.out _).trans (((cell_far (p := ⟨gb532, _, none⟩) NB514_532.out _).trans (((cell_far (p := ⟨gb532, _, none⟩) NB514_532.out _).trans (((cell_far (p := ⟨gb532, _, none⟩) NB514_532.out _).trans (((cell_far (p := ⟨gb532, _, none⟩) NB514_532.out _).trans (hHeld.1)))))))))))), ((cell_far (p := ⟨gb532, _, none⟩) NB514_532.out _).trans (((cell_far (p := ⟨gb532, _, none⟩) NB514_532.out _).trans (((cell_far (p := ⟨gb532, _, none⟩) NB514_532.out _).trans (((cell_far (p := ⟨gb532, _, none⟩) NB514_532.out _).trans (((cell_far (p := ⟨gb532, _, none⟩) NB514_532.out _).trans (((cell_far (p := ⟨gb532, _, none⟩) NB514_532.out _).trans (hHeld.2.1)))))))))))), ((cell_far (p := ⟨gb532, _, none⟩) NB514_532.out _).trans (((cell_far (p := ⟨gb532, _, none⟩) NB514_532.out _).trans (((cell_far (p := ⟨gb532, _, none⟩) NB514_532.out _).trans (((cell_far (p := ⟨gb532, _, none⟩) NB514_532.out _).trans (((cell_far (p := ⟨gb532, _, none⟩) NB514_532.out _).trans (((cell_far (p := ⟨gb532, _, none⟩) NB514_532.out _).trans (hHeld.2.2.1)))))))))))), ((cell_far (p := ⟨gb532, _, none⟩) NB514_532.out _).trans (((cell_far (p := ⟨gb532, _, none⟩) NB514_532.out _).trans (((cell_far (p := ⟨gb532, _, none⟩) NB514_532.out _).trans (((cell_far (p := ⟨gb532, _, none⟩) NB514_532.out _).trans (((cell_far (p := ⟨gb532, _, none⟩) NB514_532.out _).trans (((cell_far (p := ⟨gb532, _, none⟩) NB514_532.out _).trans (hHeld.2.2.2.1)))))))))))), ((cell_far (p := ⟨gb532, _, none⟩) NB514_532.out _).trans (((cell_far (p := ⟨gb532, _, none⟩) NB514_532.out _).trans (((cell_far (p := ⟨gb532, _, none⟩) NB514_532.out _).trans (((cell_far (p := ⟨gb532, _, none⟩) NB514_532.out _).trans (((cell_far (p := ⟨gb532, _, none⟩) NB514_532.out _).trans (((cell_far (p := ⟨gb532, _, none⟩) NB514_532.out _).trans (hHeld.2.2.2.2.1)))))))))))), ((cell_far (p := ⟨gb532, _, none⟩) NB514_532.out _).trans (((cell_far (p := ⟨gb532, _, none⟩) NB514_532.out _).trans (((cell_far (p := ⟨gb532, _, none⟩) NB514_532.out _).trans (((cell_far (p := ⟨gb532, _, none⟩) NB514_532.out _).trans (((cell_far (p := ⟨gb532, _, none⟩) NB514_532.out _).trans (((cell_far (p := ⟨gb532, _, none⟩) NB514_532.out _).trans (hHeld.2.2.2.2.2.1)))))))))))), ((cell_far (p := ⟨gb532, _, none⟩) (by first | exact Nat.ne_of_lt (Nat.lt_of_lt_of_le (by have := World.block_lt_of_cell? _ _ hw524_0; first | rwa [add_block] at this | exact this) GW532.out) | (rw [add_block]; exact Nat.ne_of_lt (Nat.lt_of_lt_of_le (by have := World.block_lt_of_cell? _ _ hw524_0; first | rwa [add_block] at this | exact this) GW532.out)) | (show (Addr.add _ _).block ≠ _; rw [add_block]; exact Nat.ne_of_lt (Nat.lt_of_lt_of_le (by have := World.block_lt_of_cell? _ _ hw524_0; first | rwa [add_block] at this | exact this) GW532.out)) | (dsimp only; exact Nat.ne_of_lt (Nat.lt_of_lt_of_le (by have := World.block_lt_of_cell? _ _ hw524_0; first | rwa [add_block] at this | exact this) GW532.out))) _).trans (((cell_far (p := ⟨gb532, _, none⟩) (by first | exact Nat.ne_of_lt (Nat.lt_of_lt_of_le (by have := World.block_lt_of_cell? _ _ hw524_0; first | rwa [add_block] at this | exact this) GW532.out) | (rw [add_block]; exact Nat.ne_of_lt (Nat.lt_of_lt_of_le (by have := World.block_lt_of_cell? _ _ hw524_0; first | rwa [add_block] at this | exact this) GW532.out)) | (show (Addr.add _ _).block ≠ _; rw [add_block]; exact Nat.ne_of_lt (Nat.lt_of_lt_of_le (by have := World.block_lt_of_cell? _ _ hw524_0; first | rwa [add_block] at this | exact this) GW532.out)) | (dsimp only; exact Nat.ne_of_lt (Nat.lt_of_lt_of_le (by have := World.block_lt_of_cell? _ _ hw524_0; first | rwa [add_block] at this | exact this) GW532.out))) _).trans (((cell_far (p := ⟨gb532, _, none⟩) (by first | exact Nat.ne_of_lt (Nat.lt_of_lt_of_le (by have := World.block_lt_of_cell? _ _ hw524_0; first | rwa [add_block] at this | exact this) GW532.out) | (rw [add_block]; exact Nat.ne_of_lt (Nat.lt_of_lt_of_le (by have := World.block_lt_of_cell? _ _ hw524_0; first | rwa [add_block] at this | exact this) GW532.out)) | (show (Addr.add _ _).block ≠ _; rw [add_block]; exact Nat.ne_of_lt (Nat.lt_of_lt_of_le (by have := World.block_lt_of_cell? _ _ hw524_0; first | rwa [add_block] at this | exact this) GW532.out)) | (dsimp only; exact Nat.ne_of_lt (Nat.lt_of_lt_of_le (by have := World.block_lt_of_cell? _ _ hw524_0; first | rwa [add_block] at this | exact this) GW532.out))) _).trans (((cell_far (p := ⟨gb532, _, none⟩) (by first | exact Nat.ne_of_lt (Nat.lt_of_lt_of_le (by have := World.block_lt_of_cell? _ _ hw524_0; first | rwa [add_block] at this | exact this) GW532.out) | (rw [add_block]; exact Nat.ne_of_lt (Nat.lt_of_lt_of_le (by have := World.block_lt_of_cell? _ _ hw524_0; first | rwa [add_block] at this | exact this) GW532.out)) | (show (Addr.add _ _).block ≠ _; rw [add_block]; exact Nat.ne_of_lt (Nat.lt_of_lt_of_le (by have := World.block_lt_of_cell? _ _ hw524_0; first | rwa [add_block] at this | exact this) GW532.out)) | (dsimp only; exact Nat.ne_of_lt (Nat.lt_of_lt_of_le (by have := World.block_lt_of_cell? _ _ hw524_0; first | rwa [add_block] at this | exact this) GW532.out))) _).trans (((cell_far (p := ⟨gb532, _, none⟩) (by first | exact Nat.ne_of_lt (Nat.lt_of_lt_of_le (by have := World.block_lt_of_cell? _ _ hw524_0; first | rwa [add_block] at this | exact this) GW532.out) | (rw [add_block]; exact Nat.ne_of_lt (Nat.lt_of_lt_of_le (by have := World.block_lt_of_cell? _ _ hw524_0; first | rwa [add_block] at this | exact this) GW532.out)) | (show (Addr.add _ _).block ≠ _; rw [add_block]; exact Nat.ne_of_lt (Nat.lt_of_lt_of_le (by have := World.block_lt_of_cell? _ _ hw524_0; first | rwa [add_block] at this | exact this) GW532.out)) | (dsimp only; exact Nat.ne_of_lt (Nat.lt_of_lt_of_le (by have := World.block_lt_of_cell? _ _ hw524_0; first | rwa [add_block] at this | exact this) GW532.out))) _).trans (((cell_far (p := ⟨gb532, _, none⟩) (by first | exact Nat.ne_of_lt (Nat.lt_of_lt_of_le (by have := World.block_lt_of_cell? _ _ hw524_0; first | rwa [add_block] at this | exact this) GW532.out) | (rw [add_block]; exact Nat.ne_of_lt (Nat.lt_of_lt_of_le (by have := World.block_lt_of_cell? _ _ hw524_0; first | rwa [add_block] at this | exact this) GW532.out)) | (show (Addr.add _ _).block ≠ _; rw [add_block]; exact Nat.ne_of_lt (Nat.lt_of_lt_of_le (by have := World.block_lt_of_cell? _ _ hw524_0; first | rwa [add_block] at this | exact this) GW532.out)) | (dsimp only; exact Nat.ne_of_lt (Nat.lt_of_lt_of_le (by have := World.block_lt_of_cell? _ _ hw524_0; first | rwa [add_block] at this | exact this) GW532.out))) _).trans (hHeld.2.2.2.2.2.2.1)))))))))))), ((cell_far (p := ⟨gb532, _, none⟩) (by first | exact Nat.ne_of_lt (Nat.lt_of_lt_of_le (by have := World.block_lt_of_cell? _ _ hw524_1; first | rwa [add_block] at this | exact this) GW532.out) | (rw [add_block]; exact Nat.ne_of_lt (Nat.lt_of_lt_of_le (by have := World.block_lt_of_cell? _ _ hw524_1; first | rwa [add_block] at this | exact this) GW532.out)) | (show (Addr.add _ _).block ≠ _; rw [add_block]; exact Nat.ne_of_lt (Nat.lt_of_lt_of_le (by have := World.block_lt_of_cell? _ _ hw524_1; first | rwa [add_block] at this | exact this) GW532.out)) | (dsimp only; exact Nat.ne_of_lt (Nat.lt_of_lt_of_le (by have := World.block_lt_of_cell? _ _ hw524_1; first | rwa [add_block] at this | exact this) GW532.out))) _).trans (((cell_far (p := ⟨gb532, _, none⟩) (by first | exact Nat.ne_of_lt (Nat.lt_of_lt_of_le (by have := World.block_lt_of_cell? _ _ hw524_1; first | rwa [add_block] at this | exact this) GW532.out) | (rw [add_block]; exact Nat.ne_of_lt (Nat.lt_of_lt_of_le (by have := World.block_lt_of_cell? _ _ hw524_1; first | rwa [add_block] at this | exact this) GW532.out)) | (show (Addr.add _ _).block ≠ _; rw [add_block]; exact Nat.ne_of_lt (Nat.lt_of_lt_of_le (by have := World.block_lt_of_cell? _ _ hw524_1; first | rwa [add_block] at this | exact this) GW532.out)) | (dsimp only; exact Nat.ne_of_lt (Nat.lt_of_lt_of_le (by have := World.block_lt_of_cell? _ _ hw524_1; first | rwa [add_block] at this | exact this) GW532.out))) _).trans (((cell_far (p := ⟨gb532, _, none⟩) (by first | exact Nat.ne_of_lt (Nat.lt_of_lt_of_le (by have := World.block_lt_of_cell? _ _ hw524_1; first | rwa [add_block] at this | exact this) GW532.out) | (rw [add_block]; exact Nat.ne_of_lt (Nat.lt_of_lt_of_le (by have := World.block_lt_of_cell? _ _ hw524_1; first | rwa [add_block] at this | exact this) GW532.out)) | (show (Addr.add _ _).block ≠ _; rw [add_block]; exact Nat.ne_of_lt (Nat.lt_of_lt_of_le (by have := World.block_lt_of_cell? _ _ hw524_1; first | rwa [add_block] at this | exact this) GW532.out)) | (dsimp only; exact Nat.ne_of_lt (Nat.lt_of_lt_of_le (by have := World.block_lt_of_cell? _ _ hw524_1; first | rwa [add_block] at this | exact this) GW532.out))) _).trans (((cell_far (p := ⟨gb532, _, none⟩) (by first | exact Nat.ne_of_lt (Nat.lt_of_lt_of_le (by have := World.block_lt_of_cell? _ _ hw524_1; first | rwa [add_block] at this | exact this) GW532.out) | (rw [add_block]; exact Nat.ne_of_lt (Nat.lt_of_lt_of_le (by have := World.block_lt_of_cell? _ _ hw524_1; first | rwa [add_block] at this | exact this) GW532.out)) | (show (Addr.add _ _).block ≠ _; rw [add_block]; exact Nat.ne_of_lt (Nat.lt_of_lt_of_le (by have := World.block_lt_of_cell? _ _ hw524_1; first | rwa [add_block] at this | exact this) GW532.out)) | (dsimp only; exact Nat.ne_of_lt (Nat.lt_of_lt_of_le (by have := World.block_lt_of_cell? _ _ hw524_1; first | rwa [add_block] at this | exact this) GW532.out))) _).trans (((cell_far (p := ⟨gb532, _, none⟩) (by first | exact Nat.ne_of_lt (Nat.lt_of_lt_of_le (by have := World.block_lt_of_cell? _ _ hw524_1; first | rwa [add_block] at this | exact this) GW532.out) | (rw [add_block]; exact Nat.ne_of_lt (Nat.lt_of_lt_of_le (by have := World.block_lt_of_cell? _ _ hw524_1; first | rwa [add_block] at this | exact this) GW532.out)) | (show (Addr.add _ _).block ≠ _; rw [add_block]; exact Nat.ne_of_lt (Nat.lt_of_lt_of_le (by have := World.block_lt_of_cell? _ _ hw524_1; first | rwa [add_block] at this | exact this) GW532.out)) | (dsimp only; exact Nat.ne_of_lt (Nat.lt_of_lt_of_le (by have := World.block_lt_of_cell? _ _ hw524_1; first | rwa [add_block] at this | exact this) GW532.out))) _).trans (((cell_far (p := ⟨gb532, _, none⟩) (by first | exact Nat.ne_of_lt (Nat.lt_of_lt_of_le (by have := World.block_lt_of_cell? _ _ hw524_1; first | rwa [add_block] at this | exact this) GW532.out) | (rw [add_block]; exact Nat.ne_of_lt (Nat.lt_of_lt_of_le (by have := World.block_lt_of_cell? _ _ hw524_1; first | rwa [add_block] at this | exact this) GW532.out)) | (show (Addr.add _ _).block ≠ _; rw [add_block]; exact Nat.ne_of_lt (Nat.lt_of_lt_of_le (by have := World.block_lt_of_cell? _ _ hw524_1; first | rwa [add_block] at this | exact this) GW532.out)) | (dsimp only; exact Nat.ne_of_lt (Nat.lt_of_lt_of_le (by have := World.block_lt_of_cell? _ _ hw524_1; first | rwa [add_block] at this | exact this) GW532.out))) _).trans (hHeld.2.2.2.2.2.2.2))))))))))))⟩ (fun hHeld => ?_)
         clear hK K
         refine pa_ 12 (some 13) (bl_ 13 8191) HT_ ?_
         refine done_ (done_of HT_.out (by kernel_rfl)) ?_
         try go_wp2
         go_ret2
         exact ⟨_, by first | rfl | (simp [errW_none, errW_some] <;> rfl) | (simp [*, errW_none, errW_some] <;> rfl), by first | exact Kd.R_nil _ _ _ _ _ | exact Kd.N_nil _ _ _ _ _ | exact Kd.V_nil _ _ _ _ _ | exact Kd.Q_nil _ _ _ _ _ | exact Kd.S_nil _ _ _ _ _, by repeat (first | (with_reducible first | exact HB.out | apply below_alloc | apply pw_below_drewN | apply below_drew1 | refine below_set ?_ GE505.out | refine below_set ?_ GE514.out | refine below_set ?_ GE523.out | refine below_set ?_ GE532.out) | exact HB.out)⟩
      ·rw [if_neg c22] at H
       have c22b0 : (t522 == 0) = false := beq_eq_false_iff_ne.mpr c22
       have c22b1 : (t522 != 0) = true := bne_iff_ne.mpr c22
       simp only [Option.some.injEq, Prod.mk.injEq] at H
       obtain ⟨rfl, rfl⟩ := H
       try go_wp2
       replace HO_6 := Aside0.mk (Kd.R_drew HO_6.out)
       replace BK505 := Aside0.mk (blk_drew BK505.out)
       replace BK514 := Aside0.mk (blk_drew BK514.out)
       replace HB := Aside0.mk (below_drew1 HB.out)
       have p515 : 0 ≤ (x9_1 : Int) := of_decide_eq_true (by first | (with_reducible assumption) | assumption)
       have q515 : x9_1 < (l1.length : Int) := of_decide_eq_true (by first | (with_reducible assumption) | assumption)
       obtain ⟨ad515, e515, hx515_0, hx515_1⟩ := at_T58 HR1.out x9_1 p515 q515
       have hw515_1 := hx515_1
       have hw515_0 := hx515_0
       obtain rfl : ad506 = ad515 := (by injection e515)
       replace hx515_0 := (HB.out.cell (World.block_lt_of_cell? w _ hx515_0)).trans hx515_0
       replace hx515_1 := (HB.out.cell (World.block_lt_of_cell? w _ hx515_1)).trans hx515_1
       replace p515 := eq_true p515
       replace q515 := eq_true q515
       refine start_ (n := 13) (S := fun w' => w'.cell? ⟨gb514, 0, none⟩ = some (.int .i64 x515000_1) ∧ w'.cell? ⟨gb514, 1, none⟩ = some (.int .i64 x515001_1) ∧ w'.cell? ⟨gb514, 2, none⟩ = some (.int .i64 x515002_1) ∧ w'.cell? ⟨gb514, 3, none⟩ = some (.int .i64 x515003_1) ∧ w'.cell? ⟨gb514, 4, none⟩ = some (.int .i64 x515004_1) ∧ w'.cell? ⟨gb514, 5, none⟩ = some (.int .u64 x515005_1) ∧ w'.cell? (ad506.add ((x9_1).toNat * 2)) = some (.int .u64 ((rd_T58 l1 x9_1).f0)) ∧ w'.cell? ⟨(ad506.add ((x9_1).toNat * 2)).block, (ad506.add ((x9_1).toNat * 2)).off + 1, none⟩ = some (.int .i64 ((rd_T58 l1 x9_1).f1))) (ds := []) (bl_ 13 0) (by kernel_rfl) rfl (by kernel_rfl) ⟨(blk_cell BK514.out 0).trans rfl, (blk_cell BK514.out 1).trans rfl, (blk_cell BK514.out 2).trans rfl, (blk_cell BK514.out 3).trans rfl, (blk_cell BK514.out 4).trans rfl, (blk_cell BK514.out 5).trans rfl, ((HB.out.cell (World.block_lt_of_cell? w _ hw515_0)).trans hw515_0), ((HB.out.cell (World.block_lt_of_cell? w _ hw515_1)).trans hw515_1)⟩ (fun hHeld => ?_); refine with_tabW spigotlaw38_passes.tab10 spigotlaw38_passes.bits10 (fun HT_ HW_ => ?_)
       generalize wr.drew = w111 at HO_6 BK505 BK514 HB hx515_0 hx515_1 hHeld ⊢
       refine pa_ 1 (some 36) (bl_ 13 2) HT_ ?_
       refine pa_ 2 (some 37) (bl_ 13 6) HT_ ?_
       refine pa_ 3 (some 38) (bl_ 13 14) HT_ ?_
       refine pa_ 4 (some 39) (bl_ 13 30) HT_ ?_
       refine ta_ 0 (some 35) (bl_ 13 31) HT_ HW_ hHeld ?_
       refine ta_ 5 (some 40) (bl_ 13 63) HT_ HW_ hHeld ?_
       refine join_ (σ := Nat) 2 (bl_ 13 2047) (fun s_ => [(41, .tuple #[.agg #[.int .i64 t516, .int .i64 t517, .int .i64 t518, .int .i64 t519, .int .i64 t520, .int .u64 t521], .int .i64 t522]), (10, .pointer (some ⟨s_, 0, none⟩)), (34, .tuple #[.agg #[.int .i64 t516, .int .i64 t517, .int .i64 t518, .int .i64 t519, .int .i64 t520, .int .u64 t521], .int .i64 t522]), (42, .agg #[.int .i64 t516, .int .i64 t517, .int .i64 t518, .int .i64 t519, .int .i64 t520, .int .u64 t521]), (43, .int .i64 t522)]) (fun s_ w' => (w'.cell? ⟨gb514, 0, none⟩ = some (.int .i64 x515000_1) ∧ w'.cell? ⟨gb514, 1, none⟩ = some (.int .i64 x515001_1) ∧ w'.cell? ⟨gb514, 2, none⟩ = some (.int .i64 x515002_1) ∧ w'.cell? ⟨gb514, 3, none⟩ = some (.int .i64 x515003_1) ∧ w'.cell? ⟨gb514, 4, none⟩ = some (.int .i64 x515004_1) ∧ w'.cell? ⟨gb514, 5, none⟩ = some (.int .u64 x515005_1) ∧ w'.cell? (ad506.add ((x9_1).toNat * 2)) = some (.int .u64 ((rd_T58 l1 x9_1).f0)) ∧ w'.cell? ⟨(ad506.add ((x9_1).toNat * 2)).block, (ad506.add ((x9_1).toNat * 2)).off + 1, none⟩ = some (.int .i64 ((rd_T58 l1 x9_1).f1))) ∧ (Kd.R k58 58 w' w.heap.size (fun _ => True) u6 x6_1) ∧ (w'.heap[gb505]? = some (.cells #[.int .i64 a0_0, .int .i64 a0_1, .int .i64 a0_2] 43 (0, 0))) ∧ (w'.heap[gb514]? = some (.cells #[.int .i64 x515000_1, .int .i64 x515001_1, .int .i64 x515002_1, .int .i64 x515003_1, .int .i64 x515004_1, .int .u64 x515005_1] 74 (0, 0))) ∧ (w'.heap[s_]? = some (.cells #[.int .i64 0, .int .i64 0, .int .i64 0, .int .i64 0, .int .i64 0, .int .u64 0] 74 (0, 0))) ∧ (w.heap.size ≤ s_) ∧ (w.heap.size ≤ s_) ∧ (gb505 ≠ s_) ∧ (s_ ≠ gb505) ∧ (gb514 ≠ s_) ∧ (s_ ≠ gb514) ∧ (Below w.heap.size w w')) ?_ ?_
       rotate_left
       ·intro hCont
        refine tw_ 6 10 (some 41) (some 10) (bl_ 13 127) (bl_ 13 1087) HT_ (fun K hK => ?_) fun K hK => ?_
        ·refine goesB_ Try.func43 #[.agg #[.int .i64 x515000_1, .int .i64 x515001_1, .int .i64 x515002_1, .int .i64 x515003_1, .int .i64 x515004_1, .int .u64 x515005_1], .int .u64 ((rd_T58 l1 x9_1).f0)] ?_
         with_reducible refine (bucket_Refill.calls k1 x515000_1 x515001_1 x515002_1 x515003_1 x515004_1 x515005_1 ((rd_T58 l1 x9_1).f0) t516 t517 t518 t519 t520 t521 t522 _ A21.out).mono ?_
         rintro e w112 ⟨rfl, hb⟩
         refine ⟨_, rfl, ?_⟩
         replace HO_6 := rb_ HO_6 hb
         replace BK505 := bb_ BK505 hb
         replace BK514 := bb_ BK514 hb
         replace HB := bs_ w hb
         clear hb
         refine hK.out _ _ ⟨(blk_cell BK514.out 0).trans rfl, (blk_cell BK514.out 1).trans rfl, (blk_cell BK514.out 2).trans rfl, (blk_cell BK514.out 3).trans rfl, (blk_cell BK514.out 4).trans rfl, (blk_cell BK514.out 5).trans rfl, ((HB.out.cell (World.block_lt_of_cell? w _ hw515_0)).trans hw515_0), ((HB.out.cell (World.block_lt_of_cell? w _ hw515_1)).trans hw515_1)⟩ (fun hHeld => ?_)
         clear hK K
         refine nm_ (some 41) ?_
         refine pa_ 7 (some 34) (bl_ 13 255) HT_ ?_
         refine pa_ 8 (some 42) (bl_ 13 511) HT_ ?_
         refine pa_ 9 (some 43) (bl_ 13 1023) HT_ ?_
         refine oa_ 10 (some 10) (bl_ 13 2047) HT_ fun K hK => ?_
         refine bs2_ #[.int .i64 0, .int .i64 0, .int .i64 0, .int .i64 0, .int .i64 0, .int .u64 0] 74 ?_
         intro gb523 hg w113 BK523 hb
         have GW523 := bz_ w hg
         have GE523 := GW523
         have NB505_523 := bn_ BK505 hg
         have NB523_505 := bm_ BK505 hg
         have NB514_523 := bn_ BK514 hg
         have NB523_514 := bm_ BK514 hg
         replace HO_6 := rb_ HO_6 hb
         replace BK505 := bb_ BK505 hb
         replace BK514 := bb_ BK514 hb
         replace HB := bs_ w hb
         clear hb hg
         refine hK.out _ _ ⟨(blk_cell BK514.out 0).trans rfl, (blk_cell BK514.out 1).trans rfl, (blk_cell BK514.out 2).trans rfl, (blk_cell BK514.out 3).trans rfl, (blk_cell BK514.out 4).trans rfl, (blk_cell BK514.out 5).trans rfl, ((HB.out.cell (World.block_lt_of_cell? w _ hw515_0)).trans hw515_0), ((HB.out.cell (World.block_lt_of_cell? w _ hw515_1)).trans hw515_1)⟩ (fun hHeld => ?_)
         clear hK K
         refine nm_ (some 10) ?_
         exact no_ (hCont (gb523) _ ⟨hHeld, (rs_ HO_6), (bq_ BK505), (bq_ BK514), (bq_ BK523), GW523.out, GE523.out, NB505_523.out, NB523_505.out, NB514_523.out, NB523_514.out, bh_⟩)
        ·refine bs2_ #[.int .i64 0, .int .i64 0, .int .i64 0, .int .i64 0, .int .i64 0, .int .u64 0] 74 ?_
         intro gb523 hg w112 BK523 hb
         have GW523 := bz_ w hg
         have GE523 := GW523
         have NB505_523 := bn_ BK505 hg
         have NB523_505 := bm_ BK505 hg
         have NB514_523 := bn_ BK514 hg
         have NB523_514 := bm_ BK514 hg
         replace HO_6 := rb_ HO_6 hb
         replace BK505 := bb_ BK505 hb
         replace BK514 := bb_ BK514 hb
         replace HB := bs_ w hb
         clear hb hg
         refine hK.out _ _ ⟨(blk_cell BK514.out 0).trans rfl, (blk_cell BK514.out 1).trans rfl, (blk_cell BK514.out 2).trans rfl, (blk_cell BK514.out 3).trans rfl, (blk_cell BK514.out 4).trans rfl, (blk_cell BK514.out 5).trans rfl, ((HB.out.cell (World.block_lt_of_cell? w _ hw515_0)).trans hw515_0), ((HB.out.cell (World.block_lt_of_cell? w _ hw515_1)).trans hw515_1)⟩ (fun hHeld => ?_)
         clear hK K
         refine nm_ (some 10) ?_
         refine oa_ 6 (some 41) (bl_ 13 1151) HT_ fun K hK => ?_
         refine goesB_ Try.func43 #[.agg #[.int .i64 x515000_1, .int .i64 x515001_1, .int .i64 x515002_1, .int .i64 x515003_1, .int .i64 x515004_1, .int .u64 x515005_1], .int .u64 ((rd_T58 l1 x9_1).f0)] ?_
         with_reducible refine (bucket_Refill.calls k1 x515000_1 x515001_1 x515002_1 x515003_1 x515004_1 x515005_1 ((rd_T58 l1 x9_1).f0) t516 t517 t518 t519 t520 t521 t522 _ A21.out).mono ?_
         rintro e w113 ⟨rfl, hb⟩
         refine ⟨_, rfl, ?_⟩
         replace HO_6 := rb_ HO_6 hb
         replace BK505 := bb_ BK505 hb
         replace BK514 := bb_ BK514 hb
         replace BK523 := bb_ BK523 hb
         replace HB := bs_ w hb
         clear hb
         refine hK.out _ _ ⟨(blk_cell BK514.out 0).trans rfl, (blk_cell BK514.out 1).trans rfl, (blk_cell BK514.out 2).trans rfl, (blk_cell BK514.out 3).trans rfl, (blk_cell BK514.out 4).trans rfl, (blk_cell BK514.out 5).trans rfl, ((HB.out.cell (World.block_lt_of_cell? w _ hw515_0)).trans hw515_0), ((HB.out.cell (World.block_lt_of_cell? w _ hw515_1)).trans hw515_1)⟩ (fun hHeld => ?_)
         clear hK K
         refine nm_ (some 41) ?_
         refine pa_ 7 (some 34) (bl_ 13 1279) HT_ ?_
         refine pa_ 8 (some 42) (bl_ 13 1535) HT_ ?_
         refine pa_ 9 (some 43) (bl_ 13 2047) HT_ ?_
         exact no_ (hCont (gb523) _ ⟨hHeld, (rs_ HO_6), (bq_ BK505), (bq_ BK514), (bq_ BK523), GW523.out, GE523.out, NB505_523.out, NB523_505.out, NB514_523.out, NB523_514.out, bh_⟩)
       rintro gb523 w114 ⟨hS_, h0_, h1_, h2_, h3_, h4_, h5_, h6_, h7_, h8_, h9_, h10_⟩
       have BK523 := Aside0.mk h3_
       have GW523 := Aside0.mk h4_
       have GE523 := Aside0.mk h5_
       have NB505_523 := Aside0.mk h6_
       have NB523_505 := Aside0.mk h7_
       have NB514_523 := Aside0.mk h8_
       have NB523_514 := Aside0.mk h9_
       replace HO_6 : Aside0 (Kd.R k58 58 w114 w.heap.size (fun _ => True) u6 x6_1) := ⟨h0_⟩
       replace BK505 := Aside0.mk h1_
       replace BK514 := Aside0.mk h2_
       replace HB := Aside0.mk h10_
       clear h0_ h1_ h2_ h3_ h4_ h5_ h6_ h7_ h8_ h9_ h10_
       have hHeld := hS_
       refine nq_ ?_
       refine oa_ 11 none (bl_ 13 4095) HT_ fun K hK => ?_
       have hs115 : w114.cell? ⟨gb523, 0, none⟩ = some (.int .i64 0) := (blk_cell BK523.out 0).trans rfl
       have hfs115 := blk_frozen BK523.out 0
       have hns115_0 := NB505_523.out
       have hns115_1 := NB514_523.out
       have hms115_0 := NB523_505.out
       have hms115_1 := NB523_514.out
       have hs116 : w114.cell? ⟨gb523, 1, none⟩ = some (.int .i64 0) := (blk_cell BK523.out 1).trans rfl
       have hfs116 := blk_frozen BK523.out 1
       have hns116_0 := NB505_523.out
       have hns116_1 := NB514_523.out
       have hms116_0 := NB523_505.out
       have hms116_1 := NB523_514.out
       have hs117 : w114.cell? ⟨gb523, 2, none⟩ = some (.int .i64 0) := (blk_cell BK523.out 2).trans rfl
       have hfs117 := blk_frozen BK523.out 2
       have hns117_0 := NB505_523.out
       have hns117_1 := NB514_523.out
       have hms117_0 := NB523_505.out
       have hms117_1 := NB523_514.out
       have hs118 : w114.cell? ⟨gb523, 3, none⟩ = some (.int .i64 0) := (blk_cell BK523.out 3).trans rfl
       have hfs118 := blk_frozen BK523.out 3
       have hns118_0 := NB505_523.out
       have hns118_1 := NB514_523.out
       have hms118_0 := NB523_505.out
       have hms118_1 := NB523_514.out
       have hs119 : w114.cell? ⟨gb523, 4, none⟩ = some (.int .i64 0) := (blk_cell BK523.out 4).trans rfl
       have hfs119 := blk_frozen BK523.out 4
       have hns119_0 := NB505_523.out
       have hns119_1 := NB514_523.out
       have hms119_0 := NB523_505.out
       have hms119_1 := NB523_514.out
       have hs120 : w114.cell? ⟨gb523, 5, none⟩ = some (.int .u64 0) := (blk_cell BK523.out 5).trans rfl
       have hfs120 := blk_frozen BK523.out 5
       have hns120_0 := NB505_523.out
       have hns120_1 := NB514_523.out
       have hms120_0 := NB523_505.out
       have hms120_1 := NB523_514.out
       refine sk_ ?_
       refine hK.out _ _ ⟨((cell_far (p := ⟨gb523, _, none⟩) NB514_523.out _).trans (((cell_far (p := ⟨gb523, _, none⟩) NB514_523.out _).trans (((cell_far (p := ⟨gb523, _, none⟩) NB514_523.out _).trans (((cell_far (p := ⟨gb523, _, none⟩) NB514_523.out _).trans (((cell_far (p := ⟨gb523, _, none⟩) NB514_523.out _).trans (((cell_far (p := ⟨gb523, _, none⟩) NB514_523.out _).trans (hHeld.1)))))))))))), ((cell_far (p := ⟨gb523, _, none⟩) NB514_523.out _).trans (((cell_far (p := ⟨gb523, _, none⟩) NB514_523.out _).trans (((cell_far (p := ⟨gb523, _, none⟩) NB514_523.out _).trans (((cell_far (p := ⟨gb523, _, none⟩) NB514_523.out _).trans (((cell_far (p := ⟨gb523, _, none⟩) NB514_523.out _).trans (((cell_far (p := ⟨gb523, _, none⟩) NB514_523.out _).trans (hHeld.2.1)))))))))))), ((cell_far (p := ⟨gb523, _, none⟩) NB514_523.out _).trans (((cell_far (p := ⟨gb523, _, none⟩) NB514_523.out _).trans (((cell_far (p := ⟨gb523, _, none⟩) NB514_523.out _).trans (((cell_far (p := ⟨gb523, _, none⟩) NB514_523.out _).trans (((cell_far (p := ⟨gb523, _, none⟩) NB514_523.out _).trans (((cell_far (p := ⟨gb523, _, none⟩) NB514_523.out _).trans (hHeld.2.2.1)))))))))))), ((cell_far (p := ⟨gb523, _, none⟩) NB514_523.out _).trans (((cell_far (p := ⟨gb523, _, none⟩) NB514_523.out _).trans (((cell_far (p := ⟨gb523, _, none⟩) NB514_523.out _).trans (((cell_far (p := ⟨gb523, _, none⟩) NB514_523.out _).trans (((cell_far (p := ⟨gb523, _, none⟩) NB514_523.out _).trans (((cell_far (p := ⟨gb523, _, none⟩) NB514_523.out _).trans (hHeld.2.2.2.1)))))))))))), ((cell_far (p := ⟨gb523, _, none⟩) NB514_523.out _).trans (((cell_far (p := ⟨gb523, _, none⟩) NB514_523.out _).trans (((cell_far (p := ⟨gb523, _, none⟩) NB514_523.out _).trans (((cell_far (p := ⟨gb523, _, none⟩) NB514_523.out _).trans (((cell_far (p := ⟨gb523, _, none⟩) NB514_523.out _).trans (((cell_far (p := ⟨gb523, _, none⟩) NB514_523.out _).trans (hHeld.2.2.2.2.1)))))))))))), ((cell_far (p := ⟨gb523, _, none⟩) NB514_523.out _).trans (((cell_far (p := ⟨gb523, _, none⟩) NB514_523.out _).trans (((cell_far (p := ⟨gb523, _, none⟩) NB514_523.out _).trans (((cell_far (p := ⟨gb523, _, none⟩) NB514_523.out _).trans (((cell_far (p := ⟨gb523, _, none⟩) NB514_523.out _).trans (((cell_far (p := ⟨gb523, _, none⟩) NB514_523.out _).trans (hHeld.2.2.2.2.2.1)))))))))))), ((cell_far (p := ⟨gb523, _, none⟩) (by first | exact Nat.ne_of_lt (Nat.lt_of_lt_of_le (by have := World.block_lt_of_cell? _ _ hw515_0; first | rwa [add_block] at this | exact this) GW523.out) | (rw [add_block]; exact Nat.ne_of_lt (Nat.lt_of_lt_of_le (by have := World.block_lt_of_cell? _ _ hw515_0; first | rwa [add_block] at this | exact this) GW523.out)) | (show (Addr.add _ _).block ≠ _; rw [add_block]; exact Nat.ne_of_lt (Nat.lt_of_lt_of_le (by have := World.block_lt_of_cell? _ _ hw515_0; first | rwa [add_block] at this | exact this) GW523.out)) | (dsimp only; exact Nat.ne_of_lt (Nat.lt_of_lt_of_le (by have := World.block_lt_of_cell? _ _ hw515_0; first | rwa [add_block] at this | exact this) GW523.out))) _).trans (((cell_far (p := ⟨gb523, _, none⟩) (by first | exact Nat.ne_of_lt (Nat.lt_of_lt_of_le (by have := World.block_lt_of_cell? _ _ hw515_0; first | rwa [add_block] at this | exact this) GW523.out) | (rw [add_block]; exact Nat.ne_of_lt (Nat.lt_of_lt_of_le (by have := World.block_lt_of_cell? _ _ hw515_0; first | rwa [add_block] at this | exact this) GW523.out)) | (show (Addr.add _ _).block ≠ _; rw [add_block]; exact Nat.ne_of_lt (Nat.lt_of_lt_of_le (by have := World.block_lt_of_cell? _ _ hw515_0; first | rwa [add_block] at this | exact this) GW523.out)) | (dsimp only; exact Nat.ne_of_lt (Nat.lt_of_lt_of_le (by have := World.block_lt_of_cell? _ _ hw515_0; first | rwa [add_block] at this | exact this) GW523.out))) _).trans (((cell_far (p := ⟨gb523, _, none⟩) (by first | exact Nat.ne_of_lt (Nat.lt_of_lt_of_le (by have := World.block_lt_of_cell? _ _ hw515_0; first | rwa [add_block] at this | exact this) GW523.out) | (rw [add_block]; exact Nat.ne_of_lt (Nat.lt_of_lt_of_le (by have := World.block_lt_of_cell? _ _ hw515_0; first | rwa [add_block] at this | exact this) GW523.out)) | (show (Addr.add _ _).block ≠ _; rw [add_block]; exact Nat.ne_of_lt (Nat.lt_of_lt_of_le (by have := World.block_lt_of_cell? _ _ hw515_0; first | rwa [add_block] at this | exact this) GW523.out)) | (dsimp only; exact Nat.ne_of_lt (Nat.lt_of_lt_of_le (by have := World.block_lt_of_cell? _ _ hw515_0; first | rwa [add_block] at this | exact this) GW523.out))) _).trans (((cell_far (p := ⟨gb523, _, none⟩) (by first | exact Nat.ne_of_lt (Nat.lt_of_lt_of_le (by have := World.block_lt_of_cell? _ _ hw515_0; first | rwa [add_block] at this | exact this) GW523.out) | (rw [add_block]; exact Nat.ne_of_lt (Nat.lt_of_lt_of_le (by have := World.block_lt_of_cell? _ _ hw515_0; first | rwa [add_block] at this | exact this) GW523.out)) | (show (Addr.add _ _).block ≠ _; rw [add_block]; exact Nat.ne_of_lt (Nat.lt_of_lt_of_le (by have := World.block_lt_of_cell? _ _ hw515_0; first | rwa [add_block] at this | exact this) GW523.out)) | (dsimp only; exact Nat.ne_of_lt (Nat.lt_of_lt_of_le (by have := World.block_lt_of_cell? _ _ hw515_0; first | rwa [add_block] at this | exact this) GW523.out))) _).trans (((cell_far (p := ⟨gb523, _, none⟩) (by first | exact Nat.ne_of_lt (Nat.lt_of_lt_of_le (by have := World.block_lt_of_cell? _ _ hw515_0; first | rwa [add_block] at this | exact this) GW523.out) | (rw [add_block]; exact Nat.ne_of_lt (Nat.lt_of_lt_of_le (by have := World.block_lt_of_cell? _ _ hw515_0; first | rwa [add_block] at this | exact this) GW523.out)) | (show (Addr.add _ _).block ≠ _; rw [add_block]; exact Nat.ne_of_lt (Nat.lt_of_lt_of_le (by have := World.block_lt_of_cell? _ _ hw515_0; first | rwa [add_block] at this | exact this) GW523.out)) | (dsimp only; exact Nat.ne_of_lt (Nat.lt_of_lt_of_le (by have := World.block_lt_of_cell? _ _ hw515_0; first | rwa [add_block] at this | exact this) GW523.out))) _).trans (((cell_far (p := ⟨gb523, _, none⟩) (by first | exact Nat.ne_of_lt (Nat.lt_of_lt_of_le (by have := World.block_lt_of_cell? _ _ hw515_0; first | rwa [add_block] at this | exact this) GW523.out) | (rw [add_block]; exact Nat.ne_of_lt (Nat.lt_of_lt_of_le (by have := World.block_lt_of_cell? _ _ hw515_0; first | rwa [add_block] at this | exact this) GW523.out)) | (show (Addr.add _ _).block ≠ _; rw [add_block]; exact Nat.ne_of_lt (Nat.lt_of_lt_of_le (by have := World.block_lt_of_cell? _ _ hw515_0; first | rwa [add_block] at this | exact this) GW523.out)) | (dsimp only; exact Nat.ne_of_lt (Nat.lt_of_lt_of_le (by have := World.block_lt_of_cell? _ _ hw515_0; first | rwa [add_block] at this | exact this) GW523.out))) _).trans (hHeld.2.2.2.2.2.2.1)))))))))))), ((cell_far (p := ⟨gb523, _, none⟩) (by first | exact Nat.ne_of_lt (Nat.lt_of_lt_of_le (by have := World.block_lt_of_cell? _ _ hw515_1; first | rwa [add_block] at this | exact this) GW523.out) | (rw [add_block]; exact Nat.ne_of_lt (Nat.lt_of_lt_of_le (by have := World.block_lt_of_cell? _ _ hw515_1; first | rwa [add_block] at this | exact this) GW523.out)) | (show (Addr.add _ _).block ≠ _; rw [add_block]; exact Nat.ne_of_lt (Nat.lt_of_lt_of_le (by have := World.block_lt_of_cell? _ _ hw515_1; first | rwa [add_block] at this | exact this) GW523.out)) | (dsimp only; exact Nat.ne_of_lt (Nat.lt_of_lt_of_le (by have := World.block_lt_of_cell? _ _ hw515_1; first | rwa [add_block] at this | exact this) GW523.out))) _).trans (((cell_far (p := ⟨gb523, _, none⟩) (by first | exact Nat.ne_of_lt (Nat.lt_of_lt_of_le (by have := World.block_lt_of_cell? _ _ hw515_1; first | rwa [add_block] at this | exact this) GW523.out) | (rw [add_block]; exact Nat.ne_of_lt (Nat.lt_of_lt_of_le (by have := World.block_lt_of_cell? _ _ hw515_1; first | rwa [add_block] at this | exact this) GW523.out)) | (show (Addr.add _ _).block ≠ _; rw [add_block]; exact Nat.ne_of_lt (Nat.lt_of_lt_of_le (by have := World.block_lt_of_cell? _ _ hw515_1; first | rwa [add_block] at this | exact this) GW523.out)) | (dsimp only; exact Nat.ne_of_lt (Nat.lt_of_lt_of_le (by have := World.block_lt_of_cell? _ _ hw515_1; first | rwa [add_block] at this | exact this) GW523.out))) _).trans (((cell_far (p := ⟨gb523, _, none⟩) (by first | exact Nat.ne_of_lt (Nat.lt_of_lt_of_le (by have := World.block_lt_of_cell? _ _ hw515_1; first | rwa [add_block] at this | exact this) GW523.out) | (rw [add_block]; exact Nat.ne_of_lt (Nat.lt_of_lt_of_le (by have := World.block_lt_of_cell? _ _ hw515_1; first | rwa [add_block] at this | exact this) GW523.out)) | (show (Addr.add _ _).block ≠ _; rw [add_block]; exact Nat.ne_of_lt (Nat.lt_of_lt_of_le (by have := World.block_lt_of_cell? _ _ hw515_1; first | rwa [add_block] at this | exact this) GW523.out)) | (dsimp only; exact Nat.ne_of_lt (Nat.lt_of_lt_of_le (by have := World.block_lt_of_cell? _ _ hw515_1; first | rwa [add_block] at this | exact this) GW523.out))) _).trans (((cell_far (p := ⟨gb523, _, none⟩) (by first | exact Nat.ne_of_lt (Nat.lt_of_lt_of_le (by have := World.block_lt_of_cell? _ _ hw515_1; first | rwa [add_block] at this | exact this) GW523.out) | (rw [add_block]; exact Nat.ne_of_lt (Nat.lt_of_lt_of_le (by have := World.block_lt_of_cell? _ _ hw515_1; first | rwa [add_block] at this | exact this) GW523.out)) | (show (Addr.add _ _).block ≠ _; rw [add_block]; exact Nat.ne_of_lt (Nat.lt_of_lt_of_le (by have := World.block_lt_of_cell? _ _ hw515_1; first | rwa [add_block] at this | exact this) GW523.out)) | (dsimp only; exact Nat.ne_of_lt (Nat.lt_of_lt_of_le (by have := World.block_lt_of_cell? _ _ hw515_1; first | rwa [add_block] at this | exact this) GW523.out))) _).trans (((cell_far (p := ⟨gb523, _, none⟩) (by first | exact Nat.ne_of_lt (Nat.lt_of_lt_of_le (by have := World.block_lt_of_cell? _ _ hw515_1; first | rwa [add_block] at this | exact this) GW523.out) | (rw [add_block]; exact Nat.ne_of_lt (Nat.lt_of_lt_of_le (by have := World.block_lt_of_cell? _ _ hw515_1; first | rwa [add_block] at this | exact this) GW523.out)) | (show (Addr.add _ _).block ≠ _; rw [add_block]; exact Nat.ne_of_lt (Nat.lt_of_lt_of_le (by have := World.block_lt_of_cell? _ _ hw515_1; first | rwa [add_block] at this | exact this) GW523.out)) | (dsimp only; exact Nat.ne_of_lt (Nat.lt_of_lt_of_le (by have := World.block_lt_of_cell? _ _ hw515_1; first | rwa [add_block] at this | exact this) GW523.out))) _).trans (((cell_far (p := ⟨gb523, _, none⟩) (by first | exact Nat.ne_of_lt (Nat.lt_of_lt_of_le (by have := World.block_lt_of_cell? _ _ hw515_1; first | rwa [add_block] at this | exact this) GW523.out) | (rw [add_block]; exact Nat.ne_of_lt (Nat.lt_of_lt_of_le (by have := World.block_lt_of_cell? _ _ hw515_1; first | rwa [add_block] at this | exact this) GW523.out)) | (show (Addr.add _ _).block ≠ _; rw [add_block]; exact Nat.ne_of_lt (Nat.lt_of_lt_of_le (by have := World.block_lt_of_cell? _ _ hw515_1; first | rwa [add_block] at this | exact this) GW523.out)) | (dsimp only; exact Nat.ne_of_lt (Nat.lt_of_lt_of_le (by have := World.block_lt_of_cell? _ _ hw515_1; first | rwa [add_block] at this | exact this) GW523.out))) _).trans (hHeld.2.2.2.2.2.2.2))))))))))))⟩ (fun hHeld => ?_)
       clear hK K
       refine pa_ 12 (some 11) (bl_ 13 8191) HT_ ?_
       refine done_ (done_of HT_.out (by kernel_rfl)) ?_
       try go_wp2
       go_ret2
       exact ⟨_, by first | rfl | (simp [errW_none, errW_some] <;> rfl) | (simp [*, errW_none, errW_some] <;> rfl), by first | exact Kd.R_nil _ _ _ _ _ | exact Kd.N_nil _ _ _ _ _ | exact Kd.V_nil _ _ _ _ _ | exact Kd.Q_nil _ _ _ _ _ | exact Kd.S_nil _ _ _ _ _, by repeat (first | (with_reducible first | exact HB.out | apply below_alloc | apply pw_below_drewN | apply below_drew1 | refine below_set ?_ GE505.out | refine below_set ?_ GE514.out | refine below_set ?_ GE523.out) | exact HB.out)⟩
     ·rw [if_neg c19] at H
      have c19b0 : decide (x9_1 < (l1.length : Int)) = false := decide_eq_false c19
      clear c19
      simp only [Option.some.injEq, Prod.mk.injEq] at H
      obtain ⟨rfl, rfl⟩ := H
      go_wp2
      go_ret2
      exact ⟨_, by first | rfl | (simp [errW_none, errW_some] <;> rfl) | (simp [*, errW_none, errW_some] <;> rfl), by (with_reducible repeat (first | apply Kd.R_alloc | apply Kd.R_drewN | apply Kd.R_drew)); exact HO_6.out, by repeat (first | (with_reducible first | exact HB.out | apply below_alloc | apply pw_below_drewN | apply below_drew1 | refine below_set ?_ GE505.out | refine below_set ?_ GE514.out) | exact HB.out)⟩
  ·rw [if_neg c7] at H
   have c7b0 : (t513 == 0) = false := beq_eq_false_iff_ne.mpr c7
   have c7b1 : (t513 != 0) = true := bne_iff_ne.mpr c7
   simp only [Option.some.injEq, Prod.mk.injEq] at H
   obtain ⟨rfl, rfl⟩ := H
   go_enter Try.func28, Try.ntmps28
   try go_wp2_with (first | ((with_reducible refine gate_dst (N := 2) rfl ?_); refine bx_ #[.int .i64 a0_0, .int .i64 a0_1, .int .i64 a0_2] 43 ?_; intro gb505 hg w121 BK505 hb; have GW505 := bz_ w hg; have GE505 := GW505; replace HB := bs_ w hb; clear hb hg))
   replace BK505 := Aside0.mk (blk_drew BK505.out)
   replace HB := Aside0.mk (below_drew1 HB.out)
   have p506 : 0 ≤ (0 : Int) := (by omega)
   have q506 : 0 < (l1.length : Int) := of_decide_eq_true (by first | (with_reducible assumption) | assumption)
   obtain ⟨ad506, e506, hx506_0, hx506_1⟩ := at_T58 HR1.out 0 p506 q506
   have hw506_1 := hx506_1
   (try rw [show ((0 : Int)).toNat = 0 from rfl] at hw506_1)
   (try rw [show 0 * 2 = 0 from rfl] at hw506_1)
   (try rw [Addr.add_zero'] at hw506_1)
   have hw506_0 := hx506_0
   (try rw [show ((0 : Int)).toNat = 0 from rfl] at hw506_0)
   (try rw [show 0 * 2 = 0 from rfl] at hw506_0)
   (try rw [Addr.add_zero'] at hw506_0)
   cases e506
   have qi506 : (0 < l1.length) = True := eq_true (by omega)
   (try rw [show ((0 : Int)).toNat = 0 from rfl] at hx506_0)
   (try rw [show 0 * 2 = 0 from rfl] at hx506_0)
   (try rw [Addr.add_zero'] at hx506_0)
   (try rw [show ((0 : Int)).toNat = 0 from rfl] at hx506_1)
   (try rw [show 0 * 2 = 0 from rfl] at hx506_1)
   (try rw [Addr.add_zero'] at hx506_1)
   replace hx506_0 := (HB.out.cell (World.block_lt_of_cell? w _ hx506_0)).trans hx506_0
   replace hx506_1 := (HB.out.cell (World.block_lt_of_cell? w _ hx506_1)).trans hx506_1
   replace p506 := eq_true p506
   replace q506 := eq_true q506
   refine start_ (n := 12) (S := fun w' => w'.cell? ⟨gb505, 0, none⟩ = some (.int .i64 a0_0) ∧ w'.cell? ⟨gb505, 1, none⟩ = some (.int .i64 a0_1) ∧ w'.cell? ⟨gb505, 2, none⟩ = some (.int .i64 a0_2) ∧ w'.cell? ad506 = some (.int .u64 ((rd_T58 l1 0).f0)) ∧ w'.cell? ⟨ad506.block, ad506.off + 1, none⟩ = some (.int .i64 ((rd_T58 l1 0).f1))) (ds := []) (bl_ 12 0) (by kernel_rfl) rfl (by kernel_rfl) ⟨(blk_cell BK505.out 0).trans rfl, (blk_cell BK505.out 1).trans rfl, (blk_cell BK505.out 2).trans rfl, ((HB.out.cell (World.block_lt_of_cell? w _ hw506_0)).trans hw506_0), ((HB.out.cell (World.block_lt_of_cell? w _ hw506_1)).trans hw506_1)⟩ (fun hHeld => ?_); refine with_tabW spigotlaw38_passes.tab4 spigotlaw38_passes.bits4 (fun HT_ HW_ => ?_)
   generalize w121.drew = w122 at BK505 HB hx506_0 hx506_1 hHeld ⊢
   refine pa_ 1 (some 19) (bl_ 12 2) HT_ ?_
   refine pa_ 2 (some 20) (bl_ 12 6) HT_ ?_
   refine pa_ 3 (some 21) (bl_ 12 14) HT_ ?_
   refine ta_ 0 (some 18) (bl_ 12 15) HT_ HW_ hHeld ?_
   refine ta_ 4 (some 22) (bl_ 12 31) HT_ HW_ hHeld ?_
   refine join_ (σ := Nat) 2 (bl_ 12 1023) (fun s_ => [(23, .tuple #[.agg #[.int .i64 t507, .int .i64 t508, .int .i64 t509, .int .i64 t510, .int .i64 t511, .int .u64 t512], .int .i64 t513]), (7, .pointer (some ⟨s_, 0, none⟩)), (17, .tuple #[.agg #[.int .i64 t507, .int .i64 t508, .int .i64 t509, .int .i64 t510, .int .i64 t511, .int .u64 t512], .int .i64 t513]), (24, .agg #[.int .i64 t507, .int .i64 t508, .int .i64 t509, .int .i64 t510, .int .i64 t511, .int .u64 t512]), (25, .int .i64 t513)]) (fun s_ w' => (w'.cell? ⟨gb505, 0, none⟩ = some (.int .i64 a0_0) ∧ w'.cell? ⟨gb505, 1, none⟩ = some (.int .i64 a0_1) ∧ w'.cell? ⟨gb505, 2, none⟩ = some (.int .i64 a0_2) ∧ w'.cell? ad506 = some (.int .u64 ((rd_T58 l1 0).f0)) ∧ w'.cell? ⟨ad506.block, ad506.off + 1, none⟩ = some (.int .i64 ((rd_T58 l1 0).f1))) ∧ (w'.heap[gb505]? = some (.cells #[.int .i64 a0_0, .int .i64 a0_1, .int .i64 a0_2] 43 (0, 0))) ∧ (w'.heap[s_]? = some (.cells #[.int .i64 0, .int .i64 0, .int .i64 0, .int .i64 0, .int .i64 0, .int .u64 0] 74 (0, 0))) ∧ (w.heap.size ≤ s_) ∧ (w.heap.size ≤ s_) ∧ (gb505 ≠ s_) ∧ (s_ ≠ gb505) ∧ (Below w.heap.size w w')) ?_ ?_
   rotate_left
   ·intro hCont
    refine tw_ 5 9 (some 23) (some 7) (bl_ 12 63) (bl_ 12 543) HT_ (fun K hK => ?_) fun K hK => ?_
    ·refine goesB_ Try.func42 #[.agg #[.int .i64 a0_0, .int .i64 a0_1, .int .i64 a0_2], .int .u64 ((rd_T58 l1 0).f0)] ?_
     with_reducible refine (bucket_Full.calls a0_0 a0_1 a0_2 ((rd_T58 l1 0).f0) t507 t508 t509 t510 t511 t512 t513 _ A6.out).mono ?_
     rintro e w123 ⟨rfl, hb⟩
     refine ⟨_, rfl, ?_⟩
     replace BK505 := bb_ BK505 hb
     replace HB := bs_ w hb
     clear hb
     refine hK.out _ _ ⟨(blk_cell BK505.out 0).trans rfl, (blk_cell BK505.out 1).trans rfl, (blk_cell BK505.out 2).trans rfl, ((HB.out.cell (World.block_lt_of_cell? w _ hw506_0)).trans hw506_0), ((HB.out.cell (World.block_lt_of_cell? w _ hw506_1)).trans hw506_1)⟩ (fun hHeld => ?_)
     clear hK K
     refine nm_ (some 23) ?_
     refine pa_ 6 (some 17) (bl_ 12 127) HT_ ?_
     refine pa_ 7 (some 24) (bl_ 12 255) HT_ ?_
     refine pa_ 8 (some 25) (bl_ 12 511) HT_ ?_
     refine oa_ 9 (some 7) (bl_ 12 1023) HT_ fun K hK => ?_
     refine bs2_ #[.int .i64 0, .int .i64 0, .int .i64 0, .int .i64 0, .int .i64 0, .int .u64 0] 74 ?_
     intro gb514 hg w124 BK514 hb
     have GW514 := bz_ w hg
     have GE514 := GW514
     have NB505_514 := bn_ BK505 hg
     have NB514_505 := bm_ BK505 hg
     replace BK505 := bb_ BK505 hb
     replace HB := bs_ w hb
     clear hb hg
     refine hK.out _ _ ⟨(blk_cell BK505.out 0).trans rfl, (blk_cell BK505.out 1).trans rfl, (blk_cell BK505.out 2).trans rfl, ((HB.out.cell (World.block_lt_of_cell? w _ hw506_0)).trans hw506_0), ((HB.out.cell (World.block_lt_of_cell? w _ hw506_1)).trans hw506_1)⟩ (fun hHeld => ?_)
     clear hK K
     refine nm_ (some 7) ?_
     exact no_ (hCont (gb514) _ ⟨hHeld, (bq_ BK505), (bq_ BK514), GW514.out, GE514.out, NB505_514.out, NB514_505.out, bh_⟩)
    ·refine bs2_ #[.int .i64 0, .int .i64 0, .int .i64 0, .int .i64 0, .int .i64 0, .int .u64 0] 74 ?_
     intro gb514 hg w123 BK514 hb
     have GW514 := bz_ w hg
     have GE514 := GW514
     have NB505_514 := bn_ BK505 hg
     have NB514_505 := bm_ BK505 hg
     replace BK505 := bb_ BK505 hb
     replace HB := bs_ w hb
     clear hb hg
     refine hK.out _ _ ⟨(blk_cell BK505.out 0).trans rfl, (blk_cell BK505.out 1).trans rfl, (blk_cell BK505.out 2).trans rfl, ((HB.out.cell (World.block_lt_of_cell? w _ hw506_0)).trans hw506_0), ((HB.out.cell (World.block_lt_of_cell? w _ hw506_1)).trans hw506_1)⟩ (fun hHeld => ?_)
     clear hK K
     refine nm_ (some 7) ?_
     refine oa_ 5 (some 23) (bl_ 12 575) HT_ fun K hK => ?_
     refine goesB_ Try.func42 #[.agg #[.int .i64 a0_0, .int .i64 a0_1, .int .i64 a0_2], .int .u64 ((rd_T58 l1 0).f0)] ?_
     with_reducible refine (bucket_Full.calls a0_0 a0_1 a0_2 ((rd_T58 l1 0).f0) t507 t508 t509 t510 t511 t512 t513 _ A6.out).mono ?_
     rintro e w124 ⟨rfl, hb⟩
     refine ⟨_, rfl, ?_⟩
     replace BK505 := bb_ BK505 hb
     replace BK514 := bb_ BK514 hb
     replace HB := bs_ w hb
     clear hb
     refine hK.out _ _ ⟨(blk_cell BK505.out 0).trans rfl, (blk_cell BK505.out 1).trans rfl, (blk_cell BK505.out 2).trans rfl, ((HB.out.cell (World.block_lt_of_cell? w _ hw506_0)).trans hw506_0), ((HB.out.cell (World.block_lt_of_cell? w _ hw506_1)).trans hw506_1)⟩ (fun hHeld => ?_)
     clear hK K
     refine nm_ (some 23) ?_
     refine pa_ 6 (some 17) (bl_ 12 639) HT_ ?_
     refine pa_ 7 (some 24) (bl_ 12 767) HT_ ?_
     refine pa_ 8 (some 25) (bl_ 12 1023) HT_ ?_
     exact no_ (hCont (gb514) _ ⟨hHeld, (bq_ BK505), (bq_ BK514), GW514.out, GE514.out, NB505_514.out, NB514_505.out, bh_⟩)
   rintro gb514 w125 ⟨hS_, h0_, h1_, h2_, h3_, h4_, h5_, h6_⟩
   have BK514 := Aside0.mk h1_
   have GW514 := Aside0.mk h2_
   have GE514 := Aside0.mk h3_
   have NB505_514 := Aside0.mk h4_
   have NB514_505 := Aside0.mk h5_
   replace BK505 := Aside0.mk h0_
   replace HB := Aside0.mk h6_
   clear h0_ h1_ h2_ h3_ h4_ h5_ h6_
   have hHeld := hS_
   refine nq_ ?_
   refine oa_ 10 none (bl_ 12 2047) HT_ fun K hK => ?_
   have hs126 : w125.cell? ⟨gb514, 0, none⟩ = some (.int .i64 0) := (blk_cell BK514.out 0).trans rfl
   have hfs126 := blk_frozen BK514.out 0
   have hns126_0 := NB505_514.out
   have hms126_0 := NB514_505.out
   have hs127 : w125.cell? ⟨gb514, 1, none⟩ = some (.int .i64 0) := (blk_cell BK514.out 1).trans rfl
   have hfs127 := blk_frozen BK514.out 1
   have hns127_0 := NB505_514.out
   have hms127_0 := NB514_505.out
   have hs128 : w125.cell? ⟨gb514, 2, none⟩ = some (.int .i64 0) := (blk_cell BK514.out 2).trans rfl
   have hfs128 := blk_frozen BK514.out 2
   have hns128_0 := NB505_514.out
   have hms128_0 := NB514_505.out
   have hs129 : w125.cell? ⟨gb514, 3, none⟩ = some (.int .i64 0) := (blk_cell BK514.out 3).trans rfl
   have hfs129 := blk_frozen BK514.out 3
   have hns129_0 := NB505_514.out
   have hms129_0 := NB514_505.out
   have hs130 : w125.cell? ⟨gb514, 4, none⟩ = some (.int .i64 0) := (blk_cell BK514.out 4).trans rfl
   have hfs130 := blk_frozen BK514.out 4
   have hns130_0 := NB505_514.out
   have hms130_0 := NB514_505.out
   have hs131 : w125.cell? ⟨gb514, 5, none⟩ = some (.int .u64 0) := (blk_cell BK514.out 5).trans rfl
   have hfs131 := blk_frozen BK514.out 5
   have hns131_0 := NB505_514.out
   have hms131_0 := NB514_505.out
   refine sk_ ?_
   refine hK.out _ _ ⟨((cell_far (p := ⟨gb514, _, none⟩) NB505_514.out _).trans (((cell_far (p := ⟨gb514, _, none⟩) NB505_514.out _).trans (((cell_far (p := ⟨gb514, _, none⟩) NB505_514.out _).trans (((cell_far (p := ⟨gb514, _, none⟩) NB505_514.out _).trans (((cell_far (p := ⟨gb514, _, none⟩) NB505_514.out _).trans (((cell_far (p := ⟨gb514, _, none⟩) NB505_514.out _).trans (hHeld.1)))))))))))), ((cell_far (p := ⟨gb514, _, none⟩) NB505_514.out _).trans (((cell_far (p := ⟨gb514, _, none⟩) NB505_514.out _).trans (((cell_far (p := ⟨gb514, _, none⟩) NB505_514.out _).trans (((cell_far (p := ⟨gb514, _, none⟩) NB505_514.out _).trans (((cell_far (p := ⟨gb514, _, none⟩) NB505_514.out _).trans (((cell_far (p := ⟨gb514, _, none⟩) NB505_514.out _).trans (hHeld.2.1)))))))))))), ((cell_far (p := ⟨gb514, _, none⟩) NB505_514.out _).trans (((cell_far (p := ⟨gb514, _, none⟩) NB505_514.out _).trans (((cell_far (p := ⟨gb514, _, none⟩) NB505_514.out _).trans (((cell_far (p := ⟨gb514, _, none⟩) NB505_514.out _).trans (((cell_far (p := ⟨gb514, _, none⟩) NB505_514.out _).trans (((cell_far (p := ⟨gb514, _, none⟩) NB505_514.out _).trans (hHeld.2.2.1)))))))))))), ((cell_far (p := ⟨gb514, _, none⟩) (by first | exact Nat.ne_of_lt (Nat.lt_of_lt_of_le (by have := World.block_lt_of_cell? _ _ hw506_0; first | rwa [add_block] at this | exact this) GW514.out) | (rw [add_block]; exact Nat.ne_of_lt (Nat.lt_of_lt_of_le (by have := World.block_lt_of_cell? _ _ hw506_0; first | rwa [add_block] at this | exact this) GW514.out)) | (show (Addr.add _ _).block ≠ _; rw [add_block]; exact Nat.ne_of_lt (Nat.lt_of_lt_of_le (by have := World.block_lt_of_cell? _ _ hw506_0; first | rwa [add_block] at this | exact this) GW514.out)) | (dsimp only; exact Nat.ne_of_lt (Nat.lt_of_lt_of_le (by have := World.block_lt_of_cell? _ _ hw506_0; first | rwa [add_block] at this | exact this) GW514.out))) _).trans (((cell_far (p := ⟨gb514, _, none⟩) (by first | exact Nat.ne_of_lt (Nat.lt_of_lt_of_le (by have := World.block_lt_of_cell? _ _ hw506_0; first | rwa [add_block] at this | exact this) GW514.out) | (rw [add_block]; exact Nat.ne_of_lt (Nat.lt_of_lt_of_le (by have := World.block_lt_of_cell? _ _ hw506_0; first | rwa [add_block] at this | exact this) GW514.out)) | (show (Addr.add _ _).block ≠ _; rw [add_block]; exact Nat.ne_of_lt (Nat.lt_of_lt_of_le (by have := World.block_lt_of_cell? _ _ hw506_0; first | rwa [add_block] at this | exact this) GW514.out)) | (dsimp only; exact Nat.ne_of_lt (Nat.lt_of_lt_of_le (by have := World.block_lt_of_cell? _ _ hw506_0; first | rwa [add_block] at this | exact this) GW514.out))) _).trans (((cell_far (p := ⟨gb514, _, none⟩) (by first | exact Nat.ne_of_lt (Nat.lt_of_lt_of_le (by have := World.block_lt_of_cell? _ _ hw506_0; first | rwa [add_block] at this | exact this) GW514.out) | (rw [add_block]; exact Nat.ne_of_lt (Nat.lt_of_lt_of_le (by have := World.block_lt_of_cell? _ _ hw506_0; first | rwa [add_block] at this | exact this) GW514.out)) | (show (Addr.add _ _).block ≠ _; rw [add_block]; exact Nat.ne_of_lt (Nat.lt_of_lt_of_le (by have := World.block_lt_of_cell? _ _ hw506_0; first | rwa [add_block] at this | exact this) GW514.out)) | (dsimp only; exact Nat.ne_of_lt (Nat.lt_of_lt_of_le (by have := World.block_lt_of_cell? _ _ hw506_0; first | rwa [add_block] at this | exact this) GW514.out))) _).trans (((cell_far (p := ⟨gb514, _, none⟩) (by first | exact Nat.ne_of_lt (Nat.lt_of_lt_of_le (by have := World.block_lt_of_cell? _ _ hw506_0; first | rwa [add_block] at this | exact this) GW514.out) | (rw [add_block]; exact Nat.ne_of_lt (Nat.lt_of_lt_of_le (by have := World.block_lt_of_cell? _ _ hw506_0; first | rwa [add_block] at this | exact this) GW514.out)) | (show (Addr.add _ _).block ≠ _; rw [add_block]; exact Nat.ne_of_lt (Nat.lt_of_lt_of_le (by have := World.block_lt_of_cell? _ _ hw506_0; first | rwa [add_block] at this | exact this) GW514.out)) | (dsimp only; exact Nat.ne_of_lt (Nat.lt_of_lt_of_le (by have := World.block_lt_of_cell? _ _ hw506_0; first | rwa [add_block] at this | exact this) GW514.out))) _).trans (((cell_far (p := ⟨gb514, _, none⟩) (by first | exact Nat.ne_of_lt (Nat.lt_of_lt_of_le (by have := World.block_lt_of_cell? _ _ hw506_0; first | rwa [add_block] at this | exact this) GW514.out) | (rw [add_block]; exact Nat.ne_of_lt (Nat.lt_of_lt_of_le (by have := World.block_lt_of_cell? _ _ hw506_0; first | rwa [add_block] at this | exact this) GW514.out)) | (show (Addr.add _ _).block ≠ _; rw [add_block]; exact Nat.ne_of_lt (Nat.lt_of_lt_of_le (by have := World.block_lt_of_cell? _ _ hw506_0; first | rwa [add_block] at this | exact this) GW514.out)) | (dsimp only; exact Nat.ne_of_lt (Nat.lt_of_lt_of_le (by have := World.block_lt_of_cell? _ _ hw506_0; first | rwa [add_block] at this | exact this) GW514.out))) _).trans (((cell_far (p := ⟨gb514, _, none⟩) (by first | exact Nat.ne_of_lt (Nat.lt_of_lt_of_le (by have := World.block_lt_of_cell? _ _ hw506_0; first | rwa [add_block] at this | exact this) GW514.out) | (rw [add_block]; exact Nat.ne_of_lt (Nat.lt_of_lt_of_le (by have := World.block_lt_of_cell? _ _ hw506_0; first | rwa [add_block] at this | exact this) GW514.out)) | (show (Addr.add _ _).block ≠ _; rw [add_block]; exact Nat.ne_of_lt (Nat.lt_of_lt_of_le (by have := World.block_lt_of_cell? _ _ hw506_0; first | rwa [add_block] at this | exact this) GW514.out)) | (dsimp only; exact Nat.ne_of_lt (Nat.lt_of_lt_of_le (by have := World.block_lt_of_cell? _ _ hw506_0; first | rwa [add_block] at this | exact this) GW514.out))) _).trans (hHeld.2.2.2.1)))))))))))), ((cell_far (p := ⟨gb514, _, none⟩) (by first | exact Nat.ne_of_lt (Nat.lt_of_lt_of_le (by have := World.block_lt_of_cell? _ _ hw506_1; first | rwa [add_block] at this | exact this) GW514.out) | (rw [add_block]; exact Nat.ne_of_lt (Nat.lt_of_lt_of_le (by have := World.block_lt_of_cell? _ _ hw506_1; first | rwa [add_block] at this | exact this) GW514.out)) | (show (Addr.add _ _).block ≠ _; rw [add_block]; exact Nat.ne_of_lt (Nat.lt_of_lt_of_le (by have := World.block_lt_of_cell? _ _ hw506_1; first | rwa [add_block] at this | exact this) GW514.out)) | (dsimp only; exact Nat.ne_of_lt (Nat.lt_of_lt_of_le (by have := World.block_lt_of_cell? _ _ hw506_1; first | rwa [add_block] at this | exact this) GW514.out))) _).trans (((cell_far (p := ⟨gb514, _, none⟩) (by first | exact Nat.ne_of_lt (Nat.lt_of_lt_of_le (by have := World.block_lt_of_cell? _ _ hw506_1; first | rwa [add_block] at this | exact this) GW514.out) | (rw [add_block]; exact Nat.ne_of_lt (Nat.lt_of_lt_of_le (by have := World.block_lt_of_cell? _ _ hw506_1; first | rwa [add_block] at this | exact this) GW514.out)) | (show (Addr.add _ _).block ≠ _; rw [add_block]; exact Nat.ne_of_lt (Nat.lt_of_lt_of_le (by have := World.block_lt_of_cell? _ _ hw506_1; first | rwa [add_block] at this | exact this) GW514.out)) | (dsimp only; exact Nat.ne_of_lt (Nat.lt_of_lt_of_le (by have := World.block_lt_of_cell? _ _ hw506_1; first | rwa [add_block] at this | exact this) GW514.out))) _).trans (((cell_far (p := ⟨gb514, _, none⟩) (by first | exact Nat.ne_of_lt (Nat.lt_of_lt_of_le (by have := World.block_lt_of_cell? _ _ hw506_1; first | rwa [add_block] at this | exact this) GW514.out) | (rw [add_block]; exact Nat.ne_of_lt (Nat.lt_of_lt_of_le (by have := World.block_lt_of_cell? _ _ hw506_1; first | rwa [add_block] at this | exact this) GW514.out)) | (show (Addr.add _ _).block ≠ _; rw [add_block]; exact Nat.ne_of_lt (Nat.lt_of_lt_of_le (by have := World.block_lt_of_cell? _ _ hw506_1; first | rwa [add_block] at this | exact this) GW514.out)) | (dsimp only; exact Nat.ne_of_lt (Nat.lt_of_lt_of_le (by have := World.block_lt_of_cell? _ _ hw506_1; first | rwa [add_block] at this | exact this) GW514.out))) _).trans (((cell_far (p := ⟨gb514, _, none⟩) (by first | exact Nat.ne_of_lt (Nat.lt_of_lt_of_le (by have := World.block_lt_of_cell? _ _ hw506_1; first | rwa [add_block] at this | exact this) GW514.out) | (rw [add_block]; exact Nat.ne_of_lt (Nat.lt_of_lt_of_le (by have := World.block_lt_of_cell? _ _ hw506_1; first | rwa [add_block] at this | exact this) GW514.out)) | (show (Addr.add _ _).block ≠ _; rw [add_block]; exact Nat.ne_of_lt (Nat.lt_of_lt_of_le (by have := World.block_lt_of_cell? _ _ hw506_1; first | rwa [add_block] at this | exact this) GW514.out)) | (dsimp only; exact Nat.ne_of_lt (Nat.lt_of_lt_of_le (by have := World.block_lt_of_cell? _ _ hw506_1; first | rwa [add_block] at this | exact this) GW514.out))) _).trans (((cell_far (p := ⟨gb514, _, none⟩) (by first | exact Nat.ne_of_lt (Nat.lt_of_lt_of_le (by have := World.block_lt_of_cell? _ _ hw506_1; first | rwa [add_block] at this | exact this) GW514.out) | (rw [add_block]; exact Nat.ne_of_lt (Nat.lt_of_lt_of_le (by have := World.block_lt_of_cell? _ _ hw506_1; first | rwa [add_block] at this | exact this) GW514.out)) | (show (Addr.add _ _).block ≠ _; rw [add_block]; exact Nat.ne_of_lt (Nat.lt_of_lt_of_le (by have := World.block_lt_of_cell? _ _ hw506_1; first | rwa [add_block] at this | exact this) GW514.out)) | (dsimp only; exact Nat.ne_of_lt (Nat.lt_of_lt_of_le (by have := World.block_lt_of_cell? _ _ hw506_1; first | rwa [add_block] at this | exact this) GW514.out))) _).trans (((cell_far (p := ⟨gb514, _, none⟩) (by first | exact Nat.ne_of_lt (Nat.lt_of_lt_of_le (by have := World.block_lt_of_cell? _ _ hw506_1; first | rwa [add_block] at this | exact this) GW514.out) | (rw [add_block]; exact Nat.ne_of_lt (Nat.lt_of_lt_of_le (by have := World.block_lt_of_cell? _ _ hw506_1; first | rwa [add_block] at this | exact this) GW514.out)) | (show (Addr.add _ _).block ≠ _; rw [add_block]; exact Nat.ne_of_lt (Nat.lt_of_lt_of_le (by have := World.block_lt_of_cell? _ _ hw506_1; first | rwa [add_block] at this | exact this) GW514.out)) | (dsimp only; exact Nat.ne_of_lt (Nat.lt_of_lt_of_le (by have := World.block_lt_of_cell? _ _ hw506_1; first | rwa [add_block] at this | exact this) GW514.out))) _).trans (hHeld.2.2.2.2))))))))))))⟩ (fun hHeld => ?_)
   clear hK K
   refine pa_ 11 (some 8) (bl_ 12 4095) HT_ ?_
   refine done_ (done_of HT_.out (by kernel_rfl)) ?_
   try go_wp2
   go_ret2
   exact ⟨_, by first | rfl | (simp [errW_none, errW_some] <;> rfl) | (simp [*, errW_none, errW_some] <;> rfl), by first | exact Kd.R_nil _ _ _ _ _ | exact Kd.N_nil _ _ _ _ _ | exact Kd.V_nil _ _ _ _ _ | exact Kd.Q_nil _ _ _ _ _ | exact Kd.S_nil _ _ _ _ _, by repeat (first | (with_reducible first | exact HB.out | apply below_alloc | apply pw_below_drewN | apply below_drew1 | refine below_set ?_ GE505.out | refine below_set ?_ GE514.out) | exact HB.out)⟩

end Go.Proofs.Ytjjmnafhaneflaa.X
