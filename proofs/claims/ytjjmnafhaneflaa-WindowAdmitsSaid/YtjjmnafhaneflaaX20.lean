-- written by xprint.py, a program of this session over the kit's print
import Derived.Test.YtjjmnafhaneflaaX0
import Derived.Test.YtjjmnafhaneflaaX11
namespace Go.Proofs.Ytjjmnafhaneflaa.X
open Go.RowKit Go.Proofs.YtjjmnafhaneflaaW.PrintWords Go.Proofs.YtjjmnafhaneflaaW.PrintLast Go.Proofs.YtjjmnafhaneflaaW.PrintMore
attribute [local go_sem] max2_int min2_int max_two min_two max_three min_three max_four min_four   -- for this text's walks alone
set_option linter.unusedVariables false
set_option linter.unusedSimpArgs false

/-! ### spigotref38_Fixed: function 16 -/
mutual
def spigotref38_Fixed.l0 : Nat → List (S58) → List (S58) → Int → Int → Int → Option ((List (S58)) × Int)
  | 0, _, _, _, _, _ => none
  | k + 1, x1, x7, x8, x192000, x192001 => if x8 < (x1.length : Int) then (if 0 ≤ x8 then (spigotref38_Fixed.l1 k x1 x7 x8 ((rd_T58 x1 x8).f1) 0 x192000 x192001) else (none)) else (some (x7, 0))
def spigotref38_Fixed.l1 : Nat → List (S58) → List (S58) → Int → Int → Int → Int → Int → Option ((List (S58)) × Int)
  | 0, _, _, _, _, _, _, _ => none
  | k + 1, x1, x7, x8, x9, x10, x192000, x192001 => if x10 < (x7.length : Int) then (if 0 ≤ x10 then ((spigotref38_Begin.f x192000 x192001 ((rd_T58 x7 x10).f0)).bind fun t199 => (if 0 ≤ x8 then (if x8 < (x1.length : Int) then ((spigotref38_Begin.f x192000 x192001 ((rd_T58 x1 x8).f0)).bind fun t201 => (if t199 = t201 then (spigotref38_Fixed.l1 k x1 x7 x8 (wrap64 (x9 + ((rd_T58 x7 x10).f1))) (wrap64 (x10 + 1)) x192000 x192001) else (spigotref38_Fixed.l1 k x1 x7 x8 x9 (wrap64 (x10 + 1)) x192000 x192001))) else (none)) else (none))) else (none)) else (if x9 ≤ x192000 then (if 0 ≤ x8 then (if x8 < (x1.length : Int) then (if x7.length < 8796093022208 then (spigotref38_Fixed.l0 k x1 (x7 ++ [(⟨(rd_T58 x1 x8).f0, (rd_T58 x1 x8).f1⟩ : S58)]) (wrap64 (x8 + 1)) x192000 x192001) else (none)) else (none)) else (none)) else (spigotref38_Fixed.l0 k x1 x7 (wrap64 (x8 + 1)) x192000 x192001))
end
def spigotref38_Fixed.f (k : Nat) (a0_0 : Int) (a0_1 : Int) (l1 : List (S58)) : Option ((List (S58)) × Int) := (spigotref38_both.f k a0_0 a0_1 l1).bind fun t192 => (if t192 = 0 then (spigotref38_Fixed.l0 k l1 ([] : List (S58)) 0 a0_0 a0_1) else (some (([] : List (S58)), t192)))
theorem spigotref38_Fixed.mono_l : ∀ k, (∀ y0 y1 y2 y3 y4, LeO (spigotref38_Fixed.l0 k y0 y1 y2 y3 y4) (spigotref38_Fixed.l0 (k + 1) y0 y1 y2 y3 y4)) ∧ (∀ y0 y1 y2 y3 y4 y5 y6, LeO (spigotref38_Fixed.l1 k y0 y1 y2 y3 y4 y5 y6) (spigotref38_Fixed.l1 (k + 1) y0 y1 y2 y3 y4 y5 y6))
  | 0 => ⟨fun _ _ _ _ _ r h => by simp [spigotref38_Fixed.l0] at h, fun _ _ _ _ _ _ _ r h => by simp [spigotref38_Fixed.l1] at h⟩
  | k + 1 => by
    obtain ⟨ih0, ih1⟩ := spigotref38_Fixed.mono_l k
    refine ⟨?_, ?_⟩
    · intro y0 y1 y2 y3 y4
      unfold spigotref38_Fixed.l0
      repeat' first
      | (with_reducible exact ih0 _ _ _ _ _)
      | (with_reducible exact ih1 _ _ _ _ _ _ _)
      | (with_reducible exact spigotref38_both.mono _ _ _ _)
      | (with_reducible exact LeO.refl _)
      | (with_reducible exact LeO.none _)
      | (with_reducible refine LeO.ite ?_ ?_)
      | (with_reducible refine LeO.bind ?_ (fun _ => ?_))
      | exact ih0 _ _ _ _ _
      | exact ih1 _ _ _ _ _ _ _
      | exact spigotref38_both.mono _ _ _ _
      | exact LeO.none _
      | refine LeO.ite ?_ ?_
      | refine LeO.bind ?_ (fun _ => ?_)
    · intro y0 y1 y2 y3 y4 y5 y6
      unfold spigotref38_Fixed.l1
      repeat' first
      | (with_reducible exact ih0 _ _ _ _ _)
      | (with_reducible exact ih1 _ _ _ _ _ _ _)
      | (with_reducible exact spigotref38_both.mono _ _ _ _)
      | (with_reducible exact LeO.refl _)
      | (with_reducible exact LeO.none _)
      | (with_reducible refine LeO.ite ?_ ?_)
      | (with_reducible refine LeO.bind ?_ (fun _ => ?_))
      | exact ih0 _ _ _ _ _
      | exact ih1 _ _ _ _ _ _ _
      | exact spigotref38_both.mono _ _ _ _
      | exact LeO.none _
      | refine LeO.ite ?_ ?_
      | refine LeO.bind ?_ (fun _ => ?_)
theorem spigotref38_Fixed.mono : ∀ a0 a1 a2 k, LeO (spigotref38_Fixed.f k a0 a1 a2) (spigotref38_Fixed.f (k + 1) a0 a1 a2) := by
  intro a0 a1 a2 k
  obtain ⟨ih0, ih1⟩ := spigotref38_Fixed.mono_l k
  unfold spigotref38_Fixed.f
  repeat' first
      | (with_reducible exact ih0 _ _ _ _ _)
      | (with_reducible exact ih1 _ _ _ _ _ _ _)
      | (with_reducible exact spigotref38_both.mono _ _ _ _)
      | (with_reducible exact LeO.refl _)
      | (with_reducible exact LeO.none _)
      | (with_reducible refine LeO.ite ?_ ?_)
      | (with_reducible refine LeO.bind ?_ (fun _ => ?_))
      | exact ih0 _ _ _ _ _
      | exact ih1 _ _ _ _ _ _ _
      | exact spigotref38_both.mono _ _ _ _
      | exact LeO.none _
      | refine LeO.ite ?_ ?_
      | refine LeO.bind ?_ (fun _ => ?_)
def spigotref38_Fixed.T12 : Bool × List (List Nat × List Nat) := (true, [([], []), ([], []), ([], []), ([1, 2], [1, 2]), ([3], [3]), ([4], [4]), ([0, 5], [0, 5]), ([], []), ([], []), ([], []), ([8, 9], [8, 9]), ([10], [10]), ([11], [11]), ([7, 12, 6], [7, 12]), ([6, 13], [6, 13])])
def spigotref38_Fixed.B12 : List Nat := [0, 0, 0, 6, 14, 30, 63, 0, 0, 0, 768, 1792, 3840, 8191, 16383]
theorem spigotref38_Fixed.tab12 : rtab .any (opsOf Try.f16 12) = spigotref38_Fixed.T12 := by kernel_rfl
theorem spigotref38_Fixed.bits12 : waitsOk spigotref38_Fixed.T12.2 spigotref38_Fixed.B12 = true := by kernel_rfl
set_option maxHeartbeats 8000000 in
set_option maxRecDepth 100000 in
theorem spigotref38_Fixed.calls (k : Nat) (a0_0 : Int) (a0_1 : Int) (A1 : Option Addr) (c1 : Nat) (l1 : List (S58)) (r1 : List (S58)) (r2 : Int) (w : World) (hr1 : Kd.C k58 w A1 l1.length l1) (hc1 : l1.length ≤ c1) (h : spigotref38_Fixed.f k a0_0 a0_1 l1 = some (r1, r2)) :
  Calls Try.prog 16 #[.agg #[.int .i64 a0_0, .int .i64 a0_1], .slice A1 l1.length c1] w fun e w' => ∃ v0_ : Value, e = .returned (.tuple #[v0_, .int .i64 r2]) ∧ Kd.R k58 58 w' w.heap.size (fun _ => True) v0_ r1 ∧ Below w.heap.size w w' := by
 have hu23 := Try.underlying23
 have hu58 := Try.underlying58
 have HR1 := Aside0.mk hr1
 have HC1 := Aside0.mk hc1
 clear hr1 hc1
 have HB := Aside0.mk (Below.refl w.heap.size w)
 have H : ((spigotref38_both.f k a0_0 a0_1 l1).bind fun t192 => (if t192 = 0 then (spigotref38_Fixed.l0 k l1 ([] : List (S58)) 0 a0_0 a0_1) else (some (([] : List (S58)), t192)))) = some (r1, r2) := h
 clear h
 obtain ⟨t192, A3, H⟩ := bo_ H
 replace H : (if t192 = 0 then (spigotref38_Fixed.l0 k l1 ([] : List (S58)) 0 a0_0 a0_1) else (some (([] : List (S58)), t192))) = some (r1, r2) := H
 by_cases c4 : t192 = 0
 ·rw [if_pos c4] at H
  have c4b0 : (t192 == 0) = true := beq_iff_eq.mpr c4
  have c4b1 : (t192 != 0) = false := bne_eq_false_iff_eq.mpr c4
  clear c4
  have H' := Aside0.mk H
  clear H
  go_enter Try.func16, Try.ntmps16
  go_wp2_with (first | ((with_reducible refine gate_dst (N := 2) rfl ?_); refine bx_ #[.int .i64 a0_0, .int .i64 a0_1] 23 ?_; intro gb191 hg w5 BK191 hb; have GW191 := bz_ w hg; have GE191 := GW191; replace HB := bs_ w hb; clear hb hg; replace hc191 := ce2_ BK191) | ((with_reducible refine gate_callee (f := 31) rfl ?_); refine goesA_ (some 13) Try.func31 #[.agg #[.int .i64 a0_0, .int .i64 a0_1], .slice A1 l1.length c1] ?_; (with_reducible refine (spigotref38_both.calls k a0_0 a0_1 _ _ l1 t192 _ ?side1 ?side2 A3.out).mono ?_); (case side1 => exact cs_ HR1 HB); (case side2 => exact HC1.out); rintro e w7 ⟨rfl, hb⟩; refine ⟨_, rfl, ?_⟩; replace BK191 := bb_ BK191 hb; replace HB := bs_ w hb; clear hb))
  go_loopg [7, 8] k (fun kq v7 v8 w' => ∃ (x7_1 : List (S58)) (x8_1 : Int), v8 = .int .i64 x8_1 ∧ Aside0 (spigotref38_Fixed.l0 kq l1 x7_1 x8_1 a0_0 a0_1 = some (r1, r2)) ∧ Aside0 (kq ≤ k) ∧ Aside0 (Kd.R k58 58 w' w.heap.size (fun _ => True) v7 x7_1) ∧ Aside0 (w'.heap[gb191]? = some (.cells #[.int .i64 a0_0, .int .i64 a0_1] 23 (0, 0))) ∧ Aside0 (Below w.heap.size w w'))
  case atStart => exact ⟨(([] : List (S58))), (0), rf_, H', ⟨Nat.le_refl _⟩, ⟨by first | exact Kd.R_nil _ _ _ _ _ | exact Kd.N_nil _ _ _ _ _ | exact Kd.V_nil _ _ _ _ _ | exact Kd.Q_nil _ _ _ _ _ | exact Kd.S_nil _ _ _ _ _⟩, ⟨bq_ BK191⟩, bw_⟩
  case round =>
   clear H'
   try clear c1
   try clear c4
   try clear c4b0
   try clear c4b1
   obtain ⟨x7_1, x8_1, rfl, HA, HK1, HO_7, BK191, HB⟩ := hrel
   cases gk with
   | zero => exact absurd HA.out (by simp [spigotref38_Fixed.l0])
   | succ k1 =>
    have H := HA.out
    clear HA
    simp only [spigotref38_Fixed.l0] at H
    by_cases c8 : x8_1 < (l1.length : Int)
    ·rw [if_pos c8] at H
     have c8b0 : decide (x8_1 < (l1.length : Int)) = true := decide_eq_true c8
     clear c8
     by_cases c9 : 0 ≤ x8_1
     rotate_left
     ·rw [if_neg c9] at H; exact absurd H (by simp)
     rw [if_pos c9] at H
     have c9b0 : decide (0 ≤ x8_1) = true := decide_eq_true c9
     clear c9
     have H' := Aside0.mk H
     clear H
     have p193 : 0 ≤ (x8_1 : Int) := of_decide_eq_true (by first | (with_reducible assumption) | assumption)
     have q193 : x8_1 < (l1.length : Int) := of_decide_eq_true (by first | (with_reducible assumption) | assumption)
     obtain ⟨ad193, e193, hx193_0, hx193_1⟩ := at_T58 HR1.out x8_1 p193 q193
     cases e193
     replace hx193_0 := (HB.out.cell (World.block_lt_of_cell? w _ hx193_0)).trans hx193_0
     replace hx193_1 := (HB.out.cell (World.block_lt_of_cell? w _ hx193_1)).trans hx193_1
     replace p193 := eq_true p193
     replace q193 := eq_true q193
     go_wp2
     go_loopg [9, 10] k1 (fun kq v9 v10 w' => ∃ (x9_2 : Int) (x10_2 : Int), v9 = .int .i64 x9_2 ∧ v10 = .int .i64 x10_2 ∧ Aside0 (spigotref38_Fixed.l1 kq l1 x7_1 x8_1 x9_2 x10_2 a0_0 a0_1 = some (r1, r2)) ∧ Aside0 (kq ≤ k1) ∧ Aside0 (Kd.R k58 58 w' w.heap.size (fun _ => True) u7 x7_1) ∧ Aside0 (w'.heap[gb191]? = some (.cells #[.int .i64 a0_0, .int .i64 a0_1] 23 (0, 0))) ∧ Aside0 (Below w.heap.size w w'))
     case atStart => exact ⟨((rd_T58 l1 x8_1).f1), (0), rf_, rf_, H', ⟨Nat.le_refl _⟩, ⟨rs_ HO_7⟩, ⟨bq_ BK191⟩, bw_⟩
     case round =>
      clear H'
      try clear c1
      try clear c4
      try clear c4b0
      try clear c4b1
      try clear c8
      try clear c8b0
      try clear c9
      try clear c9b0
      try clear hx193_0
      try clear hx193_1
      try clear p193
      try clear q193
      obtain ⟨x9_2, x10_2, rfl, rfl, HA, HK2, HO_7, BK191, HB⟩ := hrel
      cases gk with
      | zero => exact absurd HA.out (by simp [spigotref38_Fixed.l1])
      | succ k2 =>
       have H := HA.out
       clear HA
       simp only [spigotref38_Fixed.l1] at H
       by_cases c10 : x10_2 < (x7_1.length : Int)
       ·rw [if_pos c10] at H
        have c10b0 : decide (x10_2 < (x7_1.length : Int)) = true := decide_eq_true c10
        clear c10
        by_cases c11 : 0 ≤ x10_2
        rotate_left
        ·rw [if_neg c11] at H; exact absurd H (by simp)
        rw [if_pos c11] at H
        have c11b0 : decide (0 ≤ x10_2) = true := decide_eq_true c11
        clear c11
        obtain ⟨t199, A12, H⟩ := bo_ H
        try dsimp only at H
        by_cases c13 : 0 ≤ x8_1
        rotate_left
        ·rw [if_neg c13] at H; exact absurd H (by simp)
        rw [if_pos c13] at H
        have c13b0 : decide (0 ≤ x8_1) = true := decide_eq_true c13
        clear c13
        by_cases c14 : x8_1 < (l1.length : Int)
        rotate_left
        ·rw [if_neg c14] at H; exact absurd H (by simp)
        rw [if_pos c14] at H
        have c14b0 : decide (x8_1 < (l1.length : Int)) = true := decide_eq_true c14
        clear c14
        obtain ⟨t201, A15, H⟩ := bo_ H
        try dsimp only at H
        by_cases c16 : t199 = t201
        ·rw [if_pos c16] at H
         have c16b0 : (t199 == t201) = true := beq_iff_eq.mpr c16
         have c16b1 : (t199 != t201) = false := bne_eq_false_iff_eq.mpr c16
         clear c16
         have H' := Aside0.mk H
         clear H
         obtain ⟨Ao17, co17, eo17⟩ := Kd.R_slice HO_7.out
         subst eo17
         try go_wp2
         replace HO_7 := Aside0.mk (Kd.R_drew HO_7.out)
         replace BK191 := Aside0.mk (blk_drew BK191.out)
         replace HB := Aside0.mk (below_drew1 HB.out)
         have p198 : 0 ≤ (x10_2 : Int) := of_decide_eq_true (by first | (with_reducible assumption) | assumption)
         have q198 : x10_2 < (x7_1.length : Int) := of_decide_eq_true (by first | (with_reducible assumption) | assumption)
         obtain ⟨ad198, e198, hx198_0, hx198_1⟩ := at_T58 (Kd.R_reads' HO_7.out).2.2 x10_2 p198 q198
         cases e198
         replace p198 := eq_true p198
         replace q198 := eq_true q198
         have p200 : 0 ≤ (x8_1 : Int) := of_decide_eq_true (by first | (with_reducible assumption) | assumption)
         have q200 : x8_1 < (l1.length : Int) := of_decide_eq_true (by first | (with_reducible assumption) | assumption)
         obtain ⟨ad200, e200, hx200_0, hx200_1⟩ := at_T58 HR1.out x8_1 p200 q200
         have hw200_1 := hx200_1
         have hw200_0 := hx200_0
         obtain rfl : ad193 = ad200 := (by injection e200)
         replace hx200_0 := (HB.out.cell (World.block_lt_of_cell? w _ hx200_0)).trans hx200_0
         replace hx200_1 := (HB.out.cell (World.block_lt_of_cell? w _ hx200_1)).trans hx200_1
         replace p200 := eq_true p200
         replace q200 := eq_true q200
         refine start_ (n := 15) (S := fun w' => w'.cell? ⟨gb191, 0, none⟩ = some (.int .i64 a0_0) ∧ w'.cell? ⟨gb191, 1, none⟩ = some (.int .i64 a0_1) ∧ w'.cell? (ad198.add ((x10_2).toNat * 2)) = some (.int .u64 ((rd_T58 x7_1 x10_2).f0)) ∧ w'.cell? ⟨(ad198.add ((x10_2).toNat * 2)).block, (ad198.add ((x10_2).toNat * 2)).off + 1, none⟩ = some (.int .i64 ((rd_T58 x7_1 x10_2).f1)) ∧ w'.cell? (ad193.add ((x8_1).toNat * 2)) = some (.int .u64 ((rd_T58 l1 x8_1).f0)) ∧ w'.cell? ⟨(ad193.add ((x8_1).toNat * 2)).block, (ad193.add ((x8_1).toNat * 2)).off + 1, none⟩ = some (.int .i64 ((rd_T58 l1 x8_1).f1))) (ds := []) (bl_ 15 0) (by kernel_rfl) rfl (by kernel_rfl) ⟨(blk_cell BK191.out 0).trans rfl, (blk_cell BK191.out 1).trans rfl, hx198_0, hx198_1, ((HB.out.cell (World.block_lt_of_cell? w _ hw200_0)).trans hw200_0), ((HB.out.cell (World.block_lt_of_cell? w _ hw200_1)).trans hw200_1)⟩ (fun hHeld => ?_); refine with_tabW spigotref38_Fixed.tab12 spigotref38_Fixed.bits12 (fun HT_ HW_ => ?_)
         generalize wr.drew = w18 at HO_7 BK191 HB hx198_0 hx198_1 hx200_0 hx200_1 hHeld ⊢
         refine pa_ 1 (some 35) (bl_ 15 2) HT_ ?_
         refine pa_ 2 (some 36) (bl_ 15 6) HT_ ?_
         refine pa_ 3 (some 37) (bl_ 15 14) HT_ ?_
         refine pa_ 4 (some 38) (bl_ 15 30) HT_ ?_
         refine pa_ 8 (some 42) (bl_ 15 286) HT_ ?_
         refine pa_ 9 (some 43) (bl_ 15 798) HT_ ?_
         refine pa_ 10 (some 44) (bl_ 15 1822) HT_ ?_
         refine pa_ 11 (some 45) (bl_ 15 3870) HT_ ?_
         refine ta_ 0 (some 34) (bl_ 15 3871) HT_ HW_ hHeld ?_
         refine ta_ 5 (some 39) (bl_ 15 3903) HT_ HW_ hHeld ?_
         refine ta_ 7 (some 41) (bl_ 15 4031) HT_ HW_ hHeld ?_
         refine ta_ 12 (some 46) (bl_ 15 8127) HT_ HW_ hHeld ?_
         refine oa_ 6 (some 40) (bl_ 15 8191) HT_ fun K hK => ?_
         refine goesB_ Try.func32 #[.agg #[.int .i64 a0_0, .int .i64 a0_1], .int .u64 ((rd_T58 x7_1 x10_2).f0)] ?_
         with_reducible refine (spigotref38_Begin.calls a0_0 a0_1 ((rd_T58 x7_1 x10_2).f0) t199 _ A12.out).mono ?_
         rintro e w19 ⟨rfl, hb⟩
         have HS2_ := (hb.cell (World.block_lt_of_cell? _ _ (hHeld.2.2.1))).trans (hHeld.2.2.1)
         have HS3_ := (hb.cell (World.block_lt_of_cell? _ _ (hHeld.2.2.2.1))).trans (hHeld.2.2.2.1)
         refine ⟨_, rfl, ?_⟩
         replace HO_7 := rb_ HO_7 hb
         replace BK191 := bb_ BK191 hb
         replace HB := bs_ w hb
         clear hb
         refine hK.out _ _ ⟨(blk_cell BK191.out 0).trans rfl, (blk_cell BK191.out 1).trans rfl, HS2_, HS3_, ((HB.out.cell (World.block_lt_of_cell? w _ hw200_0)).trans hw200_0), ((HB.out.cell (World.block_lt_of_cell? w _ hw200_1)).trans hw200_1)⟩ (fun hHeld => ?_)
         clear hK K
         refine nm_ (some 40) ?_
         refine oa_ 13 (some 47) (bl_ 15 16383) HT_ fun K hK => ?_
         refine goesB_ Try.func32 #[.agg #[.int .i64 a0_0, .int .i64 a0_1], .int .u64 ((rd_T58 l1 x8_1).f0)] ?_
         with_reducible refine (spigotref38_Begin.calls a0_0 a0_1 ((rd_T58 l1 x8_1).f0) t201 _ A15.out).mono ?_
         rintro e w20 ⟨rfl, hb⟩
         have HS2_ := (hb.cell (World.block_lt_of_cell? _ _ (hHeld.2.2.1))).trans (hHeld.2.2.1)
         have HS3_ := (hb.cell (World.block_lt_of_cell? _ _ (hHeld.2.2.2.1))).trans (hHeld.2.2.2.1)
         refine ⟨_, rfl, ?_⟩
         replace HO_7 := rb_ HO_7 hb
         replace BK191 := bb_ BK191 hb
         replace HB := bs_ w hb
         clear hb
         refine hK.out _ _ ⟨(blk_cell BK191.out 0).trans rfl, (blk_cell BK191.out 1).trans rfl, HS2_, HS3_, ((HB.out.cell (World.block_lt_of_cell? w _ hw200_0)).trans hw200_0), ((HB.out.cell (World.block_lt_of_cell? w _ hw200_1)).trans hw200_1)⟩ (fun hHeld => ?_)
         clear hK K
         refine nm_ (some 47) ?_
         refine pa_ 14 (some 48) (bl_ 15 32767) HT_ ?_
         refine done_ (done_of HT_.out (by kernel_rfl)) ?_
         have p202 : 0 ≤ (x10_2 : Int) := of_decide_eq_true (by first | (with_reducible assumption) | assumption)
         have q202 : x10_2 < (x7_1.length : Int) := of_decide_eq_true (by first | (with_reducible assumption) | assumption)
         obtain ⟨ad202, e202, hx202_0, hx202_1⟩ := at_T58 (Kd.R_reads' HO_7.out).2.2 x10_2 p202 q202
         obtain rfl : ad198 = ad202 := (by injection e202)
         replace p202 := eq_true p202
         replace q202 := eq_true q202
         try go_wp2
         go_roundg k2
         case measure => have := HK1.out; have := HK2.out; omega
         case rel => exact ⟨(wrap64 (x9_2 + ((rd_T58 x7_1 x10_2).f1))), (wrap64 (x10_2 + 1)), rf_, rf_, H', ⟨by have := HK1.out; have := HK2.out; omega⟩, ⟨rs_ HO_7⟩, ⟨bq_ BK191⟩, bw_⟩
        ·rw [if_neg c16] at H
         have c16b0 : (t199 == t201) = false := beq_eq_false_iff_ne.mpr c16
         have c16b1 : (t199 != t201) = true := bne_iff_ne.mpr c16
         have H' := Aside0.mk H
         clear H
         obtain ⟨Ao21, co21, eo21⟩ := Kd.R_slice HO_7.out
         subst eo21
         try go_wp2
         replace HO_7 := Aside0.mk (Kd.R_drew HO_7.out)
         replace BK191 := Aside0.mk (blk_drew BK191.out)
         replace HB := Aside0.mk (below_drew1 HB.out)
         have p198 : 0 ≤ (x10_2 : Int) := of_decide_eq_true (by first | (with_reducible assumption) | assumption)
         have q198 : x10_2 < (x7_1.length : Int) := of_decide_eq_true (by first | (with_reducible assumption) | assumption)
         obtain ⟨ad198, e198, hx198_0, hx198_1⟩ := at_T58 (Kd.R_reads' HO_7.out).2.2 x10_2 p198 q198
         cases e198
         replace p198 := eq_true p198
         replace q198 := eq_true q198
         have p200 : 0 ≤ (x8_1 : Int) := of_decide_eq_true (by first | (with_reducible assumption) | assumption)
         have q200 : x8_1 < (l1.length : Int) := of_decide_eq_true (by first | (with_reducible assumption) | assumption)
         obtain ⟨ad200, e200, hx200_0, hx200_1⟩ := at_T58 HR1.out x8_1 p200 q200
         have hw200_1 := hx200_1
         have hw200_0 := hx200_0
         obtain rfl : ad193 = ad200 := (by injection e200)
         replace hx200_0 := (HB.out.cell (World.block_lt_of_cell? w _ hx200_0)).trans hx200_0
         replace hx200_1 := (HB.out.cell (World.block_lt_of_cell? w _ hx200_1)).trans hx200_1
         replace p200 := eq_true p200
         replace q200 := eq_true q200
         refine start_ (n := 15) (S := fun w' => w'.cell? ⟨gb191, 0, none⟩ = some (.int .i64 a0_0) ∧ w'.cell? ⟨gb191, 1, none⟩ = some (.int .i64 a0_1) ∧ w'.cell? (ad198.add ((x10_2).toNat * 2)) = some (.int .u64 ((rd_T58 x7_1 x10_2).f0)) ∧ w'.cell? ⟨(ad198.add ((x10_2).toNat * 2)).block, (ad198.add ((x10_2).toNat * 2)).off + 1, none⟩ = some (.int .i64 ((rd_T58 x7_1 x10_2).f1)) ∧ w'.cell? (ad193.add ((x8_1).toNat * 2)) = some (.int .u64 ((rd_T58 l1 x8_1).f0)) ∧ w'.cell? ⟨(ad193.add ((x8_1).toNat * 2)).block, (ad193.add ((x8_1).toNat * 2)).off + 1, none⟩ = some (.int .i64 ((rd_T58 l1 x8_1).f1))) (ds := []) (bl_ 15 0) (by kernel_rfl) rfl (by kernel_rfl) ⟨(blk_cell BK191.out 0).trans rfl, (blk_cell BK191.out 1).trans rfl, hx198_0, hx198_1, ((HB.out.cell (World.block_lt_of_cell? w _ hw200_0)).trans hw200_0), ((HB.out.cell (World.block_lt_of_cell? w _ hw200_1)).trans hw200_1)⟩ (fun hHeld => ?_); refine with_tabW spigotref38_Fixed.tab12 spigotref38_Fixed.bits12 (fun HT_ HW_ => ?_)
         generalize wr.drew = w22 at HO_7 BK191 HB hx198_0 hx198_1 hx200_0 hx200_1 hHeld ⊢
         refine pa_ 1 (some 35) (bl_ 15 2) HT_ ?_
         refine pa_ 2 (some 36) (bl_ 15 6) HT_ ?_
         refine pa_ 3 (some 37) (bl_ 15 14) HT_ ?_
         refine pa_ 4 (some 38) (bl_ 15 30) HT_ ?_
         refine pa_ 8 (some 42) (bl_ 15 286) HT_ ?_
         refine pa_ 9 (some 43) (bl_ 15 798) HT_ ?_
         refine pa_ 10 (some 44) (bl_ 15 1822) HT_ ?_
         refine pa_ 11 (some 45) (bl_ 15 3870) HT_ ?_
         refine ta_ 0 (some 34) (bl_ 15 3871) HT_ HW_ hHeld ?_
         refine ta_ 5 (some 39) (bl_ 15 3903) HT_ HW_ hHeld ?_
         refine ta_ 7 (some 41) (bl_ 15 4031) HT_ HW_ hHeld ?_
         refine ta_ 12 (some 46) (bl_ 15 8127) HT_ HW_ hHeld ?_
         refine oa_ 6 (some 40) (bl_ 15 8191) HT_ fun K hK => ?_
         refine goesB_ Try.func32 #[.agg #[.int .i64 a0_0, .int .i64 a0_1], .int .u64 ((rd_T58 x7_1 x10_2).f0)] ?_
         with_reducible refine (spigotref38_Begin.calls a0_0 a0_1 ((rd_T58 x7_1 x10_2).f0) t199 _ A12.out).mono ?_
         rintro e w23 ⟨rfl, hb⟩
         have HS2_ := (hb.cell (World.block_lt_of_cell? _ _ (hHeld.2.2.1))).trans (hHeld.2.2.1)
         have HS3_ := (hb.cell (World.block_lt_of_cell? _ _ (hHeld.2.2.2.1))).trans (hHeld.2.2.2.1)
         refine ⟨_, rfl, ?_⟩
         replace HO_7 := rb_ HO_7 hb
         replace BK191 := bb_ BK191 hb
         replace HB := bs_ w hb
         clear hb
         refine hK.out _ _ ⟨(blk_cell BK191.out 0).trans rfl, (blk_cell BK191.out 1).trans rfl, HS2_, HS3_, ((HB.out.cell (World.block_lt_of_cell? w _ hw200_0)).trans hw200_0), ((HB.out.cell (World.block_lt_of_cell? w _ hw200_1)).trans hw200_1)⟩ (fun hHeld => ?_)
         clear hK K
         refine nm_ (some 40) ?_
         refine oa_ 13 (some 47) (bl_ 15 16383) HT_ fun K hK => ?_
         refine goesB_ Try.func32 #[.agg #[.int .i64 a0_0, .int .i64 a0_1], .int .u64 ((rd_T58 l1 x8_1).f0)] ?_
         with_reducible refine (spigotref38_Begin.calls a0_0 a0_1 ((rd_T58 l1 x8_1).f0) t201 _ A15.out).mono ?_
         rintro e w24 ⟨rfl, hb⟩
         have HS2_ := (hb.cell (World.block_lt_of_cell? _ _ (hHeld.2.2.1))).trans (hHeld.2.2.1)
         have HS3_ := (hb.cell (World.block_lt_of_cell? _ _ (hHeld.2.2.2.1))).trans (hHeld.2.2.2.1)
         refine ⟨_, rfl, ?_⟩
         replace HO_7 := rb_ HO_7 hb
         replace BK191 := bb_ BK191 hb
         replace HB := bs_ w hb
         clear hb
         refine hK.out _ _ ⟨(blk_cell BK191.out 0).trans rfl, (blk_cell BK191.out 1).trans rfl, HS2_, HS3_, ((HB.out.cell (World.block_lt_of_cell? w _ hw200_0)).trans hw200_0), ((HB.out.cell (World.block_lt_of_cell? w _ hw200_1)).trans hw200_1)⟩ (fun hHeld => ?_)
         clear hK K
         refine nm_ (some 47) ?_
         refine pa_ 14 (some 48) (bl_ 15 32767) HT_ ?_
         refine done_ (done_of HT_.out (by kernel_rfl)) ?_
         try go_wp2
         go_roundg k2
         case measure => have := HK1.out; have := HK2.out; omega
         case rel => exact ⟨(x9_2), (wrap64 (x10_2 + 1)), rf_, rf_, H', ⟨by have := HK1.out; have := HK2.out; omega⟩, ⟨rs_ HO_7⟩, ⟨bq_ BK191⟩, bw_⟩
       ·rw [if_neg c10] at H
        have c10b0 : decide (x10_2 < (x7_1.length : Int)) = false := decide_eq_false c10
        clear c10
        by_cases c25 : x9_2 ≤ a0_0
        ·rw [if_pos c25] at H
         have c25b0 : decide (x9_2 ≤ a0_0) = true := decide_eq_true c25
         clear c25
         by_cases c26 : 0 ≤ x8_1
         rotate_left
         ·rw [if_neg c26] at H; exact absurd H (by simp)
         rw [if_pos c26] at H
         have c26b0 : decide (0 ≤ x8_1) = true := decide_eq_true c26
         clear c26
         by_cases c27 : x8_1 < (l1.length : Int)
         rotate_left
         ·rw [if_neg c27] at H; exact absurd H (by simp)
         rw [if_pos c27] at H
         have c27b0 : decide (x8_1 < (l1.length : Int)) = true := decide_eq_true c27
         clear c27
         by_cases c28 : x7_1.length < 8796093022208
         rotate_left
         ·rw [if_neg c28] at H; exact absurd H (by simp)
         rw [if_pos c28] at H
         have LMc28 := Aside0.mk c28
         clear c28
         obtain ⟨y195, hy195⟩ : ∃ y_ : List (S58), y_ = (x7_1 ++ [(⟨(rd_T58 l1 x8_1).f0, (rd_T58 l1 x8_1).f1⟩ : S58)]) := ⟨_, rfl⟩
         replace H : (spigotref38_Fixed.l0 k2 l1 y195 (wrap64 (x8_1 + 1)) a0_0 a0_1) = some (r1, r2) := by first | (rw [hy195]; with_reducible exact H) | (have H2_ := (Option.bind_some _ _).symm.trans H; rw [hy195]; with_reducible exact H2_) | (have H2_ := (Option.bind_some _ _).symm.trans H; with_reducible exact H2_) | with_reducible exact H | (rw [hy195]; exact H) | exact H
         have Ny195 := Aside0.mk hy195
         clear hy195
         have H' := Aside0.mk H
         clear H
         obtain ⟨Ao29, co29, eo29⟩ := Kd.R_slice HO_7.out
         subst eo29
         replace hc191 := ce2_ BK191
         have p194 : 0 ≤ (x8_1 : Int) := of_decide_eq_true (by first | (with_reducible assumption) | assumption)
         have q194 : x8_1 < (l1.length : Int) := of_decide_eq_true (by first | (with_reducible assumption) | assumption)
         obtain ⟨ad194, e194, hx194_0, hx194_1⟩ := at_T58 HR1.out x8_1 p194 q194
         obtain rfl : ad193 = ad194 := (by injection e194)
         replace hx194_0 := (HB.out.cell (World.block_lt_of_cell? w _ hx194_0)).trans hx194_0
         replace hx194_1 := (HB.out.cell (World.block_lt_of_cell? w _ hx194_1)).trans hx194_1
         replace p194 := eq_true p194
         replace q194 := eq_true q194
         go_wp2_with (first | ((with_reducible refine gate_builtin (b := .append) (xs := #[.tmp 60, .tmp 65]) rfl ?_); at_builtin; refine Kd.R_append k58 (w0 := w) w.heap.size rfl (.tmp 60) (.tmp 65) 24 58 (.agg #[(.int .u64 0), (.int .i64 0)]) 16 rfl Try.underlying24 info58 rfl (by decide) (by omega) (.slice Ao29 x7_1.length co29) x7_1 (⟨(rd_T58 l1 x8_1).f0, (rd_T58 l1 x8_1).f1⟩ : S58) [.int .u64 ((rd_T58 l1 x8_1).f0), .int .i64 ((rd_T58 l1 x8_1).f1)] (fun _ => True) (fun _ => False) rfl rfl ?aP (fun _ hk => hk.elim) ?aF ?aO ?aB ?aS ?aL ?_; (case aP => exact k58_mkM _ _ _ (⟨(rd_T58 l1 x8_1).f0, (rd_T58 l1 x8_1).f1⟩ : S58)); (case aB => exact bh_); (case aF => exact (fun _ _ => trivial)); (case aO => exact (rs_ HO_7)); (case aS => exact (below_size bh_)); (case aL => have := LMc28.out; omega); intro v196 w31 ho hb hg hat; rw [← Ny195.out] at ho; have HO197 := Aside0.mk (ho); replace BK191 := Aside0.mk (blk_grown (g := gb191) (o := .cells #[.int .i64 a0_0, .int .i64 a0_1] 23 (0, 0)) (bq_ BK191) hg (Kd.R_ne HO_7.out BK191.out (by decide))); replace HB := Aside0.mk (hb); clear HO_7; clear ho hb hg hat))
         go_roundg k2
         case measure => have := HK1.out; have := HK2.out; omega
         case rel => exact ⟨(y195), (wrap64 (x8_1 + 1)), rf_, H', ⟨by have := HK1.out; have := HK2.out; omega⟩, ⟨rs_ HO197⟩, ⟨bq_ BK191⟩, bw_⟩
        ·rw [if_neg c25] at H
         have c25b0 : decide (x9_2 ≤ a0_0) = false := decide_eq_false c25
         clear c25
         have H' := Aside0.mk H
         clear H
         obtain ⟨Ao32, co32, eo32⟩ := Kd.R_slice HO_7.out
         subst eo32
         replace hc191 := ce2_ BK191
         go_wp2
         go_roundg k2
         case measure => have := HK1.out; have := HK2.out; omega
         case rel => exact ⟨(x7_1), (wrap64 (x8_1 + 1)), rf_, H', ⟨by have := HK1.out; have := HK2.out; omega⟩, ⟨rs_ HO_7⟩, ⟨bq_ BK191⟩, bw_⟩
    ·rw [if_neg c8] at H
     have c8b0 : decide (x8_1 < (l1.length : Int)) = false := decide_eq_false c8
     clear c8
     simp only [Option.some.injEq, Prod.mk.injEq] at H
     obtain ⟨rfl, rfl⟩ := H
     go_wp2
     go_ret2
     exact ⟨_, by first | rfl | (simp [errW_none, errW_some] <;> rfl) | (simp [*, errW_none, errW_some] <;> rfl), by (with_reducible repeat (first | apply Kd.R_alloc | apply Kd.R_drewN | apply Kd.R_drew)); exact HO_7.out, by repeat (first | (with_reducible first | exact HB.out | apply below_alloc | apply pw_below_drewN | apply below_drew1 | refine below_set ?_ GE191.out) | exact HB.out)⟩
 ·rw [if_neg c4] at H
  have c4b0 : (t192 == 0) = false := beq_eq_false_iff_ne.mpr c4
  have c4b1 : (t192 != 0) = true := bne_iff_ne.mpr c4
  simp only [Option.some.injEq, Prod.mk.injEq] at H
  obtain ⟨rfl, rfl⟩ := H
  go_enter Try.func16, Try.ntmps16
  go_wp2_with (first | ((with_reducible refine gate_dst (N := 2) rfl ?_); refine bx_ #[.int .i64 a0_0, .int .i64 a0_1] 23 ?_; intro gb191 hg w34 BK191 hb; have GW191 := bz_ w hg; have GE191 := GW191; replace HB := bs_ w hb; clear hb hg; replace hc191 := ce2_ BK191) | ((with_reducible refine gate_callee (f := 31) rfl ?_); refine goesA_ (some 13) Try.func31 #[.agg #[.int .i64 a0_0, .int .i64 a0_1], .slice A1 l1.length c1] ?_; (with_reducible refine (spigotref38_both.calls k a0_0 a0_1 _ _ l1 t192 _ ?side1 ?side2 A3.out).mono ?_); (case side1 => exact cs_ HR1 HB); (case side2 => exact HC1.out); rintro e w36 ⟨rfl, hb⟩; refine ⟨_, rfl, ?_⟩; replace BK191 := bb_ BK191 hb; replace HB := bs_ w hb; clear hb))
  go_ret2
  exact ⟨_, by first | rfl | (simp [errW_none, errW_some] <;> rfl) | (simp [*, errW_none, errW_some] <;> rfl), by first | exact Kd.R_nil _ _ _ _ _ | exact Kd.N_nil _ _ _ _ _ | exact Kd.V_nil _ _ _ _ _ | exact Kd.Q_nil _ _ _ _ _ | exact Kd.S_nil _ _ _ _ _, by repeat (first | (with_reducible first | exact HB.out | apply below_alloc | apply pw_below_drewN | apply below_drew1 | refine below_set ?_ GE191.out) | exact HB.out)⟩

end Go.Proofs.Ytjjmnafhaneflaa.X
