-- written by xprint.py, a program of this session over the kit's print
import Derived.Test.YtjjmnafhaneflaaX0
import Derived.Test.YtjjmnafhaneflaaX11
import Derived.Test.YtjjmnafhaneflaaX14
namespace Go.Proofs.Ytjjmnafhaneflaa.X
open Go.RowKit Go.Proofs.YtjjmnafhaneflaaW.PrintWords Go.Proofs.YtjjmnafhaneflaaW.PrintLast Go.Proofs.YtjjmnafhaneflaaW.PrintMore
attribute [local go_sem] max2_int min2_int max_two min_two max_three min_three max_four min_four   -- for this text's walks alone
set_option linter.unusedVariables false
set_option linter.unusedSimpArgs false

/-! ### spigotref38_Most: function 13 -/
mutual
def spigotref38_Most.l0 : Nat → List (S58) → Int → Int → Int → Int → Option (Int × Int)
  | 0, _, _, _, _, _ => none
  | k + 1, x1, x7, x8, x167000, x167001 => if x8 < (x1.length : Int) then (spigotref38_Most.l1 k x1 x7 x8 0 0 x167000 x167001) else (some (x7, 0))
def spigotref38_Most.l1 : Nat → List (S58) → Int → Int → Int → Int → Int → Int → Option (Int × Int)
  | 0, _, _, _, _, _, _, _ => none
  | k + 1, x1, x7, x8, x9, x10, x167000, x167001 => if x10 < (x1.length : Int) then (if 0 ≤ x10 then (if 0 ≤ x8 then (if x8 < (x1.length : Int) then (if ((rd_T58 x1 x10).f0) ≤ ((rd_T58 x1 x8).f0) then ((spigotref38_within.f x167000 x167001 ((rd_T58 x1 x10).f0) ((rd_T58 x1 x8).f0)).bind fun t172 => (if t172 = true then (spigotref38_Most.l1 k x1 x7 x8 (wrap64 (x9 + ((rd_T58 x1 x10).f1))) (wrap64 (x10 + 1)) x167000 x167001) else (spigotref38_Most.l1 k x1 x7 x8 x9 (wrap64 (x10 + 1)) x167000 x167001))) else (spigotref38_Most.l1 k x1 x7 x8 x9 (wrap64 (x10 + 1)) x167000 x167001)) else (none)) else (none)) else (none)) else (spigotref38_Most.l0 k x1 (mx x7 x9) (wrap64 (x8 + 1)) x167000 x167001)
end
def spigotref38_Most.f (k : Nat) (a0_0 : Int) (a0_1 : Int) (l1 : List (S58)) : Option (Int × Int) := (spigotref38_both.f k a0_0 a0_1 l1).bind fun t167 => (if t167 = 0 then (spigotref38_Most.l0 k l1 0 0 a0_0 a0_1) else (some (0, t167)))
theorem spigotref38_Most.mono_l : ∀ k, (∀ y0 y1 y2 y3 y4, LeO (spigotref38_Most.l0 k y0 y1 y2 y3 y4) (spigotref38_Most.l0 (k + 1) y0 y1 y2 y3 y4)) ∧ (∀ y0 y1 y2 y3 y4 y5 y6, LeO (spigotref38_Most.l1 k y0 y1 y2 y3 y4 y5 y6) (spigotref38_Most.l1 (k + 1) y0 y1 y2 y3 y4 y5 y6))
  | 0 => ⟨fun _ _ _ _ _ r h => by simp [spigotref38_Most.l0] at h, fun _ _ _ _ _ _ _ r h => by simp [spigotref38_Most.l1] at h⟩
  | k + 1 => by
    obtain ⟨ih0, ih1⟩ := spigotref38_Most.mono_l k
    refine ⟨?_, ?_⟩
    · intro y0 y1 y2 y3 y4
      unfold spigotref38_Most.l0
      repeat' first
      | (with_reducible exact ih0 _ _ _ _ _)
      | (with_reducible exact ih1 _ _ _ _ _ _ _)
      | (with_reducible exact spigotref38_both.mono _ _ _ _)
      | (with_reducible exact LeO.refl _)
      | (with_reducible exact LeO.none _)
      | (with_reducible refine LeO.ite ?_ ?_)
      | (with_reducible refine LeO.bind ?_ (fun _ => ?_))
      | exact ih0 _ _ _ _ _
      | exact ih1 _ _ _ _ _ _ _
      | exact spigotref38_both.mono _ _ _ _
      | exact LeO.none _
      | refine LeO.ite ?_ ?_
      | refine LeO.bind ?_ (fun _ => ?_)
    · intro y0 y1 y2 y3 y4 y5 y6
      unfold spigotref38_Most.l1
      repeat' first
      | (with_reducible exact ih0 _ _ _ _ _)
      | (with_reducible exact ih1 _ _ _ _ _ _ _)
      | (with_reducible exact spigotref38_both.mono _ _ _ _)
      | (with_reducible exact LeO.refl _)
      | (with_reducible exact LeO.none _)
      | (with_reducible refine LeO.ite ?_ ?_)
      | (with_reducible refine LeO.bind ?_ (fun _ => ?_))
      | exact ih0 _ _ _ _ _
      | exact ih1 _ _ _ _ _ _ _
      | exact spigotref38_both.mono _ _ _ _
      | exact LeO.none _
      | refine LeO.ite ?_ ?_
      | refine LeO.bind ?_ (fun _ => ?_)
theorem spigotref38_Most.mono : ∀ a0 a1 a2 k, LeO (spigotref38_Most.f k a0 a1 a2) (spigotref38_Most.f (k + 1) a0 a1 a2) := by
  intro a0 a1 a2 k
  obtain ⟨ih0, ih1⟩ := spigotref38_Most.mono_l k
  unfold spigotref38_Most.f
  repeat' first
      | (with_reducible exact ih0 _ _ _ _ _)
      | (with_reducible exact ih1 _ _ _ _ _ _ _)
      | (with_reducible exact spigotref38_both.mono _ _ _ _)
      | (with_reducible exact LeO.refl _)
      | (with_reducible exact LeO.none _)
      | (with_reducible refine LeO.ite ?_ ?_)
      | (with_reducible refine LeO.bind ?_ (fun _ => ?_))
      | exact ih0 _ _ _ _ _
      | exact ih1 _ _ _ _ _ _ _
      | exact spigotref38_both.mono _ _ _ _
      | exact LeO.none _
      | refine LeO.ite ?_ ?_
      | refine LeO.bind ?_ (fun _ => ?_)
def spigotref38_Most.T12 : Bool × List (List Nat × List Nat) := (true, [([], []), ([], []), ([0, 1], [0, 1]), ([2], [2]), ([3], [3]), ([], []), ([], []), ([5, 6], [5, 6]), ([7], [7]), ([8], [8]), ([4, 9], [4, 9]), ([10], [10]), ([11], [11]), ([11], [11]), ([11], [11]), ([13, 14, 11], [11, 13, 14]), ([15, 11], [11, 15]), ([16, 11], [11, 16]), ([11], [11]), ([11], [11]), ([18, 19, 11], [11, 18, 19]), ([20, 11], [11, 20]), ([21, 11], [11, 21]), ([12, 17, 22, 11, 11], [11, 12, 17, 22]), ([11, 23], [11, 23])])
def spigotref38_Most.B12 : List Nat := [0, 0, 3, 7, 15, 0, 0, 96, 224, 480, 1023, 2047, 4095, 4095, 4095, 28671, 61439, 126975, 4095, 4095, 790527, 1839103, 3936255, 8388607, 16777215]
theorem spigotref38_Most.tab12 : rtab .any (opsOf Try.f13 12) = spigotref38_Most.T12 := by kernel_rfl
theorem spigotref38_Most.bits12 : waitsOk spigotref38_Most.T12.2 spigotref38_Most.B12 = true := by kernel_rfl
set_option maxHeartbeats 8000000 in
set_option maxRecDepth 100000 in
theorem spigotref38_Most.calls (k : Nat) (a0_0 : Int) (a0_1 : Int) (A1 : Option Addr) (c1 : Nat) (l1 : List (S58)) (r1 : Int) (r2 : Int) (w : World) (hr1 : Kd.C k58 w A1 l1.length l1) (hc1 : l1.length ≤ c1) (h : spigotref38_Most.f k a0_0 a0_1 l1 = some (r1, r2)) :
  Calls Try.prog 13 #[.agg #[.int .i64 a0_0, .int .i64 a0_1], .slice A1 l1.length c1] w fun e w' => e = .returned (.tuple #[.int .i64 r1, .int .i64 r2]) ∧ Below w.heap.size w w' := by
 have hu23 := Try.underlying23
 have HR1 := Aside0.mk hr1
 have HC1 := Aside0.mk hc1
 clear hr1 hc1
 have HB := Aside0.mk (Below.refl w.heap.size w)
 have H : ((spigotref38_both.f k a0_0 a0_1 l1).bind fun t167 => (if t167 = 0 then (spigotref38_Most.l0 k l1 0 0 a0_0 a0_1) else (some (0, t167)))) = some (r1, r2) := h
 clear h
 obtain ⟨t167, A3, H⟩ := bo_ H
 replace H : (if t167 = 0 then (spigotref38_Most.l0 k l1 0 0 a0_0 a0_1) else (some (0, t167))) = some (r1, r2) := H
 by_cases c4 : t167 = 0
 ·rw [if_pos c4] at H
  have c4b0 : (t167 == 0) = true := beq_iff_eq.mpr c4
  have c4b1 : (t167 != 0) = false := bne_eq_false_iff_eq.mpr c4
  clear c4
  have H' := Aside0.mk H
  clear H
  go_enter Try.func13, Try.ntmps13
  go_wp2_with (first | ((with_reducible refine gate_dst (N := 2) rfl ?_); (try refine ug_ (by rfl) ?_); refine bx_ #[.int .i64 a0_0, .int .i64 a0_1] 23 ?_; intro gb166 hg w5 BK166 hb; have GW166 := bz_ w hg; have GE166 := GW166; replace HB := bs_ w hb; clear hb hg; replace hc166 := ce2_ BK166) | ((with_reducible refine gate_callee (f := 31) rfl ?_); (try refine ug_ (by rfl) ?_); refine goesA_ (some 13) Try.func31 #[.agg #[.int .i64 a0_0, .int .i64 a0_1], .slice A1 l1.length c1] ?_; (with_reducible refine (spigotref38_both.calls k a0_0 a0_1 _ _ l1 t167 _ ?side1 ?side2 A3.out).mono ?_); (case side1 => exact cs_ HR1 HB); (case side2 => exact HC1.out); rintro e w7 ⟨rfl, hb⟩; refine ⟨_, rfl, ?_⟩; replace BK166 := bb_ BK166 hb; replace HB := bs_ w hb; clear hb))
  go_loopg [7, 8] k (fun kq v7 v8 w' => ∃ (x7_1 : Int) (x8_1 : Int), v7 = .int .i64 x7_1 ∧ v8 = .int .i64 x8_1 ∧ Aside0 (spigotref38_Most.l0 kq l1 x7_1 x8_1 a0_0 a0_1 = some (r1, r2)) ∧ Aside0 (kq ≤ k) ∧ Aside0 (w'.heap[gb166]? = some (.cells #[.int .i64 a0_0, .int .i64 a0_1] 23 (0, 0))) ∧ Aside0 (Below w.heap.size w w'))
  case atStart => exact ⟨(0), (0), rf_, rf_, H', ⟨Nat.le_refl _⟩, ⟨bq_ BK166⟩, bw_⟩
  case round =>
   clear H'
   try clear c1
   try clear c4
   try clear c4b0
   try clear c4b1
   obtain ⟨x7_1, x8_1, rfl, rfl, HA, HK1, BK166, HB⟩ := hrel
   cases gk with
   | zero => exact absurd HA.out (by simp [spigotref38_Most.l0])
   | succ k1 =>
    have H := HA.out
    clear HA
    simp only [spigotref38_Most.l0] at H
    by_cases c8 : x8_1 < (l1.length : Int)
    ·rw [if_pos c8] at H
     have c8b0 : decide (x8_1 < (l1.length : Int)) = true := decide_eq_true c8
     clear c8
     have H' := Aside0.mk H
     clear H
     go_wp2
     go_loopg [9, 10] k1 (fun kq v9 v10 w' => ∃ (x9_2 : Int) (x10_2 : Int), v9 = .int .i64 x9_2 ∧ v10 = .int .i64 x10_2 ∧ Aside0 (spigotref38_Most.l1 kq l1 x7_1 x8_1 x9_2 x10_2 a0_0 a0_1 = some (r1, r2)) ∧ Aside0 (kq ≤ k1) ∧ Aside0 (w'.heap[gb166]? = some (.cells #[.int .i64 a0_0, .int .i64 a0_1] 23 (0, 0))) ∧ Aside0 (Below w.heap.size w w'))
     case atStart => exact ⟨(0), (0), rf_, rf_, H', ⟨Nat.le_refl _⟩, ⟨bq_ BK166⟩, bw_⟩
     case round =>
      clear H'
      try clear c1
      try clear c4
      try clear c4b0
      try clear c4b1
      try clear c8
      try clear c8b0
      obtain ⟨x9_2, x10_2, rfl, rfl, HA, HK2, BK166, HB⟩ := hrel
      cases gk with
      | zero => exact absurd HA.out (by simp [spigotref38_Most.l1])
      | succ k2 =>
       have H := HA.out
       clear HA
       simp only [spigotref38_Most.l1] at H
       by_cases c9 : x10_2 < (l1.length : Int)
       ·rw [if_pos c9] at H
        have c9b0 : decide (x10_2 < (l1.length : Int)) = true := decide_eq_true c9
        clear c9
        by_cases c10 : 0 ≤ x10_2
        rotate_left
        ·rw [if_neg c10] at H; exact absurd H (by simp)
        rw [if_pos c10] at H
        have c10b0 : decide (0 ≤ x10_2) = true := decide_eq_true c10
        clear c10
        by_cases c11 : 0 ≤ x8_1
        rotate_left
        ·rw [if_neg c11] at H; exact absurd H (by simp)
        rw [if_pos c11] at H
        have c11b0 : decide (0 ≤ x8_1) = true := decide_eq_true c11
        clear c11
        by_cases c12 : x8_1 < (l1.length : Int)
        rotate_left
        ·rw [if_neg c12] at H; exact absurd H (by simp)
        rw [if_pos c12] at H
        have c12b0 : decide (x8_1 < (l1.length : Int)) = true := decide_eq_true c12
        clear c12
        by_cases c13 : ((rd_T58 l1 x10_2).f0) ≤ ((rd_T58 l1 x8_1).f0)
        ·rw [if_pos c13] at H
         have c13b0 : decide (((rd_T58 l1 x10_2).f0) ≤ ((rd_T58 l1 x8_1).f0)) = true := decide_eq_true c13
         clear c13
         obtain ⟨t172, A14, H⟩ := bo_ H
         try dsimp only at H
         by_cases c15 : t172 = true
         ·subst c15
          rw [if_pos rfl] at H
          try dsimp only at H
          have H' := Aside0.mk H
          clear H
          try go_wp2
          replace BK166 := Aside0.mk (blk_drew BK166.out)
          replace HB := Aside0.mk (below_drew1 HB.out)
          have p168 : 0 ≤ (x10_2 : Int) := of_decide_eq_true (by first | (with_reducible assumption) | assumption)
          have q168 : x10_2 < (l1.length : Int) := of_decide_eq_true (by first | (with_reducible assumption) | assumption)
          obtain ⟨ad168, e168, hx168_0, hx168_1⟩ := at_T58 HR1.out x10_2 p168 q168
          have hw168_1 := hx168_1
          have hw168_0 := hx168_0
          cases e168
          replace hx168_0 := (HB.out.cell (World.block_lt_of_cell? w _ hx168_0)).trans hx168_0
          replace hx168_1 := (HB.out.cell (World.block_lt_of_cell? w _ hx168_1)).trans hx168_1
          replace p168 := eq_true p168
          replace q168 := eq_true q168
          have p169 : 0 ≤ (x8_1 : Int) := of_decide_eq_true (by first | (with_reducible assumption) | assumption)
          have q169 : x8_1 < (l1.length : Int) := of_decide_eq_true (by first | (with_reducible assumption) | assumption)
          obtain ⟨ad169, e169, hx169_0, hx169_1⟩ := at_T58 HR1.out x8_1 p169 q169
          have hw169_1 := hx169_1
          have hw169_0 := hx169_0
          obtain rfl : ad168 = ad169 := (by injection e169)
          replace hx169_0 := (HB.out.cell (World.block_lt_of_cell? w _ hx169_0)).trans hx169_0
          replace hx169_1 := (HB.out.cell (World.block_lt_of_cell? w _ hx169_1)).trans hx169_1
          replace p169 := eq_true p169
          replace q169 := eq_true q169
          have p170 : 0 ≤ (x10_2 : Int) := of_decide_eq_true (by first | (with_reducible assumption) | assumption)
          have q170 : x10_2 < (l1.length : Int) := of_decide_eq_true (by first | (with_reducible assumption) | assumption)
          obtain ⟨ad170, e170, hx170_0, hx170_1⟩ := at_T58 HR1.out x10_2 p170 q170
          have hw170_1 := hx170_1
          have hw170_0 := hx170_0
          obtain rfl : ad168 = ad170 := (by injection e170)
          replace hx170_0 := (HB.out.cell (World.block_lt_of_cell? w _ hx170_0)).trans hx170_0
          replace hx170_1 := (HB.out.cell (World.block_lt_of_cell? w _ hx170_1)).trans hx170_1
          replace p170 := eq_true p170
          replace q170 := eq_true q170
          have p171 : 0 ≤ (x8_1 : Int) := of_decide_eq_true (by first | (with_reducible assumption) | assumption)
          have q171 : x8_1 < (l1.length : Int) := of_decide_eq_true (by first | (with_reducible assumption) | assumption)
          obtain ⟨ad171, e171, hx171_0, hx171_1⟩ := at_T58 HR1.out x8_1 p171 q171
          have hw171_1 := hx171_1
          have hw171_0 := hx171_0
          obtain rfl : ad168 = ad171 := (by injection e171)
          replace hx171_0 := (HB.out.cell (World.block_lt_of_cell? w _ hx171_0)).trans hx171_0
          replace hx171_1 := (HB.out.cell (World.block_lt_of_cell? w _ hx171_1)).trans hx171_1
          replace p171 := eq_true p171
          replace q171 := eq_true q171
          refine start_ (n := 25) (S := fun w' => w'.cell? ⟨gb166, 0, none⟩ = some (.int .i64 a0_0) ∧ w'.cell? ⟨gb166, 1, none⟩ = some (.int .i64 a0_1) ∧ w'.cell? (ad168.add ((x10_2).toNat * 2)) = some (.int .u64 ((rd_T58 l1 x10_2).f0)) ∧ w'.cell? ⟨(ad168.add ((x10_2).toNat * 2)).block, (ad168.add ((x10_2).toNat * 2)).off + 1, none⟩ = some (.int .i64 ((rd_T58 l1 x10_2).f1)) ∧ w'.cell? (ad168.add ((x8_1).toNat * 2)) = some (.int .u64 ((rd_T58 l1 x8_1).f0)) ∧ w'.cell? ⟨(ad168.add ((x8_1).toNat * 2)).block, (ad168.add ((x8_1).toNat * 2)).off + 1, none⟩ = some (.int .i64 ((rd_T58 l1 x8_1).f1)) ∧ w'.cell? (ad168.add ((x10_2).toNat * 2)) = some (.int .u64 ((rd_T58 l1 x10_2).f0)) ∧ w'.cell? ⟨(ad168.add ((x10_2).toNat * 2)).block, (ad168.add ((x10_2).toNat * 2)).off + 1, none⟩ = some (.int .i64 ((rd_T58 l1 x10_2).f1)) ∧ w'.cell? (ad168.add ((x8_1).toNat * 2)) = some (.int .u64 ((rd_T58 l1 x8_1).f0)) ∧ w'.cell? ⟨(ad168.add ((x8_1).toNat * 2)).block, (ad168.add ((x8_1).toNat * 2)).off + 1, none⟩ = some (.int .i64 ((rd_T58 l1 x8_1).f1))) (ds := []) (bl_ 25 0) (by kernel_rfl) rfl (by kernel_rfl) ⟨(blk_cell BK166.out 0).trans rfl, (blk_cell BK166.out 1).trans rfl, ((HB.out.cell (World.block_lt_of_cell? w _ hw168_0)).trans hw168_0), ((HB.out.cell (World.block_lt_of_cell? w _ hw168_1)).trans hw168_1), ((HB.out.cell (World.block_lt_of_cell? w _ hw169_0)).trans hw169_0), ((HB.out.cell (World.block_lt_of_cell? w _ hw169_1)).trans hw169_1), ((HB.out.cell (World.block_lt_of_cell? w _ hw170_0)).trans hw170_0), ((HB.out.cell (World.block_lt_of_cell? w _ hw170_1)).trans hw170_1), ((HB.out.cell (World.block_lt_of_cell? w _ hw171_0)).trans hw171_0), ((HB.out.cell (World.block_lt_of_cell? w _ hw171_1)).trans hw171_1)⟩ (fun hHeld => ?_); refine with_tabW spigotref38_Most.tab12 spigotref38_Most.bits12 (fun HT_ HW_ => ?_)
          generalize wr.drew = w16 at BK166 HB hx168_0 hx168_1 hx169_0 hx169_1 hx170_0 hx170_1 hx171_0 hx171_1 hHeld ⊢
          refine pa_ 0 (some 29) (bl_ 25 1) HT_ ?_
          refine pa_ 1 (some 30) (bl_ 25 3) HT_ ?_
          refine pa_ 2 (some 31) (bl_ 25 7) HT_ ?_
          refine pa_ 3 (some 32) (bl_ 25 15) HT_ ?_
          refine pa_ 5 (some 34) (bl_ 25 47) HT_ ?_
          refine pa_ 6 (some 35) (bl_ 25 111) HT_ ?_
          refine pa_ 7 (some 36) (bl_ 25 239) HT_ ?_
          refine pa_ 8 (some 37) (bl_ 25 495) HT_ ?_
          refine ta_ 4 (some 33) (bl_ 25 511) HT_ HW_ hHeld ?_
          refine ta_ 9 (some 38) (bl_ 25 1023) HT_ HW_ hHeld ?_
          refine pa_ 10 (some 39) (bl_ 25 2047) HT_ ?_
          refine pa_ 11 (some 40) (bl_ 25 4095) HT_ ?_
          refine pa_ 13 (some 42) (bl_ 25 12287) HT_ ?_
          refine pa_ 14 (some 43) (bl_ 25 28671) HT_ ?_
          refine pa_ 15 (some 44) (bl_ 25 61439) HT_ ?_
          refine pa_ 16 (some 45) (bl_ 25 126975) HT_ ?_
          refine pa_ 18 (some 47) (bl_ 25 389119) HT_ ?_
          refine pa_ 19 (some 48) (bl_ 25 913407) HT_ ?_
          refine pa_ 20 (some 49) (bl_ 25 1961983) HT_ ?_
          refine pa_ 21 (some 50) (bl_ 25 4059135) HT_ ?_
          refine ta_ 12 (some 41) (bl_ 25 4063231) HT_ HW_ hHeld ?_
          refine ta_ 17 (some 46) (bl_ 25 4194303) HT_ HW_ hHeld ?_
          refine ta_ 22 (some 51) (bl_ 25 8388607) HT_ HW_ hHeld ?_
          refine oa_ 23 (some 52) (bl_ 25 16777215) HT_ fun K hK => ?_
          refine goesB_ Try.func35 #[.agg #[.int .i64 a0_0, .int .i64 a0_1], .int .u64 ((rd_T58 l1 x10_2).f0), .int .u64 ((rd_T58 l1 x8_1).f0)] ?_
          with_reducible refine (spigotref38_within.calls a0_0 a0_1 ((rd_T58 l1 x10_2).f0) ((rd_T58 l1 x8_1).f0) true _ A14.out).mono ?_
          rintro e w17 ⟨rfl, hb⟩
          refine ⟨_, rfl, ?_⟩
          replace BK166 := bb_ BK166 hb
          replace HB := bs_ w hb
          clear hb
          refine hK.out _ _ ⟨(blk_cell BK166.out 0).trans rfl, (blk_cell BK166.out 1).trans rfl, ((HB.out.cell (World.block_lt_of_cell? w _ hw168_0)).trans hw168_0), ((HB.out.cell (World.block_lt_of_cell? w _ hw168_1)).trans hw168_1), ((HB.out.cell (World.block_lt_of_cell? w _ hw169_0)).trans hw169_0), ((HB.out.cell (World.block_lt_of_cell? w _ hw169_1)).trans hw169_1), ((HB.out.cell (World.block_lt_of_cell? w _ hw170_0)).trans hw170_0), ((HB.out.cell (World.block_lt_of_cell? w _ hw170_1)).trans hw170_1), ((HB.out.cell (World.block_lt_of_cell? w _ hw171_0)).trans hw171_0), ((HB.out.cell (World.block_lt_of_cell? w _ hw171_1)).trans hw171_1)⟩ (fun hHeld => ?_)
          clear hK K
          refine nm_ (some 52) ?_
          refine pa_ 24 (some 53) (bl_ 25 33554431) HT_ ?_
          refine done_ (done_of HT_.out (by kernel_rfl)) ?_
          have p173 : 0 ≤ (x10_2 : Int) := of_decide_eq_true (by first | (with_reducible assumption) | assumption)
          have q173 : x10_2 < (l1.length : Int) := of_decide_eq_true (by first | (with_reducible assumption) | assumption)
          obtain ⟨ad173, e173, hx173_0, hx173_1⟩ := at_T58 HR1.out x10_2 p173 q173
          obtain rfl : ad168 = ad173 := (by injection e173)
          replace hx173_0 := (HB.out.cell (World.block_lt_of_cell? w _ hx173_0)).trans hx173_0
          replace hx173_1 := (HB.out.cell (World.block_lt_of_cell? w _ hx173_1)).trans hx173_1
          replace p173 := eq_true p173
          replace q173 := eq_true q173
          try go_wp2
          go_roundg k2
          case measure => have := HK1.out; have := HK2.out; omega
          case rel => exact ⟨(wrap64 (x9_2 + ((rd_T58 l1 x10_2).f1))), (wrap64 (x10_2 + 1)), rf_, rf_, H', ⟨by have := HK1.out; have := HK2.out; omega⟩, ⟨bq_ BK166⟩, bw_⟩
         ·replace c15 := Bool.eq_false_iff.mpr c15
          subst c15
          rw [if_neg (show ¬ (false = true) by decide)] at H
          try dsimp only at H
          have H' := Aside0.mk H
          clear H
          try go_wp2
          replace BK166 := Aside0.mk (blk_drew BK166.out)
          replace HB := Aside0.mk (below_drew1 HB.out)
          have p168 : 0 ≤ (x10_2 : Int) := of_decide_eq_true (by first | (with_reducible assumption) | assumption)
          have q168 : x10_2 < (l1.length : Int) := of_decide_eq_true (by first | (with_reducible assumption) | assumption)
          obtain ⟨ad168, e168, hx168_0, hx168_1⟩ := at_T58 HR1.out x10_2 p168 q168
          have hw168_1 := hx168_1
          have hw168_0 := hx168_0
          cases e168
          replace hx168_0 := (HB.out.cell (World.block_lt_of_cell? w _ hx168_0)).trans hx168_0
          replace hx168_1 := (HB.out.cell (World.block_lt_of_cell? w _ hx168_1)).trans hx168_1
          replace p168 := eq_true p168
          replace q168 := eq_true q168
          have p169 : 0 ≤ (x8_1 : Int) := of_decide_eq_true (by first | (with_reducible assumption) | assumption)
          have q169 : x8_1 < (l1.length : Int) := of_decide_eq_true (by first | (with_reducible assumption) | assumption)
          obtain ⟨ad169, e169, hx169_0, hx169_1⟩ := at_T58 HR1.out x8_1 p169 q169
          have hw169_1 := hx169_1
          have hw169_0 := hx169_0
          obtain rfl : ad168 = ad169 := (by injection e169)
          replace hx169_0 := (HB.out.cell (World.block_lt_of_cell? w _ hx169_0)).trans hx169_0
          replace hx169_1 := (HB.out.cell (World.block_lt_of_cell? w _ hx169_1)).trans hx169_1
          replace p169 := eq_true p169
          replace q169 := eq_true q169
          have p170 : 0 ≤ (x10_2 : Int) := of_decide_eq_true (by first | (with_reducible assumption) | assumption)
          have q170 : x10_2 < (l1.length : Int) := of_decide_eq_true (by first | (with_reducible assumption) | assumption)
          obtain ⟨ad170, e170, hx170_0, hx170_1⟩ := at_T58 HR1.out x10_2 p170 q170
          have hw170_1 := hx170_1
          have hw170_0 := hx170_0
          obtain rfl : ad168 = ad170 := (by injection e170)
          replace hx170_0 := (HB.out.cell (World.block_lt_of_cell? w _ hx170_0)).trans hx170_0
          replace hx170_1 := (HB.out.cell (World.block_lt_of_cell? w _ hx170_1)).trans hx170_1
          replace p170 := eq_true p170
          replace q170 := eq_true q170
          have p171 : 0 ≤ (x8_1 : Int) := of_decide_eq_true (by first | (with_reducible assumption) | assumption)
          have q171 : x8_1 < (l1.length : Int) := of_decide_eq_true (by first | (with_reducible assumption) | assumption)
          obtain ⟨ad171, e171, hx171_0, hx171_1⟩ := at_T58 HR1.out x8_1 p171 q171
          have hw171_1 := hx171_1
          have hw171_0 := hx171_0
          obtain rfl : ad168 = ad171 := (by injection e171)
          replace hx171_0 := (HB.out.cell (World.block_lt_of_cell? w _ hx171_0)).trans hx171_0
          replace hx171_1 := (HB.out.cell (World.block_lt_of_cell? w _ hx171_1)).trans hx171_1
          replace p171 := eq_true p171
          replace q171 := eq_true q171
          refine start_ (n := 25) (S := fun w' => w'.cell? ⟨gb166, 0, none⟩ = some (.int .i64 a0_0) ∧ w'.cell? ⟨gb166, 1, none⟩ = some (.int .i64 a0_1) ∧ w'.cell? (ad168.add ((x10_2).toNat * 2)) = some (.int .u64 ((rd_T58 l1 x10_2).f0)) ∧ w'.cell? ⟨(ad168.add ((x10_2).toNat * 2)).block, (ad168.add ((x10_2).toNat * 2)).off + 1, none⟩ = some (.int .i64 ((rd_T58 l1 x10_2).f1)) ∧ w'.cell? (ad168.add ((x8_1).toNat * 2)) = some (.int .u64 ((rd_T58 l1 x8_1).f0)) ∧ w'.cell? ⟨(ad168.add ((x8_1).toNat * 2)).block, (ad168.add ((x8_1).toNat * 2)).off + 1, none⟩ = some (.int .i64 ((rd_T58 l1 x8_1).f1)) ∧ w'.cell? (ad168.add ((x10_2).toNat * 2)) = some (.int .u64 ((rd_T58 l1 x10_2).f0)) ∧ w'.cell? ⟨(ad168.add ((x10_2).toNat * 2)).block, (ad168.add ((x10_2).toNat * 2)).off + 1, none⟩ = some (.int .i64 ((rd_T58 l1 x10_2).f1)) ∧ w'.cell? (ad168.add ((x8_1).toNat * 2)) = some (.int .u64 ((rd_T58 l1 x8_1).f0)) ∧ w'.cell? ⟨(ad168.add ((x8_1).toNat * 2)).block, (ad168.add ((x8_1).toNat * 2)).off + 1, none⟩ = some (.int .i64 ((rd_T58 l1 x8_1).f1))) (ds := []) (bl_ 25 0) (by kernel_rfl) rfl (by kernel_rfl) ⟨(blk_cell BK166.out 0).trans rfl, (blk_cell BK166.out 1).trans rfl, ((HB.out.cell (World.block_lt_of_cell? w _ hw168_0)).trans hw168_0), ((HB.out.cell (World.block_lt_of_cell? w _ hw168_1)).trans hw168_1), ((HB.out.cell (World.block_lt_of_cell? w _ hw169_0)).trans hw169_0), ((HB.out.cell (World.block_lt_of_cell? w _ hw169_1)).trans hw169_1), ((HB.out.cell (World.block_lt_of_cell? w _ hw170_0)).trans hw170_0), ((HB.out.cell (World.block_lt_of_cell? w _ hw170_1)).trans hw170_1), ((HB.out.cell (World.block_lt_of_cell? w _ hw171_0)).trans hw171_0), ((HB.out.cell (World.block_lt_of_cell? w _ hw171_1)).trans hw171_1)⟩ (fun hHeld => ?_); refine with_tabW spigotref38_Most.tab12 spigotref38_Most.bits12 (fun HT_ HW_ => ?_)
          generalize wr.drew = w18 at BK166 HB hx168_0 hx168_1 hx169_0 hx169_1 hx170_0 hx170_1 hx171_0 hx171_1 hHeld ⊢
          refine pa_ 0 (some 29) (bl_ 25 1) HT_ ?_
          refine pa_ 1 (some 30) (bl_ 25 3) HT_ ?_
          refine pa_ 2 (some 31) (bl_ 25 7) HT_ ?_
          refine pa_ 3 (some 32) (bl_ 25 15) HT_ ?_
          refine pa_ 5 (some 34) (bl_ 25 47) HT_ ?_
          refine pa_ 6 (some 35) (bl_ 25 111) HT_ ?_
          refine pa_ 7 (some 36) (bl_ 25 239) HT_ ?_
          refine pa_ 8 (some 37) (bl_ 25 495) HT_ ?_
          refine ta_ 4 (some 33) (bl_ 25 511) HT_ HW_ hHeld ?_
          refine ta_ 9 (some 38) (bl_ 25 1023) HT_ HW_ hHeld ?_
          refine pa_ 10 (some 39) (bl_ 25 2047) HT_ ?_
          refine pa_ 11 (some 40) (bl_ 25 4095) HT_ ?_
          refine pa_ 13 (some 42) (bl_ 25 12287) HT_ ?_
          refine pa_ 14 (some 43) (bl_ 25 28671) HT_ ?_
          refine pa_ 15 (some 44) (bl_ 25 61439) HT_ ?_
          refine pa_ 16 (some 45) (bl_ 25 126975) HT_ ?_
          refine pa_ 18 (some 47) (bl_ 25 389119) HT_ ?_
          refine pa_ 19 (some 48) (bl_ 25 913407) HT_ ?_
          refine pa_ 20 (some 49) (bl_ 25 1961983) HT_ ?_
          refine pa_ 21 (some 50) (bl_ 25 4059135) HT_ ?_
          refine ta_ 12 (some 41) (bl_ 25 4063231) HT_ HW_ hHeld ?_
          refine ta_ 17 (some 46) (bl_ 25 4194303) HT_ HW_ hHeld ?_
          refine ta_ 22 (some 51) (bl_ 25 8388607) HT_ HW_ hHeld ?_
          refine oa_ 23 (some 52) (bl_ 25 16777215) HT_ fun K hK => ?_
          refine goesB_ Try.func35 #[.agg #[.int .i64 a0_0, .int .i64 a0_1], .int .u64 ((rd_T58 l1 x10_2).f0), .int .u64 ((rd_T58 l1 x8_1).f0)] ?_
          with_reducible refine (spigotref38_within.calls a0_0 a0_1 ((rd_T58 l1 x10_2).f0) ((rd_T58 l1 x8_1).f0) false _ A14.out).mono ?_
          rintro e w19 ⟨rfl, hb⟩
          refine ⟨_, rfl, ?_⟩
          replace BK166 := bb_ BK166 hb
          replace HB := bs_ w hb
          clear hb
          refine hK.out _ _ ⟨(blk_cell BK166.out 0).trans rfl, (blk_cell BK166.out 1).trans rfl, ((HB.out.cell (World.block_lt_of_cell? w _ hw168_0)).trans hw168_0), ((HB.out.cell (World.block_lt_of_cell? w _ hw168_1)).trans hw168_1), ((HB.out.cell (World.block_lt_of_cell? w _ hw169_0)).trans hw169_0), ((HB.out.cell (World.block_lt_of_cell? w _ hw169_1)).trans hw169_1), ((HB.out.cell (World.block_lt_of_cell? w _ hw170_0)).trans hw170_0), ((HB.out.cell (World.block_lt_of_cell? w _ hw170_1)).trans hw170_1), ((HB.out.cell (World.block_lt_of_cell? w _ hw171_0)).trans hw171_0), ((HB.out.cell (World.block_lt_of_cell? w _ hw171_1)).trans hw171_1)⟩ (fun hHeld => ?_)
          clear hK K
          refine nm_ (some 52) ?_
          refine pa_ 24 (some 53) (bl_ 25 33554431) HT_ ?_
          refine done_ (done_of HT_.out (by kernel_rfl)) ?_
          try go_wp2
          go_roundg k2
          case measure => have := HK1.out; have := HK2.out; omega
          case rel => exact ⟨(x9_2), (wrap64 (x10_2 + 1)), rf_, rf_, H', ⟨by have := HK1.out; have := HK2.out; omega⟩, ⟨bq_ BK166⟩, bw_⟩
        ·rw [if_neg c13] at H
         have c13b0 : decide (((rd_T58 l1 x10_2).f0) ≤ ((rd_T58 l1 x8_1).f0)) = false := decide_eq_false c13
         clear c13
         have H' := Aside0.mk H
         clear H
         try go_wp2
         replace BK166 := Aside0.mk (blk_drew BK166.out)
         replace HB := Aside0.mk (below_drew1 HB.out)
         have p168 : 0 ≤ (x10_2 : Int) := of_decide_eq_true (by first | (with_reducible assumption) | assumption)
         have q168 : x10_2 < (l1.length : Int) := of_decide_eq_true (by first | (with_reducible assumption) | assumption)
         obtain ⟨ad168, e168, hx168_0, hx168_1⟩ := at_T58 HR1.out x10_2 p168 q168
         have hw168_1 := hx168_1
         have hw168_0 := hx168_0
         cases e168
         replace hx168_0 := (HB.out.cell (World.block_lt_of_cell? w _ hx168_0)).trans hx168_0
         replace hx168_1 := (HB.out.cell (World.block_lt_of_cell? w _ hx168_1)).trans hx168_1
         replace p168 := eq_true p168
         replace q168 := eq_true q168
         have p169 : 0 ≤ (x8_1 : Int) := of_decide_eq_true (by first | (with_reducible assumption) | assumption)
         have q169 : x8_1 < (l1.length : Int) := of_decide_eq_true (by first | (with_reducible assumption) | assumption)
         obtain ⟨ad169, e169, hx169_0, hx169_1⟩ := at_T58 HR1.out x8_1 p169 q169
         have hw169_1 := hx169_1
         have hw169_0 := hx169_0
         obtain rfl : ad168 = ad169 := (by injection e169)
         replace hx169_0 := (HB.out.cell (World.block_lt_of_cell? w _ hx169_0)).trans hx169_0
         replace hx169_1 := (HB.out.cell (World.block_lt_of_cell? w _ hx169_1)).trans hx169_1
         replace p169 := eq_true p169
         replace q169 := eq_true q169
         refine start_ (n := 25) (S := fun w' => w'.cell? (ad168.add ((x10_2).toNat * 2)) = some (.int .u64 ((rd_T58 l1 x10_2).f0)) ∧ w'.cell? ⟨(ad168.add ((x10_2).toNat * 2)).block, (ad168.add ((x10_2).toNat * 2)).off + 1, none⟩ = some (.int .i64 ((rd_T58 l1 x10_2).f1)) ∧ w'.cell? (ad168.add ((x8_1).toNat * 2)) = some (.int .u64 ((rd_T58 l1 x8_1).f0)) ∧ w'.cell? ⟨(ad168.add ((x8_1).toNat * 2)).block, (ad168.add ((x8_1).toNat * 2)).off + 1, none⟩ = some (.int .i64 ((rd_T58 l1 x8_1).f1))) (ds := []) (bl_ 25 0) (by kernel_rfl) rfl (by kernel_rfl) ⟨((HB.out.cell (World.block_lt_of_cell? w _ hw168_0)).trans hw168_0), ((HB.out.cell (World.block_lt_of_cell? w _ hw168_1)).trans hw168_1), ((HB.out.cell (World.block_lt_of_cell? w _ hw169_0)).trans hw169_0), ((HB.out.cell (World.block_lt_of_cell? w _ hw169_1)).trans hw169_1)⟩ (fun hHeld => ?_); refine with_tabW spigotref38_Most.tab12 spigotref38_Most.bits12 (fun HT_ HW_ => ?_)
         generalize wr.drew = w20 at BK166 HB hx168_0 hx168_1 hx169_0 hx169_1 hHeld ⊢
         refine pa_ 0 (some 29) (bl_ 25 1) HT_ ?_
         refine pa_ 1 (some 30) (bl_ 25 3) HT_ ?_
         refine pa_ 2 (some 31) (bl_ 25 7) HT_ ?_
         refine pa_ 3 (some 32) (bl_ 25 15) HT_ ?_
         refine pa_ 5 (some 34) (bl_ 25 47) HT_ ?_
         refine pa_ 6 (some 35) (bl_ 25 111) HT_ ?_
         refine pa_ 7 (some 36) (bl_ 25 239) HT_ ?_
         refine pa_ 8 (some 37) (bl_ 25 495) HT_ ?_
         refine ta_ 4 (some 33) (bl_ 25 511) HT_ HW_ hHeld ?_
         refine ta_ 9 (some 38) (bl_ 25 1023) HT_ HW_ hHeld ?_
         refine pa_ 10 (some 39) (bl_ 25 2047) HT_ ?_
         refine pa_ 11 (some 40) (bl_ 25 4095) HT_ ?_
         refine pz_ 12 (some 41) (bl_ 25 8191) HT_ ?_
         refine pz_ 13 (some 42) (bl_ 25 16383) HT_ ?_
         refine pz_ 14 (some 43) (bl_ 25 32767) HT_ ?_
         refine pz_ 15 (some 44) (bl_ 25 65535) HT_ ?_
         refine pz_ 16 (some 45) (bl_ 25 131071) HT_ ?_
         refine pz_ 17 (some 46) (bl_ 25 262143) HT_ ?_
         refine pz_ 18 (some 47) (bl_ 25 524287) HT_ ?_
         refine pz_ 19 (some 48) (bl_ 25 1048575) HT_ ?_
         refine pz_ 20 (some 49) (bl_ 25 2097151) HT_ ?_
         refine pz_ 21 (some 50) (bl_ 25 4194303) HT_ ?_
         refine pz_ 22 (some 51) (bl_ 25 8388607) HT_ ?_
         refine pz_ 23 (some 52) (bl_ 25 16777215) HT_ ?_
         refine pa_ 24 (some 53) (bl_ 25 33554431) HT_ ?_
         refine done_ (done_of HT_.out (by kernel_rfl)) ?_
         try go_wp2
         go_roundg k2
         case measure => have := HK1.out; have := HK2.out; omega
         case rel => exact ⟨(x9_2), (wrap64 (x10_2 + 1)), rf_, rf_, H', ⟨by have := HK1.out; have := HK2.out; omega⟩, ⟨bq_ BK166⟩, bw_⟩
       ·rw [if_neg c9] at H
        have c9b0 : decide (x10_2 < (l1.length : Int)) = false := decide_eq_false c9
        clear c9
        obtain ⟨ji21, hji21⟩ : ∃ j_ : Int, (mx x7_1 x9_2) = j_ := ⟨_, rfl⟩
        replace H : (spigotref38_Most.l0 k2 l1 ji21 (wrap64 (x8_1 + 1)) a0_0 a0_1) = some (r1, r2) := by first | (rw [hji21] at H; exact H) | (simp only [hji21] at H ⊢; exact H)
        have hji21_ : (if x7_1 < x9_2 then x9_2 else x7_1) = ji21 := hji21
        have H' := Aside0.mk H
        clear H
        go_wp2
        go_roundg k2
        case measure => have := HK1.out; have := HK2.out; omega
        case rel => exact ⟨(ji21), (wrap64 (x8_1 + 1)), (by first | rfl | (simp; done) | (simp only [← hji21] <;> (first | rfl | simp)) | (simp [*]; done)), rf_, H', ⟨by have := HK1.out; have := HK2.out; omega⟩, ⟨bq_ BK166⟩, bw_⟩
    ·rw [if_neg c8] at H
     have c8b0 : decide (x8_1 < (l1.length : Int)) = false := decide_eq_false c8
     clear c8
     simp only [Option.some.injEq, Prod.mk.injEq] at H
     obtain ⟨rfl, rfl⟩ := H
     go_wp2
     go_ret2
     exact fi_
 ·rw [if_neg c4] at H
  have c4b0 : (t167 == 0) = false := beq_eq_false_iff_ne.mpr c4
  have c4b1 : (t167 != 0) = true := bne_iff_ne.mpr c4
  simp only [Option.some.injEq, Prod.mk.injEq] at H
  obtain ⟨rfl, rfl⟩ := H
  go_enter Try.func13, Try.ntmps13
  go_wp2_with (first | ((with_reducible refine gate_dst (N := 2) rfl ?_); (try refine ug_ (by rfl) ?_); refine bx_ #[.int .i64 a0_0, .int .i64 a0_1] 23 ?_; intro gb166 hg w22 BK166 hb; have GW166 := bz_ w hg; have GE166 := GW166; replace HB := bs_ w hb; clear hb hg; replace hc166 := ce2_ BK166) | ((with_reducible refine gate_callee (f := 31) rfl ?_); (try refine ug_ (by rfl) ?_); refine goesA_ (some 13) Try.func31 #[.agg #[.int .i64 a0_0, .int .i64 a0_1], .slice A1 l1.length c1] ?_; (with_reducible refine (spigotref38_both.calls k a0_0 a0_1 _ _ l1 t167 _ ?side1 ?side2 A3.out).mono ?_); (case side1 => exact cs_ HR1 HB); (case side2 => exact HC1.out); rintro e w24 ⟨rfl, hb⟩; refine ⟨_, rfl, ?_⟩; replace BK166 := bb_ BK166 hb; replace HB := bs_ w hb; clear hb))
  go_ret2
  exact fi_

end Go.Proofs.Ytjjmnafhaneflaa.X
