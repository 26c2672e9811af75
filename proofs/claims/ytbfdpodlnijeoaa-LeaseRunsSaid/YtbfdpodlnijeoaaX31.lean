-- written by xprint.py, a program of this session over the kit's print
import Derived.Test.YtbfdpodlnijeoaaX0
import Derived.Test.YtbfdpodlnijeoaaX20
namespace Go.Proofs.Ytbfdpodlnijeoaa.X
open Go.RowKit Go.Proofs.YtbfdpodlnijeoaaW.PrintWords Go.Proofs.YtbfdpodlnijeoaaW.PrintLast Go.Proofs.YtbfdpodlnijeoaaW.PrintMore
attribute [local go_sem] max2_int min2_int max_two min_two max_three min_three max_four min_four   -- for this text's walks alone
set_option linter.unusedVariables false
set_option linter.unusedSimpArgs false

/-! ### spigotref42_Spent: function 20 -/
mutual
def spigotref42_Spent.l0 : Nat → List (S31) → List Int → Int → Int → Option (Int × Int)
  | 0, _, _, _, _ => none
  | k + 1, x0, x1, x6, x7 => if x7 < (x0.length : Int) then (if 0 ≤ x7 then ((spigotref42_Valid.f ((rd_T31 x0 x7).f0) ((rd_T31 x0 x7).f1) ((rd_T31 x0 x7).f2) ((rd_T31 x0 x7).f3)).bind fun t473 => (if t473 = true then (if ((rd_T31 x0 x7).f0) = 2 then (if x7 < (x1.length : Int) then (if (rd x1 x7) = (-1) then (spigotref42_Spent.j1 k x0 x1 x6 x7 (((rd_T31 x0 x7).f0) == 2) false) else (spigotref42_Spent.j1 k x0 x1 x6 x7 (((rd_T31 x0 x7).f0) == 2) ((rd x1 x7) != ((rd_T31 x0 x7).f3)))) else (none)) else (spigotref42_Spent.j1 k x0 x1 x6 x7 (((rd_T31 x0 x7).f0) == 2) false)) else (spigotref42_Spent.j1 k x0 x1 x6 x7 (((rd_T31 x0 x7).f0) == 2) true))) else (none)) else (some (x6, 0))
def spigotref42_Spent.j1 : Nat → List (S31) → List Int → Int → Int → Bool → Bool → Option (Int × Int)
  | 0, _, _, _, _, _, _ => none
  | k + 1, x0, x1, x6, x7, x8, x56 => if x56 = true then (some (0, 8)) else (if x8 = true then (if 0 ≤ x7 then (if x7 < (x1.length : Int) then (if (rd x1 x7) ≥ 0 then (spigotref42_Spent.l0 k x0 x1 (wrap64 (x6 + (rd x1 x7))) (wrap64 (x7 + 1))) else (spigotref42_Spent.l0 k x0 x1 x6 (wrap64 (x7 + 1)))) else (none)) else (none)) else (spigotref42_Spent.l0 k x0 x1 x6 (wrap64 (x7 + 1))))
end
def spigotref42_Spent.f (k : Nat) (l0 : List (S31)) (l1 : List Int) : Option (Int × Int) := if (l0.length : Int) > 100 then (some (0, 4)) else (if (l1.length : Int) = (l0.length : Int) then (spigotref42_Spent.l0 k l0 l1 0 0) else (some (0, 2)))
theorem spigotref42_Spent.mono_l : ∀ k, (∀ y0 y1 y2 y3, LeO (spigotref42_Spent.l0 k y0 y1 y2 y3) (spigotref42_Spent.l0 (k + 1) y0 y1 y2 y3)) ∧ (∀ y0 y1 y2 y3 y4 y5, LeO (spigotref42_Spent.j1 k y0 y1 y2 y3 y4 y5) (spigotref42_Spent.j1 (k + 1) y0 y1 y2 y3 y4 y5))
  | 0 => ⟨fun _ _ _ _ r h => by simp [spigotref42_Spent.l0] at h, fun _ _ _ _ _ _ r h => by simp [spigotref42_Spent.j1] at h⟩
  | k + 1 => by
    obtain ⟨ih0, ih1⟩ := spigotref42_Spent.mono_l k
    refine ⟨?_, ?_⟩
    · intro y0 y1 y2 y3
      unfold spigotref42_Spent.l0
      repeat' first
      | (with_reducible exact ih0 _ _ _ _)
      | (with_reducible exact ih1 _ _ _ _ _ _)
      | (with_reducible exact LeO.refl _)
      | (with_reducible exact LeO.none _)
      | (with_reducible refine LeO.ite ?_ ?_)
      | (with_reducible refine LeO.bind ?_ (fun _ => ?_))
      | exact ih0 _ _ _ _
      | exact ih1 _ _ _ _ _ _
      | exact LeO.none _
      | refine LeO.ite ?_ ?_
      | refine LeO.bind ?_ (fun _ => ?_)
    · intro y0 y1 y2 y3 y4 y5
      unfold spigotref42_Spent.j1
      repeat' first
      | (with_reducible exact ih0 _ _ _ _)
      | (with_reducible exact ih1 _ _ _ _ _ _)
      | (with_reducible exact LeO.refl _)
      | (with_reducible exact LeO.none _)
      | (with_reducible refine LeO.ite ?_ ?_)
      | (with_reducible refine LeO.bind ?_ (fun _ => ?_))
      | exact ih0 _ _ _ _
      | exact ih1 _ _ _ _ _ _
      | exact LeO.none _
      | refine LeO.ite ?_ ?_
      | refine LeO.bind ?_ (fun _ => ?_)
theorem spigotref42_Spent.mono : ∀ a0 a1 k, LeO (spigotref42_Spent.f k a0 a1) (spigotref42_Spent.f (k + 1) a0 a1) := by
  intro a0 a1 k
  obtain ⟨ih0, ih1⟩ := spigotref42_Spent.mono_l k
  unfold spigotref42_Spent.f
  repeat' first
      | (with_reducible exact ih0 _ _ _ _)
      | (with_reducible exact ih1 _ _ _ _ _ _)
      | (with_reducible exact LeO.refl _)
      | (with_reducible exact LeO.none _)
      | (with_reducible refine LeO.ite ?_ ?_)
      | (with_reducible refine LeO.bind ?_ (fun _ => ?_))
      | exact ih0 _ _ _ _
      | exact ih1 _ _ _ _ _ _
      | exact LeO.none _
      | refine LeO.ite ?_ ?_
      | refine LeO.bind ?_ (fun _ => ?_)
def spigotref42_Spent.T10 : Bool × List (List Nat × List Nat) := (true, [([], []), ([], []), ([0, 1], [0, 1]), ([2], [2]), ([3], [3]), ([4], [4]), ([5, 4], [5]), ([6], [6]), ([7, 6, 6], [6, 7]), ([8], [8]), ([8], [8]), ([9, 10, 8], [8, 9, 10]), ([11, 8], [8, 11]), ([12, 8], [8, 12]), ([8, 13, 6], [6, 8, 13]), ([14, 8, 6], [6, 14]), ([15], [15]), ([15], [15]), ([16, 17, 15], [15, 16, 17]), ([18, 15], [15, 18]), ([15], [15]), ([15], [15]), ([20, 21, 15], [15, 20, 21]), ([22, 15], [15, 22]), ([23, 15], [15, 23]), ([19, 24, 15], [15, 19, 24]), ([15, 25, 6], [6, 15, 25]), ([6, 26], [6, 26])])
def spigotref42_Spent.B10 : List Nat := [0, 0, 3, 7, 15, 31, 63, 127, 255, 511, 511, 2047, 4095, 8191, 16383, 32767, 65535, 65535, 262143, 524287, 65535, 65535, 3211263, 7405567, 15794175, 33554431, 67108863, 134217727]
theorem spigotref42_Spent.tab10 : rtab .any (opsOf Try.f20 10) = spigotref42_Spent.T10 := by kernel_rfl
theorem spigotref42_Spent.bits10 : waitsOk spigotref42_Spent.T10.2 spigotref42_Spent.B10 = true := by kernel_rfl
set_option maxHeartbeats 8000000 in
set_option maxRecDepth 100000 in
theorem spigotref42_Spent.calls (k : Nat) (A0 : Option Addr) (c0 : Nat) (l0 : List (S31)) (A1 : Option Addr) (c1 : Nat) (l1 : List Int) (r1 : Int) (r2 : Int) (w : World) (hr0 : Kd.C k31 w A0 l0.length l0) (hc0 : l0.length ≤ c0) (hr1 : Kd.C (Kd.int .i64) w A1 l1.length l1) (hc1 : l1.length ≤ c1) (h : spigotref42_Spent.f k l0 l1 = some (r1, r2)) :
  Calls Try.prog 20 #[.slice A0 l0.length c0, .slice A1 l1.length c1] w fun e w' => e = .returned (.tuple #[.int .i64 r1, .int .i64 r2]) ∧ Below w.heap.size w w' := by
 have hu31 := Try.underlying31
 have HR0 := Aside0.mk hr0
 have HC0 := Aside0.mk hc0
 clear hr0 hc0
 have HR1 := Aside0.mk hr1
 have HC1 := Aside0.mk hc1
 clear hr1 hc1
 have HB := Aside0.mk (Below.refl w.heap.size w)
 have H : (if (l0.length : Int) > 100 then (some (0, 4)) else (if (l1.length : Int) = (l0.length : Int) then (spigotref42_Spent.l0 k l0 l1 0 0) else (some (0, 2)))) = some (r1, r2) := h
 clear h
 by_cases c3 : (l0.length : Int) > 100
 ·rw [if_pos c3] at H
  have c3b0 : decide (100 < (l0.length : Int)) = true := decide_eq_true c3
  have c3b1 : decide (100 < l0.length) = true := decide_eq_true (by omega)
  clear c3
  simp only [Option.some.injEq, Prod.mk.injEq] at H
  obtain ⟨rfl, rfl⟩ := H
  go_enter Try.func20, Try.ntmps20
  go_wp2
  go_ret2
  exact fi_
 ·rw [if_neg c3] at H
  have c3b0 : decide (100 < (l0.length : Int)) = false := decide_eq_false c3
  have c3b1 : decide (100 < l0.length) = false := decide_eq_false (by omega)
  clear c3
  by_cases c4 : (l1.length : Int) = (l0.length : Int)
  ·rw [if_pos c4] at H
   have c4b0 : ((l1.length : Int) == (l0.length : Int)) = true := beq_iff_eq.mpr c4
   have c4b1 : ((l1.length : Int) != (l0.length : Int)) = false := bne_eq_false_iff_eq.mpr c4
   have c4b2 : (l1.length == l0.length) = true := by first | simpa using c4 | (simp at c4 ⊢; omega)
   clear c4
   have H' := Aside0.mk H
   clear H
   go_enter Try.func20, Try.ntmps20
   go_wp2
   go_loopg [6, 7] k (fun kq v6 v7 w' => ∃ (x6_1 : Int) (x7_1 : Int), v6 = .int .i64 x6_1 ∧ v7 = .int .i64 x7_1 ∧ Aside0 (spigotref42_Spent.l0 kq l0 l1 x6_1 x7_1 = some (r1, r2)) ∧ Aside0 (kq ≤ k) ∧ Aside0 (Below w.heap.size w w'))
   case atStart => exact ⟨(0), (0), rf_, rf_, H', ⟨Nat.le_refl _⟩, bw_⟩
   case round =>
    clear H'
    try clear c1
    try clear c3
    try clear c3b0
    try clear c3b1
    try clear c4
    try clear c4b0
    try clear c4b1
    try clear c4b2
    obtain ⟨x6_1, x7_1, rfl, rfl, HA, HK1, HB⟩ := hrel
    cases gk with
    | zero => exact absurd HA.out (by simp [spigotref42_Spent.l0])
    | succ k1 =>
     have H := HA.out
     clear HA
     simp only [spigotref42_Spent.l0] at H
     by_cases c5 : x7_1 < (l0.length : Int)
     ·rw [if_pos c5] at H
      have c5b0 : decide (x7_1 < (l0.length : Int)) = true := decide_eq_true c5
      clear c5
      by_cases c6 : 0 ≤ x7_1
      rotate_left
      ·rw [if_neg c6] at H; exact absurd H (by simp)
      rw [if_pos c6] at H
      have c6b0 : decide (0 ≤ x7_1) = true := decide_eq_true c6
      clear c6
      have HC7 := Aside0.mk H
      clear H
      have p471 : 0 ≤ (x7_1 : Int) := of_decide_eq_true (by first | (with_reducible assumption) | assumption)
      have q471 : x7_1 < (l0.length : Int) := of_decide_eq_true (by first | (with_reducible assumption) | assumption)
      obtain ⟨ad471, e471, hx471_0, hx471_1, hx471_2, hx471_3⟩ := at_T31 HR0.out x7_1 p471 q471
      cases e471
      replace hx471_0 := (HB.out.cell (World.block_lt_of_cell? w _ hx471_0)).trans hx471_0
      replace hx471_1 := (HB.out.cell (World.block_lt_of_cell? w _ hx471_1)).trans hx471_1
      replace hx471_2 := (HB.out.cell (World.block_lt_of_cell? w _ hx471_2)).trans hx471_2
      replace hx471_3 := (HB.out.cell (World.block_lt_of_cell? w _ hx471_3)).trans hx471_3
      replace p471 := eq_true p471
      replace q471 := eq_true q471
      go_upto_region 10 with (fail)
      go_cut [8, 56] (fun v8 v56 wc => ∃ (kq : Nat) (x56_6 : Bool), v8 = .bool (((rd_T31 l0 x7_1).f0) == 2) ∧ v56 = .bool x56_6 ∧ Aside0 (spigotref42_Spent.j1 kq l0 l1 x6_1 x7_1 (((rd_T31 l0 x7_1).f0) == 2) x56_6 = some (r1, r2)) ∧ Aside0 (kq ≤ k1) ∧ Aside0 (Below w.heap.size w wc))
      case first =>
       have H := HC7.out
       clear HC7
       obtain ⟨t473, A8, H⟩ := bo_ H
       try dsimp only at H
       by_cases c9 : t473 = true
       ·subst c9
        rw [if_pos rfl] at H
        try dsimp only at H
        by_cases c10 : ((rd_T31 l0 x7_1).f0) = 2
        ·rw [if_pos c10] at H
         have c10b0 : (((rd_T31 l0 x7_1).f0) == 2) = true := beq_iff_eq.mpr c10
         have c10b1 : (((rd_T31 l0 x7_1).f0) != 2) = false := bne_eq_false_iff_eq.mpr c10
         clear c10
         (first | rw [c10b0] | (simp only [i64_w, i32_w]; rw [c10b0]) | skip)
         by_cases c11 : x7_1 < (l1.length : Int)
         rotate_left
         ·rw [if_neg c11] at H; exact absurd H (by simp)
         rw [if_pos c11] at H
         have c11b0 : decide (x7_1 < (l1.length : Int)) = true := decide_eq_true c11
         clear c11
         by_cases c12 : (rd l1 x7_1) = (-1)
         ·rw [if_pos c12] at H
          have c12b0 : ((rd l1 x7_1) == (-1)) = true := beq_iff_eq.mpr c12
          have c12b1 : ((rd l1 x7_1) != (-1)) = false := bne_eq_false_iff_eq.mpr c12
          clear c12
          have H' := Aside0.mk H
          clear H
          try go_wp2
          replace HB := Aside0.mk (below_drew1 HB.out)
          have p472 : 0 ≤ (x7_1 : Int) := of_decide_eq_true (by first | (with_reducible assumption) | assumption)
          have q472 : x7_1 < (l0.length : Int) := of_decide_eq_true (by first | (with_reducible assumption) | assumption)
          obtain ⟨ad472, e472, hx472_0, hx472_1, hx472_2, hx472_3⟩ := at_T31 HR0.out x7_1 p472 q472
          have hw472_3 := hx472_3
          have hw472_2 := hx472_2
          have hw472_1 := hx472_1
          have hw472_0 := hx472_0
          obtain rfl : ad471 = ad472 := (by injection e472)
          replace hx472_0 := (HB.out.cell (World.block_lt_of_cell? w _ hx472_0)).trans hx472_0
          replace hx472_1 := (HB.out.cell (World.block_lt_of_cell? w _ hx472_1)).trans hx472_1
          replace hx472_2 := (HB.out.cell (World.block_lt_of_cell? w _ hx472_2)).trans hx472_2
          replace hx472_3 := (HB.out.cell (World.block_lt_of_cell? w _ hx472_3)).trans hx472_3
          replace p472 := eq_true p472
          replace q472 := eq_true q472
          have p474 : 0 ≤ (x7_1 : Int) := of_decide_eq_true (by first | (with_reducible assumption) | assumption)
          have q474 : x7_1 < (l1.length : Int) := of_decide_eq_true (by first | (with_reducible assumption) | assumption)
          obtain ⟨ad474, e474, hx474_0⟩ := Kd.at_int HR1.out x7_1 p474 q474
          have hw474_0 := hx474_0
          cases e474
          replace hx474_0 := (HB.out.cell (World.block_lt_of_cell? w _ hx474_0)).trans hx474_0
          replace p474 := eq_true p474
          replace q474 := eq_true q474
          refine start_ (n := 28) (S := fun w' => w'.cell? (ad471.add ((x7_1).toNat * 4)) = some (.int .u8 ((rd_T31 l0 x7_1).f0)) ∧ w'.cell? ⟨(ad471.add ((x7_1).toNat * 4)).block, (ad471.add ((x7_1).toNat * 4)).off + 1, none⟩ = some (.int .i64 ((rd_T31 l0 x7_1).f1)) ∧ w'.cell? ⟨(ad471.add ((x7_1).toNat * 4)).block, (ad471.add ((x7_1).toNat * 4)).off + 2, none⟩ = some (.int .u64 ((rd_T31 l0 x7_1).f2)) ∧ w'.cell? ⟨(ad471.add ((x7_1).toNat * 4)).block, (ad471.add ((x7_1).toNat * 4)).off + 3, none⟩ = some (.int .i64 ((rd_T31 l0 x7_1).f3)) ∧ w'.cell? (ad474.add (x7_1).toNat) = some (.int .i64 (rd l1 x7_1))) (ds := []) (bl_ 28 0) (by kernel_rfl) rfl (by kernel_rfl) ⟨((HB.out.cell (World.block_lt_of_cell? w _ hw472_0)).trans hw472_0), ((HB.out.cell (World.block_lt_of_cell? w _ hw472_1)).trans hw472_1), ((HB.out.cell (World.block_lt_of_cell? w _ hw472_2)).trans hw472_2), ((HB.out.cell (World.block_lt_of_cell? w _ hw472_3)).trans hw472_3), ((HB.out.cell (World.block_lt_of_cell? w _ hw474_0)).trans hw474_0)⟩ (fun hHeld => ?_); refine with_tabW spigotref42_Spent.tab10 spigotref42_Spent.bits10 (fun HT_ HW_ => ?_)
          generalize wr.drew = w13 at HB hx472_0 hx472_1 hx472_2 hx472_3 hx474_0 hHeld ⊢
          refine pa_ 0 (some 29) (bl_ 28 1) HT_ ?_
          refine pa_ 1 (some 30) (bl_ 28 3) HT_ ?_
          refine pa_ 2 (some 31) (bl_ 28 7) HT_ ?_
          refine ta_ 3 (some 32) (bl_ 28 15) HT_ HW_ hHeld ?_
          refine oa_ 4 (some 33) (bl_ 28 31) HT_ fun K hK => ?_
          refine goesB_ Try.func13 #[.agg #[.int .u8 ((rd_T31 l0 x7_1).f0), .int .i64 ((rd_T31 l0 x7_1).f1), .int .u64 ((rd_T31 l0 x7_1).f2), .int .i64 ((rd_T31 l0 x7_1).f3)]] ?_
          with_reducible refine (spigotref42_Valid.calls ((rd_T31 l0 x7_1).f0) ((rd_T31 l0 x7_1).f1) ((rd_T31 l0 x7_1).f2) ((rd_T31 l0 x7_1).f3) true _ A8.out).mono ?_
          rintro e w14 ⟨rfl, hb⟩
          refine ⟨_, rfl, ?_⟩
          replace HB := bs_ w hb
          clear hb
          refine hK.out _ _ ⟨((HB.out.cell (World.block_lt_of_cell? w _ hw472_0)).trans hw472_0), ((HB.out.cell (World.block_lt_of_cell? w _ hw472_1)).trans hw472_1), ((HB.out.cell (World.block_lt_of_cell? w _ hw472_2)).trans hw472_2), ((HB.out.cell (World.block_lt_of_cell? w _ hw472_3)).trans hw472_3), ((HB.out.cell (World.block_lt_of_cell? w _ hw474_0)).trans hw474_0)⟩ (fun hHeld => ?_)
          clear hK K
          refine nm_ (some 33) ?_
          refine pa_ 5 (some 34) (bl_ 28 63) HT_ ?_
          refine pa_ 6 (some 35) (bl_ 28 127) HT_ ?_
          refine pa_ 7 (some 36) (bl_ 28 255) HT_ ?_
          refine pa_ 8 (some 37) (bl_ 28 511) HT_ ?_
          refine pa_ 9 (some 38) (bl_ 28 1023) HT_ ?_
          refine pa_ 10 (some 39) (bl_ 28 2047) HT_ ?_
          refine pa_ 11 (some 40) (bl_ 28 4095) HT_ ?_
          refine ta_ 12 (some 41) (bl_ 28 8191) HT_ HW_ hHeld ?_
          refine pa_ 13 (some 42) (bl_ 28 16383) HT_ ?_
          refine pa_ 14 (some 43) (bl_ 28 32767) HT_ ?_
          refine pa_ 15 (some 44) (bl_ 28 65535) HT_ ?_
          refine pz_ 16 (some 45) (bl_ 28 131071) HT_ ?_
          refine pz_ 17 (some 46) (bl_ 28 262143) HT_ ?_
          refine pz_ 18 (some 47) (bl_ 28 524287) HT_ ?_
          refine pz_ 19 (some 48) (bl_ 28 1048575) HT_ ?_
          refine pz_ 20 (some 49) (bl_ 28 2097151) HT_ ?_
          refine pz_ 21 (some 50) (bl_ 28 4194303) HT_ ?_
          refine pz_ 22 (some 51) (bl_ 28 8388607) HT_ ?_
          refine pz_ 23 (some 52) (bl_ 28 16777215) HT_ ?_
          refine pz_ 24 (some 53) (bl_ 28 33554431) HT_ ?_
          refine pz_ 25 (some 54) (bl_ 28 67108863) HT_ ?_
          refine pa_ 26 (some 55) (bl_ 28 134217727) HT_ ?_
          refine pa_ 27 (some 56) (bl_ 28 268435455) HT_ ?_
          refine done_ (done_of HT_.out (by kernel_rfl)) ?_
          try go_wp2
          go_meet
          case rel => exact ⟨_, (false), rf_, rf_, H', ⟨by have := HK1.out; first | omega | exact Nat.le_refl _⟩, bw_⟩
         ·rw [if_neg c12] at H
          have c12b0 : ((rd l1 x7_1) == (-1)) = false := beq_eq_false_iff_ne.mpr c12
          have c12b1 : ((rd l1 x7_1) != (-1)) = true := bne_iff_ne.mpr c12
          have H' := Aside0.mk H
          clear H
          try go_wp2
          replace HB := Aside0.mk (below_drew1 HB.out)
          have p472 : 0 ≤ (x7_1 : Int) := of_decide_eq_true (by first | (with_reducible assumption) | assumption)
          have q472 : x7_1 < (l0.length : Int) := of_decide_eq_true (by first | (with_reducible assumption) | assumption)
          obtain ⟨ad472, e472, hx472_0, hx472_1, hx472_2, hx472_3⟩ := at_T31 HR0.out x7_1 p472 q472
          have hw472_3 := hx472_3
          have hw472_2 := hx472_2
          have hw472_1 := hx472_1
          have hw472_0 := hx472_0
          obtain rfl : ad471 = ad472 := (by injection e472)
          replace hx472_0 := (HB.out.cell (World.block_lt_of_cell? w _ hx472_0)).trans hx472_0
          replace hx472_1 := (HB.out.cell (World.block_lt_of_cell? w _ hx472_1)).trans hx472_1
          replace hx472_2 := (HB.out.cell (World.block_lt_of_cell? w _ hx472_2)).trans hx472_2
          replace hx472_3 := (HB.out.cell (World.block_lt_of_cell? w _ hx472_3)).trans hx472_3
          replace p472 := eq_true p472
          replace q472 := eq_true q472
          have p474 : 0 ≤ (x7_1 : Int) := of_decide_eq_true (by first | (with_reducible assumption) | assumption)
          have q474 : x7_1 < (l1.length : Int) := of_decide_eq_true (by first | (with_reducible assumption) | assumption)
          obtain ⟨ad474, e474, hx474_0⟩ := Kd.at_int HR1.out x7_1 p474 q474
          have hw474_0 := hx474_0
          cases e474
          replace hx474_0 := (HB.out.cell (World.block_lt_of_cell? w _ hx474_0)).trans hx474_0
          replace p474 := eq_true p474
          replace q474 := eq_true q474
          have p475 : 0 ≤ (x7_1 : Int) := of_decide_eq_true (by first | (with_reducible assumption) | assumption)
          have q475 : x7_1 < (l1.length : Int) := of_decide_eq_true (by first | (with_reducible assumption) | assumption)
          obtain ⟨ad475, e475, hx475_0⟩ := Kd.at_int HR1.out x7_1 p475 q475
          have hw475_0 := hx475_0
          obtain rfl : ad474 = ad475 := (by injection e475)
          replace hx475_0 := (HB.out.cell (World.block_lt_of_cell? w _ hx475_0)).trans hx475_0
          replace p475 := eq_true p475
          replace q475 := eq_true q475
          have p476 : 0 ≤ (x7_1 : Int) := of_decide_eq_true (by first | (with_reducible assumption) | assumption)
          have q476 : x7_1 < (l0.length : Int) := of_decide_eq_true (by first | (with_reducible assumption) | assumption)
          obtain ⟨ad476, e476, hx476_0, hx476_1, hx476_2, hx476_3⟩ := at_T31 HR0.out x7_1 p476 q476
          have hw476_3 := hx476_3
          have hw476_2 := hx476_2
          have hw476_1 := hx476_1
          have hw476_0 := hx476_0
          obtain rfl : ad471 = ad476 := (by injection e476)
          replace hx476_0 := (HB.out.cell (World.block_lt_of_cell? w _ hx476_0)).trans hx476_0
          replace hx476_1 := (HB.out.cell (World.block_lt_of_cell? w _ hx476_1)).trans hx476_1
          replace hx476_2 := (HB.out.cell (World.block_lt_of_cell? w _ hx476_2)).trans hx476_2
          replace hx476_3 := (HB.out.cell (World.block_lt_of_cell? w _ hx476_3)).trans hx476_3
          replace p476 := eq_true p476
          replace q476 := eq_true q476
          refine start_ (n := 28) (S := fun w' => w'.cell? (ad471.add ((x7_1).toNat * 4)) = some (.int .u8 ((rd_T31 l0 x7_1).f0)) ∧ w'.cell? ⟨(ad471.add ((x7_1).toNat * 4)).block, (ad471.add ((x7_1).toNat * 4)).off + 1, none⟩ = some (.int .i64 ((rd_T31 l0 x7_1).f1)) ∧ w'.cell? ⟨(ad471.add ((x7_1).toNat * 4)).block, (ad471.add ((x7_1).toNat * 4)).off + 2, none⟩ = some (.int .u64 ((rd_T31 l0 x7_1).f2)) ∧ w'.cell? ⟨(ad471.add ((x7_1).toNat * 4)).block, (ad471.add ((x7_1).toNat * 4)).off + 3, none⟩ = some (.int .i64 ((rd_T31 l0 x7_1).f3)) ∧ w'.cell? (ad474.add (x7_1).toNat) = some (.int .i64 (rd l1 x7_1)) ∧ w'.cell? (ad474.add (x7_1).toNat) = some (.int .i64 (rd l1 x7_1)) ∧ w'.cell? (ad471.add ((x7_1).toNat * 4)) = some (.int .u8 ((rd_T31 l0 x7_1).f0)) ∧ w'.cell? ⟨(ad471.add ((x7_1).toNat * 4)).block, (ad471.add ((x7_1).toNat * 4)).off + 1, none⟩ = some (.int .i64 ((rd_T31 l0 x7_1).f1)) ∧ w'.cell? ⟨(ad471.add ((x7_1).toNat * 4)).block, (ad471.add ((x7_1).toNat * 4)).off + 2, none⟩ = some (.int .u64 ((rd_T31 l0 x7_1).f2)) ∧ w'.cell? ⟨(ad471.add ((x7_1).toNat * 4)).block, (ad471.add ((x7_1).toNat * 4)).off + 3, none⟩ = some (.int .i64 ((rd_T31 l0 x7_1).f3))) (ds := []) (bl_ 28 0) (by kernel_rfl) rfl (by kernel_rfl) ⟨((HB.out.cell (World.block_lt_of_cell? w _ hw472_0)).trans hw472_0), ((HB.out.cell (World.block_lt_of_cell? w _ hw472_1)).trans hw472_1), ((HB.out.cell (World.block_lt_of_cell? w _ hw472_2)).trans hw472_2), ((HB.out.cell (World.block_lt_of_cell? w _ hw472_3)).trans hw472_3), ((HB.out.cell (World.block_lt_of_cell? w _ hw474_0)).trans hw474_0), ((HB.out.cell (World.block_lt_of_cell? w _ hw475_0)).trans hw475_0), ((HB.out.cell (World.block_lt_of_cell? w _ hw476_0)).trans hw476_0), ((HB.out.cell (World.block_lt_of_cell? w _ hw476_1)).trans hw476_1), ((HB.out.cell (World.block_lt_of_cell? w _ hw476_2)).trans hw476_2), ((HB.out.cell (World.block_lt_of_cell? w _ hw476_3)).trans hw476_3)⟩ (fun hHeld => ?_); refine with_tabW spigotref42_Spent.tab10 spigotref42_Spent.bits10 (fun HT_ HW_ => ?_)
          generalize wr.drew = w15 at HB hx472_0 hx472_1 hx472_2 hx472_3 hx474_0 hx475_0 hx476_0 hx476_1 hx476_2 hx476_3 hHeld ⊢
          refine pa_ 0 (some 29) (bl_ 28 1) HT_ ?_
          refine pa_ 1 (some 30) (bl_ 28 3) HT_ ?_
          refine pa_ 2 (some 31) (bl_ 28 7) HT_ ?_
          refine ta_ 3 (some 32) (bl_ 28 15) HT_ HW_ hHeld ?_
          refine oa_ 4 (some 33) (bl_ 28 31) HT_ fun K hK => ?_
          refine goesB_ Try.func13 #[.agg #[.int .u8 ((rd_T31 l0 x7_1).f0), .int .i64 ((rd_T31 l0 x7_1).f1), .int .u64 ((rd_T31 l0 x7_1).f2), .int .i64 ((rd_T31 l0 x7_1).f3)]] ?_
          with_reducible refine (spigotref42_Valid.calls ((rd_T31 l0 x7_1).f0) ((rd_T31 l0 x7_1).f1) ((rd_T31 l0 x7_1).f2) ((rd_T31 l0 x7_1).f3) true _ A8.out).mono ?_
          rintro e w16 ⟨rfl, hb⟩
          refine ⟨_, rfl, ?_⟩
          replace HB := bs_ w hb
          clear hb
          refine hK.out _ _ ⟨((HB.out.cell (World.block_lt_of_cell? w _ hw472_0)).trans hw472_0), ((HB.out.cell (World.block_lt_of_cell? w _ hw472_1)).trans hw472_1), ((HB.out.cell (World.block_lt_of_cell? w _ hw472_2)).trans hw472_2), ((HB.out.cell (World.block_lt_of_cell? w _ hw472_3)).trans hw472_3), ((HB.out.cell (World.block_lt_of_cell? w _ hw474_0)).trans hw474_0), ((HB.out.cell (World.block_lt_of_cell? w _ hw475_0)).trans hw475_0), ((HB.out.cell (World.block_lt_of_cell? w _ hw476_0)).trans hw476_0), ((HB.out.cell (World.block_lt_of_cell? w _ hw476_1)).trans hw476_1), ((HB.out.cell (World.block_lt_of_cell? w _ hw476_2)).trans hw476_2), ((HB.out.cell (World.block_lt_of_cell? w _ hw476_3)).trans hw476_3)⟩ (fun hHeld => ?_)
          clear hK K
          refine nm_ (some 33) ?_
          refine pa_ 5 (some 34) (bl_ 28 63) HT_ ?_
          refine pa_ 6 (some 35) (bl_ 28 127) HT_ ?_
          refine pa_ 7 (some 36) (bl_ 28 255) HT_ ?_
          refine pa_ 8 (some 37) (bl_ 28 511) HT_ ?_
          refine pa_ 9 (some 38) (bl_ 28 1023) HT_ ?_
          refine pa_ 10 (some 39) (bl_ 28 2047) HT_ ?_
          refine pa_ 11 (some 40) (bl_ 28 4095) HT_ ?_
          refine ta_ 12 (some 41) (bl_ 28 8191) HT_ HW_ hHeld ?_
          refine pa_ 13 (some 42) (bl_ 28 16383) HT_ ?_
          refine pa_ 14 (some 43) (bl_ 28 32767) HT_ ?_
          refine pa_ 15 (some 44) (bl_ 28 65535) HT_ ?_
          refine pa_ 16 (some 45) (bl_ 28 131071) HT_ ?_
          refine pa_ 17 (some 46) (bl_ 28 262143) HT_ ?_
          refine pa_ 18 (some 47) (bl_ 28 524287) HT_ ?_
          refine pa_ 20 (some 49) (bl_ 28 1572863) HT_ ?_
          refine pa_ 21 (some 50) (bl_ 28 3670015) HT_ ?_
          refine pa_ 22 (some 51) (bl_ 28 7864319) HT_ ?_
          refine pa_ 23 (some 52) (bl_ 28 16252927) HT_ ?_
          refine ta_ 19 (some 48) (bl_ 28 16777215) HT_ HW_ hHeld ?_
          refine ta_ 24 (some 53) (bl_ 28 33554431) HT_ HW_ hHeld ?_
          refine pa_ 25 (some 54) (bl_ 28 67108863) HT_ ?_
          refine pa_ 26 (some 55) (bl_ 28 134217727) HT_ ?_
          refine pa_ 27 (some 56) (bl_ 28 268435455) HT_ ?_
          refine done_ (done_of HT_.out (by kernel_rfl)) ?_
          try go_wp2
          go_meet
          case rel => exact ⟨_, (((rd l1 x7_1) != ((rd_T31 l0 x7_1).f3))), rf_, rf_, H', ⟨by have := HK1.out; first | omega | exact Nat.le_refl _⟩, bw_⟩
        ·rw [if_neg c10] at H
         have c10b0 : (((rd_T31 l0 x7_1).f0) == 2) = false := beq_eq_false_iff_ne.mpr c10
         have c10b1 : (((rd_T31 l0 x7_1).f0) != 2) = true := bne_iff_ne.mpr c10
         (first | rw [c10b0] | (simp only [i64_w, i32_w]; rw [c10b0]) | skip)
         have H' := Aside0.mk H
         clear H
         try go_wp2
         replace HB := Aside0.mk (below_drew1 HB.out)
         have p472 : 0 ≤ (x7_1 : Int) := of_decide_eq_true (by first | (with_reducible assumption) | assumption)
         have q472 : x7_1 < (l0.length : Int) := of_decide_eq_true (by first | (with_reducible assumption) | assumption)
         obtain ⟨ad472, e472, hx472_0, hx472_1, hx472_2, hx472_3⟩ := at_T31 HR0.out x7_1 p472 q472
         have hw472_3 := hx472_3
         have hw472_2 := hx472_2
         have hw472_1 := hx472_1
         have hw472_0 := hx472_0
         obtain rfl : ad471 = ad472 := (by injection e472)
         replace hx472_0 := (HB.out.cell (World.block_lt_of_cell? w _ hx472_0)).trans hx472_0
         replace hx472_1 := (HB.out.cell (World.block_lt_of_cell? w _ hx472_1)).trans hx472_1
         replace hx472_2 := (HB.out.cell (World.block_lt_of_cell? w _ hx472_2)).trans hx472_2
         replace hx472_3 := (HB.out.cell (World.block_lt_of_cell? w _ hx472_3)).trans hx472_3
         replace p472 := eq_true p472
         replace q472 := eq_true q472
         refine start_ (n := 28) (S := fun w' => w'.cell? (ad471.add ((x7_1).toNat * 4)) = some (.int .u8 ((rd_T31 l0 x7_1).f0)) ∧ w'.cell? ⟨(ad471.add ((x7_1).toNat * 4)).block, (ad471.add ((x7_1).toNat * 4)).off + 1, none⟩ = some (.int .i64 ((rd_T31 l0 x7_1).f1)) ∧ w'.cell? ⟨(ad471.add ((x7_1).toNat * 4)).block, (ad471.add ((x7_1).toNat * 4)).off + 2, none⟩ = some (.int .u64 ((rd_T31 l0 x7_1).f2)) ∧ w'.cell? ⟨(ad471.add ((x7_1).toNat * 4)).block, (ad471.add ((x7_1).toNat * 4)).off + 3, none⟩ = some (.int .i64 ((rd_T31 l0 x7_1).f3))) (ds := []) (bl_ 28 0) (by kernel_rfl) rfl (by kernel_rfl) ⟨((HB.out.cell (World.block_lt_of_cell? w _ hw472_0)).trans hw472_0), ((HB.out.cell (World.block_lt_of_cell? w _ hw472_1)).trans hw472_1), ((HB.out.cell (World.block_lt_of_cell? w _ hw472_2)).trans hw472_2), ((HB.out.cell (World.block_lt_of_cell? w _ hw472_3)).trans hw472_3)⟩ (fun hHeld => ?_); refine with_tabW spigotref42_Spent.tab10 spigotref42_Spent.bits10 (fun HT_ HW_ => ?_)
         generalize wr.drew = w17 at HB hx472_0 hx472_1 hx472_2 hx472_3 hHeld ⊢
         refine pa_ 0 (some 29) (bl_ 28 1) HT_ ?_
         refine pa_ 1 (some 30) (bl_ 28 3) HT_ ?_
         refine pa_ 2 (some 31) (bl_ 28 7) HT_ ?_
         refine ta_ 3 (some 32) (bl_ 28 15) HT_ HW_ hHeld ?_
         refine oa_ 4 (some 33) (bl_ 28 31) HT_ fun K hK => ?_
         refine goesB_ Try.func13 #[.agg #[.int .u8 ((rd_T31 l0 x7_1).f0), .int .i64 ((rd_T31 l0 x7_1).f1), .int .u64 ((rd_T31 l0 x7_1).f2), .int .i64 ((rd_T31 l0 x7_1).f3)]] ?_
         with_reducible refine (spigotref42_Valid.calls ((rd_T31 l0 x7_1).f0) ((rd_T31 l0 x7_1).f1) ((rd_T31 l0 x7_1).f2) ((rd_T31 l0 x7_1).f3) true _ A8.out).mono ?_
         rintro e w18 ⟨rfl, hb⟩
         refine ⟨_, rfl, ?_⟩
         replace HB := bs_ w hb
         clear hb
         refine hK.out _ _ ⟨((HB.out.cell (World.block_lt_of_cell? w _ hw472_0)).trans hw472_0), ((HB.out.cell (World.block_lt_of_cell? w _ hw472_1)).trans hw472_1), ((HB.out.cell (World.block_lt_of_cell? w _ hw472_2)).trans hw472_2), ((HB.out.cell (World.block_lt_of_cell? w _ hw472_3)).trans hw472_3)⟩ (fun hHeld => ?_)
         clear hK K
         refine nm_ (some 33) ?_
         refine pa_ 5 (some 34) (bl_ 28 63) HT_ ?_
         refine pa_ 6 (some 35) (bl_ 28 127) HT_ ?_
         refine pa_ 7 (some 36) (bl_ 28 255) HT_ ?_
         refine pa_ 8 (some 37) (bl_ 28 511) HT_ ?_
         refine pz_ 9 (some 38) (bl_ 28 1023) HT_ ?_
         refine pz_ 10 (some 39) (bl_ 28 2047) HT_ ?_
         refine pz_ 11 (some 40) (bl_ 28 4095) HT_ ?_
         refine pz_ 12 (some 41) (bl_ 28 8191) HT_ ?_
         refine pz_ 13 (some 42) (bl_ 28 16383) HT_ ?_
         refine pa_ 14 (some 43) (bl_ 28 32767) HT_ ?_
         refine pa_ 15 (some 44) (bl_ 28 65535) HT_ ?_
         refine pz_ 16 (some 45) (bl_ 28 131071) HT_ ?_
         refine pz_ 17 (some 46) (bl_ 28 262143) HT_ ?_
         refine pz_ 18 (some 47) (bl_ 28 524287) HT_ ?_
         refine pz_ 19 (some 48) (bl_ 28 1048575) HT_ ?_
         refine pz_ 20 (some 49) (bl_ 28 2097151) HT_ ?_
         refine pz_ 21 (some 50) (bl_ 28 4194303) HT_ ?_
         refine pz_ 22 (some 51) (bl_ 28 8388607) HT_ ?_
         refine pz_ 23 (some 52) (bl_ 28 16777215) HT_ ?_
         refine pz_ 24 (some 53) (bl_ 28 33554431) HT_ ?_
         refine pz_ 25 (some 54) (bl_ 28 67108863) HT_ ?_
         refine pa_ 26 (some 55) (bl_ 28 134217727) HT_ ?_
         refine pa_ 27 (some 56) (bl_ 28 268435455) HT_ ?_
         refine done_ (done_of HT_.out (by kernel_rfl)) ?_
         try go_wp2
         go_meet
         case rel => exact ⟨_, (false), rf_, rf_, H', ⟨by have := HK1.out; first | omega | exact Nat.le_refl _⟩, bw_⟩
       ·replace c9 := Bool.eq_false_iff.mpr c9
        subst c9
        rw [if_neg (show ¬ (false = true) by decide)] at H
        try dsimp only at H
        have H' := Aside0.mk H
        clear H
        try go_wp2
        replace HB := Aside0.mk (below_drew1 HB.out)
        have p472 : 0 ≤ (x7_1 : Int) := of_decide_eq_true (by first | (with_reducible assumption) | assumption)
        have q472 : x7_1 < (l0.length : Int) := of_decide_eq_true (by first | (with_reducible assumption) | assumption)
        obtain ⟨ad472, e472, hx472_0, hx472_1, hx472_2, hx472_3⟩ := at_T31 HR0.out x7_1 p472 q472
        have hw472_3 := hx472_3
        have hw472_2 := hx472_2
        have hw472_1 := hx472_1
        have hw472_0 := hx472_0
        obtain rfl : ad471 = ad472 := (by injection e472)
        replace hx472_0 := (HB.out.cell (World.block_lt_of_cell? w _ hx472_0)).trans hx472_0
        replace hx472_1 := (HB.out.cell (World.block_lt_of_cell? w _ hx472_1)).trans hx472_1
        replace hx472_2 := (HB.out.cell (World.block_lt_of_cell? w _ hx472_2)).trans hx472_2
        replace hx472_3 := (HB.out.cell (World.block_lt_of_cell? w _ hx472_3)).trans hx472_3
        replace p472 := eq_true p472
        replace q472 := eq_true q472
        refine start_ (n := 28) (S := fun w' => w'.cell? (ad471.add ((x7_1).toNat * 4)) = some (.int .u8 ((rd_T31 l0 x7_1).f0)) ∧ w'.cell? ⟨(ad471.add ((x7_1).toNat * 4)).block, (ad471.add ((x7_1).toNat * 4)).off + 1, none⟩ = some (.int .i64 ((rd_T31 l0 x7_1).f1)) ∧ w'.cell? ⟨(ad471.add ((x7_1).toNat * 4)).block, (ad471.add ((x7_1).toNat * 4)).off + 2, none⟩ = some (.int .u64 ((rd_T31 l0 x7_1).f2)) ∧ w'.cell? ⟨(ad471.add ((x7_1).toNat * 4)).block, (ad471.add ((x7_1).toNat * 4)).off + 3, none⟩ = some (.int .i64 ((rd_T31 l0 x7_1).f3))) (ds := []) (bl_ 28 0) (by kernel_rfl) rfl (by kernel_rfl) ⟨((HB.out.cell (World.block_lt_of_cell? w _ hw472_0)).trans hw472_0), ((HB.out.cell (World.block_lt_of_cell? w _ hw472_1)).trans hw472_1), ((HB.out.cell (World.block_lt_of_cell? w _ hw472_2)).trans hw472_2), ((HB.out.cell (World.block_lt_of_cell? w _ hw472_3)).trans hw472_3)⟩ (fun hHeld => ?_); refine with_tabW spigotref42_Spent.tab10 spigotref42_Spent.bits10 (fun HT_ HW_ => ?_)
        generalize wr.drew = w19 at HB hx472_0 hx472_1 hx472_2 hx472_3 hHeld ⊢
        refine pa_ 0 (some 29) (bl_ 28 1) HT_ ?_
        refine pa_ 1 (some 30) (bl_ 28 3) HT_ ?_
        refine pa_ 2 (some 31) (bl_ 28 7) HT_ ?_
        refine ta_ 3 (some 32) (bl_ 28 15) HT_ HW_ hHeld ?_
        refine oa_ 4 (some 33) (bl_ 28 31) HT_ fun K hK => ?_
        refine goesB_ Try.func13 #[.agg #[.int .u8 ((rd_T31 l0 x7_1).f0), .int .i64 ((rd_T31 l0 x7_1).f1), .int .u64 ((rd_T31 l0 x7_1).f2), .int .i64 ((rd_T31 l0 x7_1).f3)]] ?_
        with_reducible refine (spigotref42_Valid.calls ((rd_T31 l0 x7_1).f0) ((rd_T31 l0 x7_1).f1) ((rd_T31 l0 x7_1).f2) ((rd_T31 l0 x7_1).f3) false _ A8.out).mono ?_
        rintro e w20 ⟨rfl, hb⟩
        refine ⟨_, rfl, ?_⟩
        replace HB := bs_ w hb
        clear hb
        refine hK.out _ _ ⟨((HB.out.cell (World.block_lt_of_cell? w _ hw472_0)).trans hw472_0), ((HB.out.cell (World.block_lt_of_cell? w _ hw472_1)).trans hw472_1), ((HB.out.cell (World.block_lt_of_cell? w _ hw472_2)).trans hw472_2), ((HB.out.cell (World.block_lt_of_cell? w _ hw472_3)).trans hw472_3)⟩ (fun hHeld => ?_)
        clear hK K
        refine nm_ (some 33) ?_
        refine pa_ 5 (some 34) (bl_ 28 63) HT_ ?_
        refine pa_ 6 (some 35) (bl_ 28 127) HT_ ?_
        refine pz_ 7 (some 36) (bl_ 28 255) HT_ ?_
        refine pz_ 8 (some 37) (bl_ 28 511) HT_ ?_
        refine pz_ 9 (some 38) (bl_ 28 1023) HT_ ?_
        refine pz_ 10 (some 39) (bl_ 28 2047) HT_ ?_
        refine pz_ 11 (some 40) (bl_ 28 4095) HT_ ?_
        refine pz_ 12 (some 41) (bl_ 28 8191) HT_ ?_
        refine pz_ 13 (some 42) (bl_ 28 16383) HT_ ?_
        refine pz_ 14 (some 43) (bl_ 28 32767) HT_ ?_
        refine pz_ 15 (some 44) (bl_ 28 65535) HT_ ?_
        refine pz_ 16 (some 45) (bl_ 28 131071) HT_ ?_
        refine pz_ 17 (some 46) (bl_ 28 262143) HT_ ?_
        refine pz_ 18 (some 47) (bl_ 28 524287) HT_ ?_
        refine pz_ 19 (some 48) (bl_ 28 1048575) HT_ ?_
        refine pz_ 20 (some 49) (bl_ 28 2097151) HT_ ?_
        refine pz_ 21 (some 50) (bl_ 28 4194303) HT_ ?_
        refine pz_ 22 (some 51) (bl_ 28 8388607) HT_ ?_
        refine pz_ 23 (some 52) (bl_ 28 16777215) HT_ ?_
        refine pz_ 24 (some 53) (bl_ 28 33554431) HT_ ?_
        refine pz_ 25 (some 54) (bl_ 28 67108863) HT_ ?_
        refine pz_ 26 (some 55) (bl_ 28 134217727) HT_ ?_
        refine pa_ 27 (some 56) (bl_ 28 268435455) HT_ ?_
        refine done_ (done_of HT_.out (by kernel_rfl)) ?_
        try go_wp2
        go_meet
        case rel => exact ⟨_, (true), rf_, rf_, H', ⟨by have := HK1.out; first | omega | exact Nat.le_refl _⟩, bw_⟩
      case rest =>
       clear HC7
       try clear c1
       obtain ⟨kq, x56_6, rfl, rfl, HA, HJ6, HB⟩ := hcut
       cases kq with
       | zero => exact absurd HA.out (by simp [spigotref42_Spent.j1])
       | succ kj6 =>
        have H := HA.out
        clear HA
        simp only [spigotref42_Spent.j1] at H
        by_cases c21 : x56_6 = true
        ·subst c21
         replace H : (some (0, 8)) = some (r1, r2) := by rw [if_pos rfl] at H; exact H
         simp only [Option.some.injEq, Prod.mk.injEq] at H
         obtain ⟨rfl, rfl⟩ := H
         go_wp2
         go_ret2
         exact fi_
        ·replace c21 := Bool.eq_false_iff.mpr c21
         subst c21
         rw [if_neg (show ¬ (false = true) by decide)] at H
         try dsimp only at H
         by_cases c22 : (((rd_T31 l0 x7_1).f0) == 2) = true
         ·rw [if_pos c22] at H
          have c22b0 : (((rd_T31 l0 x7_1).f0) == 2) = true := c22
          (try (have c22b1 : decide (((rd_T31 l0 x7_1).f0) = 2) = true := by simpa using c22))
          (try (have c22b2 : (((rd_T31 l0 x7_1).f0) == 2) = true := by simpa using c22))
          clear c22
          by_cases c23 : 0 ≤ x7_1
          rotate_left
          ·rw [if_neg c23] at H; exact absurd H (by simp)
          rw [if_pos c23] at H
          have c23b0 : decide (0 ≤ x7_1) = true := decide_eq_true c23
          clear c23
          by_cases c24 : x7_1 < (l1.length : Int)
          rotate_left
          ·rw [if_neg c24] at H; exact absurd H (by simp)
          rw [if_pos c24] at H
          have c24b0 : decide (x7_1 < (l1.length : Int)) = true := decide_eq_true c24
          clear c24
          by_cases c25 : (rd l1 x7_1) ≥ 0
          ·rw [if_pos c25] at H
           have c25b0 : decide (0 ≤ (rd l1 x7_1)) = true := decide_eq_true c25
           clear c25
           have H' := Aside0.mk H
           clear H
           have p477 : 0 ≤ (x7_1 : Int) := of_decide_eq_true (by first | (with_reducible assumption) | assumption)
           have q477 : x7_1 < (l1.length : Int) := of_decide_eq_true (by first | (with_reducible assumption) | assumption)
           obtain ⟨ad477, e477, hx477_0⟩ := Kd.at_int HR1.out x7_1 p477 q477
           cases e477
           replace hx477_0 := (HB.out.cell (World.block_lt_of_cell? w _ hx477_0)).trans hx477_0
           replace p477 := eq_true p477
           replace q477 := eq_true q477
           have p478 : 0 ≤ (x7_1 : Int) := of_decide_eq_true (by first | (with_reducible assumption) | assumption)
           have q478 : x7_1 < (l1.length : Int) := of_decide_eq_true (by first | (with_reducible assumption) | assumption)
           obtain ⟨ad478, e478, hx478_0⟩ := Kd.at_int HR1.out x7_1 p478 q478
           obtain rfl : ad477 = ad478 := (by injection e478)
           replace hx478_0 := (HB.out.cell (World.block_lt_of_cell? w _ hx478_0)).trans hx478_0
           replace p478 := eq_true p478
           replace q478 := eq_true q478
           go_wp2
           go_roundg kj6
           case measure => have := HK1.out; have := HJ6.out; omega
           case rel => exact ⟨(wrap64 (x6_1 + (rd l1 x7_1))), (wrap64 (x7_1 + 1)), rf_, rf_, H', ⟨by have := HK1.out; have := HJ6.out; omega⟩, bw_⟩
          ·rw [if_neg c25] at H
           have c25b0 : decide (0 ≤ (rd l1 x7_1)) = false := decide_eq_false c25
           clear c25
           have H' := Aside0.mk H
           clear H
           have p477 : 0 ≤ (x7_1 : Int) := of_decide_eq_true (by first | (with_reducible assumption) | assumption)
           have q477 : x7_1 < (l1.length : Int) := of_decide_eq_true (by first | (with_reducible assumption) | assumption)
           obtain ⟨ad477, e477, hx477_0⟩ := Kd.at_int HR1.out x7_1 p477 q477
           cases e477
           replace hx477_0 := (HB.out.cell (World.block_lt_of_cell? w _ hx477_0)).trans hx477_0
           replace p477 := eq_true p477
           replace q477 := eq_true q477
           go_wp2
           go_roundg kj6
           case measure => have := HK1.out; have := HJ6.out; omega
           case rel => exact ⟨(x6_1), (wrap64 (x7_1 + 1)), rf_, rf_, H', ⟨by have := HK1.out; have := HJ6.out; omega⟩, bw_⟩
         ·rw [if_neg c22] at H
          have c22b0 : (((rd_T31 l0 x7_1).f0) == 2) = false := by simpa using c22
          (try (have c22b1 : decide (((rd_T31 l0 x7_1).f0) = 2) = false := by simpa using c22))
          (try (have c22b2 : (((rd_T31 l0 x7_1).f0) == 2) = false := by simpa using c22))
          (try (have c22b3 : ¬ (((rd_T31 l0 x7_1).f0) = 2) := by simpa using c22))
          clear c22
          have H' := Aside0.mk H
          clear H
          go_wp2
          go_roundg kj6
          case measure => have := HK1.out; have := HJ6.out; omega
          case rel => exact ⟨(x6_1), (wrap64 (x7_1 + 1)), rf_, rf_, H', ⟨by have := HK1.out; have := HJ6.out; omega⟩, bw_⟩
     ·rw [if_neg c5] at H
      have c5b0 : decide (x7_1 < (l0.length : Int)) = false := decide_eq_false c5
      clear c5
      simp only [Option.some.injEq, Prod.mk.injEq] at H
      obtain ⟨rfl, rfl⟩ := H
      go_wp2
      go_ret2
      exact fi_
  ·rw [if_neg c4] at H
   have c4b0 : ((l1.length : Int) == (l0.length : Int)) = false := beq_eq_false_iff_ne.mpr c4
   have c4b1 : ((l1.length : Int) != (l0.length : Int)) = true := bne_iff_ne.mpr c4
   have c4b2 : (l1.length == l0.length) = false := by first | simpa using c4 | (simp at c4 ⊢; omega)
   simp only [Option.some.injEq, Prod.mk.injEq] at H
   obtain ⟨rfl, rfl⟩ := H
   go_enter Try.func20, Try.ntmps20
   go_wp2
   go_ret2
   exact fi_

end Go.Proofs.Ytbfdpodlnijeoaa.X
