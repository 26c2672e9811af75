-- written by xprint.py, a program of this session over the kit's print
import Derived.Test.YtimhghmfhfggoaaX0
import Derived.Test.YtimhghmfhfggoaaX15
namespace Go.Proofs.Ytimhghmfhfggoaa.X
open Go.RowKit Go.Proofs.YtimhghmfhfggoaaW.PrintWords Go.Proofs.YtimhghmfhfggoaaW.PrintLast Go.Proofs.YtimhghmfhfggoaaW.PrintMore
attribute [local go_sem] max2_int min2_int max_two min_two max_three min_three max_four min_four   -- for this text's walks alone
set_option linter.unusedVariables false
set_option linter.unusedSimpArgs false

/-! ### spigotref40_first: function 31 -/
mutual
def spigotref40_first.l0 : Nat → List (S49) → List (S62) → Int → Option (Int × Int)
  | 0, _, _, _ => none
  | k + 1, x0, x1, x6 => if x6 < (x1.length : Int) then (spigotref40_first.l1 k x0 x1 x6 0 x6) else (some ((-1), (-1)))
def spigotref40_first.l1 : Nat → List (S49) → List (S62) → Int → Int → Int → Option (Int × Int)
  | 0, _, _, _, _, _ => none
  | k + 1, x0, x1, x6, x7, x8 => if x8 ≥ 0 then (if 0 ≤ x8 then (if x8 < (x1.length : Int) then (if 0 ≤ x6 then (if x6 < (x1.length : Int) then ((spigotref40_value.f k x0 (IntKind.u64.wrap (((rd_T62 x1 x6).f0) - ((rd_T62 x1 x8).f0)))).bind fun t191 => (if (wrap64 (x7 + ((rd_T62 x1 x8).f1))) > t191 then (some (x8, x6)) else (spigotref40_first.l1 k x0 x1 x6 (wrap64 (x7 + ((rd_T62 x1 x8).f1))) (wrap64 (x8 - 1))))) else (none)) else (none)) else (none)) else (none)) else (spigotref40_first.l0 k x0 x1 (wrap64 (x6 + 1)))
end
def spigotref40_first.f (k : Nat) (l0 : List (S49)) (l1 : List (S62)) : Option (Int × Int) := spigotref40_first.l0 k l0 l1 0
theorem spigotref40_first.mono_l : ∀ k, (∀ y0 y1 y2, LeO (spigotref40_first.l0 k y0 y1 y2) (spigotref40_first.l0 (k + 1) y0 y1 y2)) ∧ (∀ y0 y1 y2 y3 y4, LeO (spigotref40_first.l1 k y0 y1 y2 y3 y4) (spigotref40_first.l1 (k + 1) y0 y1 y2 y3 y4))
  | 0 => ⟨fun _ _ _ r h => by simp [spigotref40_first.l0] at h, fun _ _ _ _ _ r h => by simp [spigotref40_first.l1] at h⟩
  | k + 1 => by
    obtain ⟨ih0, ih1⟩ := spigotref40_first.mono_l k
    refine ⟨?_, ?_⟩
    · intro y0 y1 y2
      unfold spigotref40_first.l0
      repeat' first
      | (with_reducible exact ih0 _ _ _)
      | (with_reducible exact ih1 _ _ _ _ _)
      | (with_reducible exact spigotref40_value.mono _ _ _)
      | (with_reducible exact LeO.refl _)
      | (with_reducible exact LeO.none _)
      | (with_reducible refine LeO.ite ?_ ?_)
      | (with_reducible refine LeO.bind ?_ (fun _ => ?_))
      | exact ih0 _ _ _
      | exact ih1 _ _ _ _ _
      | exact spigotref40_value.mono _ _ _
      | exact LeO.none _
      | refine LeO.ite ?_ ?_
      | refine LeO.bind ?_ (fun _ => ?_)
    · intro y0 y1 y2 y3 y4
      unfold spigotref40_first.l1
      repeat' first
      | (with_reducible exact ih0 _ _ _)
      | (with_reducible exact ih1 _ _ _ _ _)
      | (with_reducible exact spigotref40_value.mono _ _ _)
      | (with_reducible exact LeO.refl _)
      | (with_reducible exact LeO.none _)
      | (with_reducible refine LeO.ite ?_ ?_)
      | (with_reducible refine LeO.bind ?_ (fun _ => ?_))
      | exact ih0 _ _ _
      | exact ih1 _ _ _ _ _
      | exact spigotref40_value.mono _ _ _
      | exact LeO.none _
      | refine LeO.ite ?_ ?_
      | refine LeO.bind ?_ (fun _ => ?_)
theorem spigotref40_first.mono : ∀ a0 a1 k, LeO (spigotref40_first.f k a0 a1) (spigotref40_first.f (k + 1) a0 a1) := by
  intro a0 a1 k
  obtain ⟨ih0, ih1⟩ := spigotref40_first.mono_l k
  unfold spigotref40_first.f
  repeat' first
      | (with_reducible exact ih0 _ _ _)
      | (with_reducible exact ih1 _ _ _ _ _)
      | (with_reducible exact spigotref40_value.mono _ _ _)
      | (with_reducible exact LeO.refl _)
      | (with_reducible exact LeO.none _)
      | (with_reducible refine LeO.ite ?_ ?_)
      | (with_reducible refine LeO.bind ?_ (fun _ => ?_))
      | exact ih0 _ _ _
      | exact ih1 _ _ _ _ _
      | exact spigotref40_value.mono _ _ _
      | exact LeO.none _
      | refine LeO.ite ?_ ?_
      | refine LeO.bind ?_ (fun _ => ?_)
def spigotref40_first.T9 : Bool × List (List Nat × List Nat) := (true, [([], []), ([], []), ([], []), ([], []), ([2, 3], [2, 3]), ([4], [4]), ([5], [5]), ([], []), ([], []), ([7, 8], [7, 8]), ([9], [9]), ([10], [10]), ([6, 11], [6, 11]), ([1, 12], [1, 12]), ([0, 13], [0, 13])])
def spigotref40_first.B9 : List Nat := [0, 0, 0, 0, 12, 28, 60, 0, 0, 384, 896, 1920, 4092, 8190, 16383]
theorem spigotref40_first.tab9 : rtab .any (opsOf Try.f31 9) = spigotref40_first.T9 := by kernel_rfl
theorem spigotref40_first.bits9 : waitsOk spigotref40_first.T9.2 spigotref40_first.B9 = true := by kernel_rfl
set_option maxHeartbeats 8000000 in
set_option maxRecDepth 100000 in
theorem spigotref40_first.calls (k : Nat) (A0 : Option Addr) (c0 : Nat) (l0 : List (S49)) (A1 : Option Addr) (c1 : Nat) (l1 : List (S62)) (r1 : Int) (r2 : Int) (w : World) (hr0 : Kd.C k49 w A0 l0.length l0) (hc0 : l0.length ≤ c0) (hr1 : Kd.C k62 w A1 l1.length l1) (hc1 : l1.length ≤ c1) (h : spigotref40_first.f k l0 l1 = some (r1, r2)) :
  Calls Try.prog 31 #[.slice A0 l0.length c0, .slice A1 l1.length c1] w fun e w' => e = .returned (.tuple #[.int .i64 r1, .int .i64 r2]) ∧ Below w.heap.size w w' := by
 have HR0 := Aside0.mk hr0
 have HC0 := Aside0.mk hc0
 clear hr0 hc0
 have HR1 := Aside0.mk hr1
 have HC1 := Aside0.mk hc1
 clear hr1 hc1
 have HB := Aside0.mk (Below.refl w.heap.size w)
 have H : (spigotref40_first.l0 k l0 l1 0) = some (r1, r2) := h
 clear h
 have H' := Aside0.mk H
 clear H
 go_enter Try.func31, Try.ntmps31
 go_wp2
 go_loopg [6] k (fun kq v6 w' => ∃ (x6_1 : Int), v6 = .int .i64 x6_1 ∧ Aside0 (spigotref40_first.l0 kq l0 l1 x6_1 = some (r1, r2)) ∧ Aside0 (kq ≤ k) ∧ Aside0 (Below w.heap.size w w'))
 case atStart => exact ⟨(0), rf_, H', ⟨Nat.le_refl _⟩, bw_⟩
 case round =>
  clear H'
  try clear c1
  obtain ⟨x6_1, rfl, HA, HK1, HB⟩ := hrel
  cases gk with
  | zero => exact absurd HA.out (by simp [spigotref40_first.l0])
  | succ k1 =>
   have H := HA.out
   clear HA
   simp only [spigotref40_first.l0] at H
   by_cases c3 : x6_1 < (l1.length : Int)
   ·rw [if_pos c3] at H
    have c3b0 : decide (x6_1 < (l1.length : Int)) = true := decide_eq_true c3
    clear c3
    have H' := Aside0.mk H
    clear H
    go_wp2
    go_loopg [7, 8] k1 (fun kq v7 v8 w' => ∃ (x7_2 : Int) (x8_2 : Int), v7 = .int .i64 x7_2 ∧ v8 = .int .i64 x8_2 ∧ Aside0 (spigotref40_first.l1 kq l0 l1 x6_1 x7_2 x8_2 = some (r1, r2)) ∧ Aside0 (kq ≤ k1) ∧ Aside0 (Below w.heap.size w w'))
    case atStart => exact ⟨(0), (x6_1), rf_, rf_, H', ⟨Nat.le_refl _⟩, bw_⟩
    case round =>
     clear H'
     try clear c1
     try clear c3
     try clear c3b0
     obtain ⟨x7_2, x8_2, rfl, rfl, HA, HK2, HB⟩ := hrel
     cases gk with
     | zero => exact absurd HA.out (by simp [spigotref40_first.l1])
     | succ k2 =>
      have H := HA.out
      clear HA
      simp only [spigotref40_first.l1] at H
      by_cases c4 : x8_2 ≥ 0
      ·rw [if_pos c4] at H
       have c4b0 : decide (0 ≤ x8_2) = true := decide_eq_true c4
       clear c4
       by_cases c5 : 0 ≤ x8_2
       rotate_left
       ·rw [if_neg c5] at H; exact absurd H (by simp)
       rw [if_pos c5] at H
       have c5b0 : decide (0 ≤ x8_2) = true := decide_eq_true c5
       clear c5
       by_cases c6 : x8_2 < (l1.length : Int)
       rotate_left
       ·rw [if_neg c6] at H; exact absurd H (by simp)
       rw [if_pos c6] at H
       have c6b0 : decide (x8_2 < (l1.length : Int)) = true := decide_eq_true c6
       clear c6
       by_cases c7 : 0 ≤ x6_1
       rotate_left
       ·rw [if_neg c7] at H; exact absurd H (by simp)
       rw [if_pos c7] at H
       have c7b0 : decide (0 ≤ x6_1) = true := decide_eq_true c7
       clear c7
       by_cases c8 : x6_1 < (l1.length : Int)
       rotate_left
       ·rw [if_neg c8] at H; exact absurd H (by simp)
       rw [if_pos c8] at H
       have c8b0 : decide (x6_1 < (l1.length : Int)) = true := decide_eq_true c8
       clear c8
       obtain ⟨t191, A9, H⟩ := bo_ H
       try dsimp only at H
       by_cases c10 : (wrap64 (x7_2 + ((rd_T62 l1 x8_2).f1))) > t191
       ·rw [if_pos c10] at H
        have c10b0 : decide (t191 < (wrap64 (x7_2 + ((rd_T62 l1 x8_2).f1)))) = true := decide_eq_true c10
        clear c10
        simp only [Option.some.injEq, Prod.mk.injEq] at H
        obtain ⟨rfl, rfl⟩ := H
        have p188 : 0 ≤ (x8_2 : Int) := of_decide_eq_true (by first | (with_reducible assumption) | assumption)
        have q188 : x8_2 < (l1.length : Int) := of_decide_eq_true (by first | (with_reducible assumption) | assumption)
        obtain ⟨ad188, e188, hx188_0, hx188_1⟩ := at_T62 HR1.out x8_2 p188 q188
        cases e188
        replace hx188_0 := (HB.out.cell (World.block_lt_of_cell? w _ hx188_0)).trans hx188_0
        replace hx188_1 := (HB.out.cell (World.block_lt_of_cell? w _ hx188_1)).trans hx188_1
        replace p188 := eq_true p188
        replace q188 := eq_true q188
        try go_wp2
        replace HB := Aside0.mk (below_drew1 HB.out)
        have p189 : 0 ≤ (x6_1 : Int) := of_decide_eq_true (by first | (with_reducible assumption) | assumption)
        have q189 : x6_1 < (l1.length : Int) := of_decide_eq_true (by first | (with_reducible assumption) | assumption)
        obtain ⟨ad189, e189, hx189_0, hx189_1⟩ := at_T62 HR1.out x6_1 p189 q189
        have hw189_1 := hx189_1
        have hw189_0 := hx189_0
        obtain rfl : ad188 = ad189 := (by injection e189)
        replace hx189_0 := (HB.out.cell (World.block_lt_of_cell? w _ hx189_0)).trans hx189_0
        replace hx189_1 := (HB.out.cell (World.block_lt_of_cell? w _ hx189_1)).trans hx189_1
        replace p189 := eq_true p189
        replace q189 := eq_true q189
        have p190 : 0 ≤ (x8_2 : Int) := of_decide_eq_true (by first | (with_reducible assumption) | assumption)
        have q190 : x8_2 < (l1.length : Int) := of_decide_eq_true (by first | (with_reducible assumption) | assumption)
        obtain ⟨ad190, e190, hx190_0, hx190_1⟩ := at_T62 HR1.out x8_2 p190 q190
        have hw190_1 := hx190_1
        have hw190_0 := hx190_0
        obtain rfl : ad188 = ad190 := (by injection e190)
        replace hx190_0 := (HB.out.cell (World.block_lt_of_cell? w _ hx190_0)).trans hx190_0
        replace hx190_1 := (HB.out.cell (World.block_lt_of_cell? w _ hx190_1)).trans hx190_1
        replace p190 := eq_true p190
        replace q190 := eq_true q190
        refine start_ (n := 15) (S := fun w' => w'.cell? (ad188.add ((x6_1).toNat * 2)) = some (.int .u64 ((rd_T62 l1 x6_1).f0)) ∧ w'.cell? ⟨(ad188.add ((x6_1).toNat * 2)).block, (ad188.add ((x6_1).toNat * 2)).off + 1, none⟩ = some (.int .i64 ((rd_T62 l1 x6_1).f1)) ∧ w'.cell? (ad188.add ((x8_2).toNat * 2)) = some (.int .u64 ((rd_T62 l1 x8_2).f0)) ∧ w'.cell? ⟨(ad188.add ((x8_2).toNat * 2)).block, (ad188.add ((x8_2).toNat * 2)).off + 1, none⟩ = some (.int .i64 ((rd_T62 l1 x8_2).f1))) (ds := []) (bl_ 15 0) (by kernel_rfl) rfl (by kernel_rfl) ⟨((HB.out.cell (World.block_lt_of_cell? w _ hw189_0)).trans hw189_0), ((HB.out.cell (World.block_lt_of_cell? w _ hw189_1)).trans hw189_1), ((HB.out.cell (World.block_lt_of_cell? w _ hw190_0)).trans hw190_0), ((HB.out.cell (World.block_lt_of_cell? w _ hw190_1)).trans hw190_1)⟩ (fun hHeld => ?_); refine with_tabW spigotref40_first.tab9 spigotref40_first.bits9 (fun HT_ HW_ => ?_)
        generalize wr.drew = w11 at HB hx189_0 hx189_1 hx190_0 hx190_1 hHeld ⊢
        refine pa_ 0 (some 27) (bl_ 15 1) HT_ ?_
        refine pa_ 1 (some 28) (bl_ 15 3) HT_ ?_
        refine pa_ 2 (some 29) (bl_ 15 7) HT_ ?_
        refine pa_ 3 (some 30) (bl_ 15 15) HT_ ?_
        refine pa_ 4 (some 31) (bl_ 15 31) HT_ ?_
        refine pa_ 5 (some 32) (bl_ 15 63) HT_ ?_
        refine pa_ 7 (some 34) (bl_ 15 191) HT_ ?_
        refine pa_ 8 (some 35) (bl_ 15 447) HT_ ?_
        refine pa_ 9 (some 36) (bl_ 15 959) HT_ ?_
        refine pa_ 10 (some 37) (bl_ 15 1983) HT_ ?_
        refine ta_ 6 (some 33) (bl_ 15 2047) HT_ HW_ hHeld ?_
        refine ta_ 11 (some 38) (bl_ 15 4095) HT_ HW_ hHeld ?_
        refine pa_ 12 (some 39) (bl_ 15 8191) HT_ ?_
        refine oa_ 13 (some 40) (bl_ 15 16383) HT_ fun K hK => ?_
        refine goesB_ Try.func29 #[.slice A0 l0.length c0, .int .u64 (IntKind.u64.wrap (((rd_T62 l1 x6_1).f0) - ((rd_T62 l1 x8_2).f0)))] ?_
        with_reducible refine (spigotref40_value.calls k2 _ _ l0 (IntKind.u64.wrap (((rd_T62 l1 x6_1).f0) - ((rd_T62 l1 x8_2).f0))) t191 _ ?side1 ?side2 A9.out).mono ?_
        (case side1 => exact cs_ HR0 HB)
        (case side2 => exact HC0.out)
        rintro e w12 ⟨rfl, hb⟩
        refine ⟨_, rfl, ?_⟩
        replace HB := bs_ w hb
        clear hb
        refine hK.out _ _ ⟨((HB.out.cell (World.block_lt_of_cell? w _ hw189_0)).trans hw189_0), ((HB.out.cell (World.block_lt_of_cell? w _ hw189_1)).trans hw189_1), ((HB.out.cell (World.block_lt_of_cell? w _ hw190_0)).trans hw190_0), ((HB.out.cell (World.block_lt_of_cell? w _ hw190_1)).trans hw190_1)⟩ (fun hHeld => ?_)
        clear hK K
        refine nm_ (some 40) ?_
        refine pa_ 14 (some 41) (bl_ 15 32767) HT_ ?_
        refine done_ (done_of HT_.out (by kernel_rfl)) ?_
        try go_wp2
        go_ret2
        exact fi_
       ·rw [if_neg c10] at H
        have c10b0 : decide (t191 < (wrap64 (x7_2 + ((rd_T62 l1 x8_2).f1)))) = false := decide_eq_false c10
        clear c10
        have H' := Aside0.mk H
        clear H
        have p188 : 0 ≤ (x8_2 : Int) := of_decide_eq_true (by first | (with_reducible assumption) | assumption)
        have q188 : x8_2 < (l1.length : Int) := of_decide_eq_true (by first | (with_reducible assumption) | assumption)
        obtain ⟨ad188, e188, hx188_0, hx188_1⟩ := at_T62 HR1.out x8_2 p188 q188
        cases e188
        replace hx188_0 := (HB.out.cell (World.block_lt_of_cell? w _ hx188_0)).trans hx188_0
        replace hx188_1 := (HB.out.cell (World.block_lt_of_cell? w _ hx188_1)).trans hx188_1
        replace p188 := eq_true p188
        replace q188 := eq_true q188
        try go_wp2
        replace HB := Aside0.mk (below_drew1 HB.out)
        have p189 : 0 ≤ (x6_1 : Int) := of_decide_eq_true (by first | (with_reducible assumption) | assumption)
        have q189 : x6_1 < (l1.length : Int) := of_decide_eq_true (by first | (with_reducible assumption) | assumption)
        obtain ⟨ad189, e189, hx189_0, hx189_1⟩ := at_T62 HR1.out x6_1 p189 q189
        have hw189_1 := hx189_1
        have hw189_0 := hx189_0
        obtain rfl : ad188 = ad189 := (by injection e189)
        replace hx189_0 := (HB.out.cell (World.block_lt_of_cell? w _ hx189_0)).trans hx189_0
        replace hx189_1 := (HB.out.cell (World.block_lt_of_cell? w _ hx189_1)).trans hx189_1
        replace p189 := eq_true p189
        replace q189 := eq_true q189
        have p190 : 0 ≤ (x8_2 : Int) := of_decide_eq_true (by first | (with_reducible assumption) | assumption)
        have q190 : x8_2 < (l1.length : Int) := of_decide_eq_true (by first | (with_reducible assumption) | assumption)
        obtain ⟨ad190, e190, hx190_0, hx190_1⟩ := at_T62 HR1.out x8_2 p190 q190
        have hw190_1 := hx190_1
        have hw190_0 := hx190_0
        obtain rfl : ad188 = ad190 := (by injection e190)
        replace hx190_0 := (HB.out.cell (World.block_lt_of_cell? w _ hx190_0)).trans hx190_0
        replace hx190_1 := (HB.out.cell (World.block_lt_of_cell? w _ hx190_1)).trans hx190_1
        replace p190 := eq_true p190
        replace q190 := eq_true q190
        refine start_ (n := 15) (S := fun w' => w'.cell? (ad188.add ((x6_1).toNat * 2)) = some (.int .u64 ((rd_T62 l1 x6_1).f0)) ∧ w'.cell? ⟨(ad188.add ((x6_1).toNat * 2)).block, (ad188.add ((x6_1).toNat * 2)).off + 1, none⟩ = some (.int .i64 ((rd_T62 l1 x6_1).f1)) ∧ w'.cell? (ad188.add ((x8_2).toNat * 2)) = some (.int .u64 ((rd_T62 l1 x8_2).f0)) ∧ w'.cell? ⟨(ad188.add ((x8_2).toNat * 2)).block, (ad188.add ((x8_2).toNat * 2)).off + 1, none⟩ = some (.int .i64 ((rd_T62 l1 x8_2).f1))) (ds := []) (bl_ 15 0) (by kernel_rfl) rfl (by kernel_rfl) ⟨((HB.out.cell (World.block_lt_of_cell? w _ hw189_0)).trans hw189_0), ((HB.out.cell (World.block_lt_of_cell? w _ hw189_1)).trans hw189_1), ((HB.out.cell (World.block_lt_of_cell? w _ hw190_0)).trans hw190_0), ((HB.out.cell (World.block_lt_of_cell? w _ hw190_1)).trans hw190_1)⟩ (fun hHeld => ?_); refine with_tabW spigotref40_first.tab9 spigotref40_first.bits9 (fun HT_ HW_ => ?_)
        generalize wr.drew = w13 at HB hx189_0 hx189_1 hx190_0 hx190_1 hHeld ⊢
        refine pa_ 0 (some 27) (bl_ 15 1) HT_ ?_
        refine pa_ 1 (some 28) (bl_ 15 3) HT_ ?_
        refine pa_ 2 (some 29) (bl_ 15 7) HT_ ?_
        refine pa_ 3 (some 30) (bl_ 15 15) HT_ ?_
        refine pa_ 4 (some 31) (bl_ 15 31) HT_ ?_
        refine pa_ 5 (some 32) (bl_ 15 63) HT_ ?_
        refine pa_ 7 (some 34) (bl_ 15 191) HT_ ?_
        refine pa_ 8 (some 35) (bl_ 15 447) HT_ ?_
        refine pa_ 9 (some 36) (bl_ 15 959) HT_ ?_
        refine pa_ 10 (some 37) (bl_ 15 1983) HT_ ?_
        refine ta_ 6 (some 33) (bl_ 15 2047) HT_ HW_ hHeld ?_
        refine ta_ 11 (some 38) (bl_ 15 4095) HT_ HW_ hHeld ?_
        refine pa_ 12 (some 39) (bl_ 15 8191) HT_ ?_
        refine oa_ 13 (some 40) (bl_ 15 16383) HT_ fun K hK => ?_
        refine goesB_ Try.func29 #[.slice A0 l0.length c0, .int .u64 (IntKind.u64.wrap (((rd_T62 l1 x6_1).f0) - ((rd_T62 l1 x8_2).f0)))] ?_
        with_reducible refine (spigotref40_value.calls k2 _ _ l0 (IntKind.u64.wrap (((rd_T62 l1 x6_1).f0) - ((rd_T62 l1 x8_2).f0))) t191 _ ?side1 ?side2 A9.out).mono ?_
        (case side1 => exact cs_ HR0 HB)
        (case side2 => exact HC0.out)
        rintro e w14 ⟨rfl, hb⟩
        refine ⟨_, rfl, ?_⟩
        replace HB := bs_ w hb
        clear hb
        refine hK.out _ _ ⟨((HB.out.cell (World.block_lt_of_cell? w _ hw189_0)).trans hw189_0), ((HB.out.cell (World.block_lt_of_cell? w _ hw189_1)).trans hw189_1), ((HB.out.cell (World.block_lt_of_cell? w _ hw190_0)).trans hw190_0), ((HB.out.cell (World.block_lt_of_cell? w _ hw190_1)).trans hw190_1)⟩ (fun hHeld => ?_)
        clear hK K
        refine nm_ (some 40) ?_
        refine pa_ 14 (some 41) (bl_ 15 32767) HT_ ?_
        refine done_ (done_of HT_.out (by kernel_rfl)) ?_
        try go_wp2
        go_roundg k2
        case measure => have := HK1.out; have := HK2.out; omega
        case rel => exact ⟨(wrap64 (x7_2 + ((rd_T62 l1 x8_2).f1))), (wrap64 (x8_2 - 1)), rf_, rf_, H', ⟨by have := HK1.out; have := HK2.out; omega⟩, bw_⟩
      ·rw [if_neg c4] at H
       have c4b0 : decide (0 ≤ x8_2) = false := decide_eq_false c4
       clear c4
       have H' := Aside0.mk H
       clear H
       go_wp2
       go_roundg k2
       case measure => have := HK1.out; have := HK2.out; omega
       case rel => exact ⟨(wrap64 (x6_1 + 1)), rf_, H', ⟨by have := HK1.out; have := HK2.out; omega⟩, bw_⟩
   ·rw [if_neg c3] at H
    have c3b0 : decide (x6_1 < (l1.length : Int)) = false := decide_eq_false c3
    clear c3
    simp only [Option.some.injEq, Prod.mk.injEq] at H
    obtain ⟨rfl, rfl⟩ := H
    go_wp2
    go_ret2
    exact fi_

end Go.Proofs.Ytimhghmfhfggoaa.X
