-- written by xprint.py, a program of this session over the kit's print
import Derived.Test.YtimhghmfhfggoaaX0
import Derived.Test.YtimhghmfhfggoaaX13
import Derived.Test.YtimhghmfhfggoaaX14
namespace Go.Proofs.Ytimhghmfhfggoaa.X
open Go.RowKit Go.Proofs.YtimhghmfhfggoaaW.PrintWords Go.Proofs.YtimhghmfhfggoaaW.PrintLast Go.Proofs.YtimhghmfhfggoaaW.PrintMore
attribute [local go_sem] max2_int min2_int max_two min_two max_three min_three max_four min_four   -- for this text's walks alone
set_option linter.unusedVariables false
set_option linter.unusedSimpArgs false

/-! ### spigotref40_value: function 29 -/
def spigotref40_value.l0 : Nat → List (S49) → Int → Int → Int → Option (Int)
  | 0, _, _, _, _ => none
  | k + 1, x0, x1, x5, x6 => if x6 < (x0.length : Int) then (if 0 ≤ x6 then ((spigotref01_Mul.f x1 (IntKind.u64.wrap ((rd_T49 x0 x6).f1))).bind fun bt159 => ((spigotref01_Div.f k bt159.1 bt159.2 (IntKind.u64.wrap ((rd_T49 x0 x6).f2))).bind fun bt162 => (if bt162.1 = 0 then (if bt162.2.1 < 1000000000000 then (spigotref40_value.l0 k x0 x1 (mn x5 (wrap64 (((rd_T49 x0 x6).f0) + (wrap64 (bt162.2.1))))) (wrap64 (x6 + 1))) else (spigotref40_value.l0 k x0 x1 x5 (wrap64 (x6 + 1)))) else (spigotref40_value.l0 k x0 x1 x5 (wrap64 (x6 + 1)))))) else (none)) else (some x5)
def spigotref40_value.f (k : Nat) (l0 : List (S49)) (a1 : Int) : Option (Int) := spigotref40_value.l0 k l0 a1 1000000000000 0
theorem spigotref40_value.mono_l : ∀ k, (∀ y0 y1 y2 y3, LeO (spigotref40_value.l0 k y0 y1 y2 y3) (spigotref40_value.l0 (k + 1) y0 y1 y2 y3))
  | 0 => fun _ _ _ _ r h => by simp [spigotref40_value.l0] at h
  | k + 1 => by
    have ih0 := spigotref40_value.mono_l k
    · intro y0 y1 y2 y3
      unfold spigotref40_value.l0
      repeat' first
      | (with_reducible exact ih0 _ _ _ _)
      | (with_reducible exact spigotref01_Div.mono _ _ _ _)
      | (with_reducible exact LeO.refl _)
      | (with_reducible exact LeO.none _)
      | (with_reducible refine LeO.ite ?_ ?_)
      | (with_reducible refine LeO.bind ?_ (fun _ => ?_))
      | exact ih0 _ _ _ _
      | exact spigotref01_Div.mono _ _ _ _
      | exact LeO.none _
      | refine LeO.ite ?_ ?_
      | refine LeO.bind ?_ (fun _ => ?_)
theorem spigotref40_value.mono : ∀ a0 a1 k, LeO (spigotref40_value.f k a0 a1) (spigotref40_value.f (k + 1) a0 a1) := by
  intro a0 a1 k
  have ih0 := spigotref40_value.mono_l k
  unfold spigotref40_value.f
  repeat' first
      | (with_reducible exact ih0 _ _ _ _)
      | (with_reducible exact spigotref01_Div.mono _ _ _ _)
      | (with_reducible exact LeO.refl _)
      | (with_reducible exact LeO.none _)
      | (with_reducible refine LeO.ite ?_ ?_)
      | (with_reducible refine LeO.bind ?_ (fun _ => ?_))
      | exact ih0 _ _ _ _
      | exact spigotref01_Div.mono _ _ _ _
      | exact LeO.none _
      | refine LeO.ite ?_ ?_
      | refine LeO.bind ?_ (fun _ => ?_)
def spigotref40_value.T5 : Bool × List (List Nat × List Nat) := (true, [([], []), ([], []), ([], []), ([1, 2], [1, 2]), ([3], [3]), ([4], [4]), ([5], [5]), ([0, 6], [0, 6]), ([], []), ([], []), ([8, 9], [8, 9]), ([10], [10]), ([11], [11]), ([12], [12]), ([7, 13, 7], [7, 13]), ([14], [14]), ([15], [15]), ([15], [15]), ([15], [15]), ([], []), ([19, 16, 14, 0, 1, 2, 3, 4, 5, 6, 7, 8, 9, 10, 11, 12, 13, 14, 15, 16, 19], [16, 19]), ([17, 20, 0, 1, 2, 3, 4, 5, 6, 7, 8, 9, 10, 11, 12, 13, 14, 15, 16, 17, 19, 20], [17]), ([18, 21, 0, 1, 2, 3, 4, 5, 6, 7, 8, 9, 10, 11, 12, 13, 14, 15, 16, 17, 18, 19, 20, 21], [18])])
def spigotref40_value.B5 : List Nat := [0, 0, 0, 6, 14, 30, 62, 127, 0, 0, 768, 1792, 3840, 7936, 16383, 32767, 65535, 65535, 65535, 0, 655359, 1835007, 4194303]
theorem spigotref40_value.tab5 : rtab .any (opsOf Try.f29 5) = spigotref40_value.T5 := by kernel_rfl
theorem spigotref40_value.bits5 : waitsOk spigotref40_value.T5.2 spigotref40_value.B5 = true := by kernel_rfl
def spigotref40_value.T7 : Bool × List (List Nat × List Nat) := (true, [([], []), ([], []), ([], []), ([1, 2], [1, 2]), ([3], [3]), ([4], [4]), ([], []), ([6], [6]), ([7], [7]), ([5, 8], [5, 8]), ([0, 9], [0, 9]), ([10, 0, 1, 2, 3, 4, 5, 6, 7, 8, 9, 10], [0, 10])])
def spigotref40_value.B7 : List Nat := [0, 0, 0, 6, 14, 30, 0, 64, 192, 510, 1023, 2047]
theorem spigotref40_value.tab7 : rtab .any (opsOf Try.f29 7) = spigotref40_value.T7 := by kernel_rfl
theorem spigotref40_value.bits7 : waitsOk spigotref40_value.T7.2 spigotref40_value.B7 = true := by kernel_rfl
set_option maxHeartbeats 8000000 in
set_option maxRecDepth 100000 in
theorem spigotref40_value.calls (k : Nat) (A0 : Option Addr) (c0 : Nat) (l0 : List (S49)) (a1 : Int) (r : Int) (w : World) (hr0 : Kd.C k49 w A0 l0.length l0) (hc0 : l0.length ≤ c0) (h : spigotref40_value.f k l0 a1 = some r) :
  Calls Try.prog 29 #[.slice A0 l0.length c0, .int .u64 a1] w fun e w' => e = .returned (.int .i64 r) ∧ Below w.heap.size w w' := by
 have hu92 := Try.underlying92
 have HR0 := Aside0.mk hr0
 have HC0 := Aside0.mk hc0
 clear hr0 hc0
 have HB := Aside0.mk (Below.refl w.heap.size w)
 have H : (spigotref40_value.l0 k l0 a1 1000000000000 0) = some r := h
 clear h
 have H' := Aside0.mk H
 clear H
 go_enter Try.func29, Try.ntmps29
 go_wp2
 go_loopg [5, 6] k (fun kq v5 v6 w' => ∃ (x5_1 : Int) (x6_1 : Int), v5 = .int .i64 x5_1 ∧ v6 = .int .i64 x6_1 ∧ Aside0 (spigotref40_value.l0 kq l0 a1 x5_1 x6_1 = some r) ∧ Aside0 (kq ≤ k) ∧ Aside0 (Below w.heap.size w w'))
 case atStart => exact ⟨(1000000000000), (0), rf_, rf_, H', ⟨Nat.le_refl _⟩, bw_⟩
 case round =>
  clear H'
  obtain ⟨x5_1, x6_1, rfl, rfl, HA, HK1, HB⟩ := hrel
  cases gk with
  | zero => exact absurd HA.out (by simp [spigotref40_value.l0])
  | succ k1 =>
   have H := HA.out
   clear HA
   simp only [spigotref40_value.l0] at H
   by_cases c3 : x6_1 < (l0.length : Int)
   ·rw [if_pos c3] at H
    have c3b0 : decide (x6_1 < (l0.length : Int)) = true := decide_eq_true c3
    clear c3
    by_cases c4 : 0 ≤ x6_1
    rotate_left
    ·rw [if_neg c4] at H; exact absurd H (by simp)
    rw [if_pos c4] at H
    have c4b0 : decide (0 ≤ x6_1) = true := decide_eq_true c4
    clear c4
    have H0_ := bo_ H; clear H; obtain ⟨⟨t159, t160⟩, A5, H⟩ := H0_
    try dsimp only at H
    have H0_ := bo_ H; clear H; obtain ⟨⟨t162, t163, t164, t165⟩, A6, H⟩ := H0_
    try dsimp only at H
    by_cases c7 : t162 = 0
    ·rw [if_pos c7] at H
     have c7b0 : (t162 == 0) = true := beq_iff_eq.mpr c7
     have c7b1 : (t162 != 0) = false := bne_eq_false_iff_eq.mpr c7
     clear c7
     by_cases c8 : t163 < 1000000000000
     ·rw [if_pos c8] at H
      have c8b0 : decide (t163 < 1000000000000) = true := decide_eq_true c8
      clear c8
      obtain ⟨ji9, hji9⟩ : ∃ j_ : Int, (mn x5_1 (wrap64 (((rd_T49 l0 x6_1).f0) + (wrap64 (t163))))) = j_ := ⟨_, rfl⟩
      replace H : (spigotref40_value.l0 k1 l0 a1 ji9 (wrap64 (x6_1 + 1))) = some r := by first | (rw [hji9] at H; exact H) | (simp only [hji9] at H ⊢; exact H)
      (try rw [hji9] at A5)
      (try rw [hji9] at A6)
      have hji9_ : (if (wrap64 (((rd_T49 l0 x6_1).f0) + (wrap64 (t163)))) < x5_1 then (wrap64 (((rd_T49 l0 x6_1).f0) + (wrap64 (t163)))) else x5_1) = ji9 := hji9
      have H' := Aside0.mk H
      clear H
      try go_wp2
      replace HB := Aside0.mk (below_drew1 HB.out)
      have p158 : 0 ≤ (x6_1 : Int) := of_decide_eq_true (by first | (with_reducible assumption) | assumption)
      have q158 : x6_1 < (l0.length : Int) := of_decide_eq_true (by first | (with_reducible assumption) | assumption)
      obtain ⟨ad158, e158, hx158_0, hx158_1, hx158_2⟩ := at_T49 HR0.out x6_1 p158 q158
      have hw158_2 := hx158_2
      have hw158_1 := hx158_1
      have hw158_0 := hx158_0
      cases e158
      replace hx158_0 := (HB.out.cell (World.block_lt_of_cell? w _ hx158_0)).trans hx158_0
      replace hx158_1 := (HB.out.cell (World.block_lt_of_cell? w _ hx158_1)).trans hx158_1
      replace hx158_2 := (HB.out.cell (World.block_lt_of_cell? w _ hx158_2)).trans hx158_2
      replace p158 := eq_true p158
      replace q158 := eq_true q158
      have p161 : 0 ≤ (x6_1 : Int) := of_decide_eq_true (by first | (with_reducible assumption) | assumption)
      have q161 : x6_1 < (l0.length : Int) := of_decide_eq_true (by first | (with_reducible assumption) | assumption)
      obtain ⟨ad161, e161, hx161_0, hx161_1, hx161_2⟩ := at_T49 HR0.out x6_1 p161 q161
      have hw161_2 := hx161_2
      have hw161_1 := hx161_1
      have hw161_0 := hx161_0
      obtain rfl : ad158 = ad161 := (by injection e161)
      replace hx161_0 := (HB.out.cell (World.block_lt_of_cell? w _ hx161_0)).trans hx161_0
      replace hx161_1 := (HB.out.cell (World.block_lt_of_cell? w _ hx161_1)).trans hx161_1
      replace hx161_2 := (HB.out.cell (World.block_lt_of_cell? w _ hx161_2)).trans hx161_2
      replace p161 := eq_true p161
      replace q161 := eq_true q161
      refine start_ (n := 23) (S := fun w' => w'.cell? (ad158.add ((x6_1).toNat * 3)) = some (.int .i64 ((rd_T49 l0 x6_1).f0)) ∧ w'.cell? ⟨(ad158.add ((x6_1).toNat * 3)).block, (ad158.add ((x6_1).toNat * 3)).off + 1, none⟩ = some (.int .i64 ((rd_T49 l0 x6_1).f1)) ∧ w'.cell? ⟨(ad158.add ((x6_1).toNat * 3)).block, (ad158.add ((x6_1).toNat * 3)).off + 2, none⟩ = some (.int .i64 ((rd_T49 l0 x6_1).f2)) ∧ w'.cell? (ad158.add ((x6_1).toNat * 3)) = some (.int .i64 ((rd_T49 l0 x6_1).f0)) ∧ w'.cell? ⟨(ad158.add ((x6_1).toNat * 3)).block, (ad158.add ((x6_1).toNat * 3)).off + 1, none⟩ = some (.int .i64 ((rd_T49 l0 x6_1).f1)) ∧ w'.cell? ⟨(ad158.add ((x6_1).toNat * 3)).block, (ad158.add ((x6_1).toNat * 3)).off + 2, none⟩ = some (.int .i64 ((rd_T49 l0 x6_1).f2))) (ds := []) (bl_ 23 0) (by kernel_rfl) rfl (by kernel_rfl) ⟨((HB.out.cell (World.block_lt_of_cell? w _ hw158_0)).trans hw158_0), ((HB.out.cell (World.block_lt_of_cell? w _ hw158_1)).trans hw158_1), ((HB.out.cell (World.block_lt_of_cell? w _ hw158_2)).trans hw158_2), ((HB.out.cell (World.block_lt_of_cell? w _ hw161_0)).trans hw161_0), ((HB.out.cell (World.block_lt_of_cell? w _ hw161_1)).trans hw161_1), ((HB.out.cell (World.block_lt_of_cell? w _ hw161_2)).trans hw161_2)⟩ (fun hHeld => ?_); refine with_tabW spigotref40_value.tab5 spigotref40_value.bits5 (fun HT_ HW_ => ?_)
      generalize wr.drew = w10 at HB hx158_0 hx158_1 hx158_2 hx161_0 hx161_1 hx161_2 hHeld ⊢
      refine pa_ 0 (some 17) (bl_ 23 1) HT_ ?_
      refine pa_ 1 (some 18) (bl_ 23 3) HT_ ?_
      refine pa_ 2 (some 19) (bl_ 23 7) HT_ ?_
      refine pa_ 3 (some 20) (bl_ 23 15) HT_ ?_
      refine pa_ 4 (some 21) (bl_ 23 31) HT_ ?_
      refine pa_ 8 (some 25) (bl_ 23 287) HT_ ?_
      refine pa_ 9 (some 26) (bl_ 23 799) HT_ ?_
      refine pa_ 10 (some 27) (bl_ 23 1823) HT_ ?_
      refine pa_ 11 (some 28) (bl_ 23 3871) HT_ ?_
      refine ta_ 5 (some 22) (bl_ 23 3903) HT_ HW_ hHeld ?_
      refine pa_ 6 (some 23) (bl_ 23 3967) HT_ ?_
      refine ta_ 12 (some 29) (bl_ 23 8063) HT_ HW_ hHeld ?_
      refine pa_ 13 (some 30) (bl_ 23 16255) HT_ ?_
      refine join_ (σ := Nat) 3 (bl_ 23 1048575) (fun s_ => [(24, .agg #[.int .u64 t159, .int .u64 t160]), (31, .tuple #[.agg #[.int .u64 t162, .int .u64 t163], .int .u64 t164, .int .i64 t165]), (7, .pointer (some ⟨s_, 0, none⟩)), (16, .tuple #[.agg #[.int .u64 t162, .int .u64 t163], .int .u64 t164, .int .i64 t165]), (32, .agg #[.int .u64 t162, .int .u64 t163]), (33, .int .u64 t164), (34, .int .i64 t165)]) (fun s_ w' => (w'.cell? (ad158.add ((x6_1).toNat * 3)) = some (.int .i64 ((rd_T49 l0 x6_1).f0)) ∧ w'.cell? ⟨(ad158.add ((x6_1).toNat * 3)).block, (ad158.add ((x6_1).toNat * 3)).off + 1, none⟩ = some (.int .i64 ((rd_T49 l0 x6_1).f1)) ∧ w'.cell? ⟨(ad158.add ((x6_1).toNat * 3)).block, (ad158.add ((x6_1).toNat * 3)).off + 2, none⟩ = some (.int .i64 ((rd_T49 l0 x6_1).f2)) ∧ w'.cell? (ad158.add ((x6_1).toNat * 3)) = some (.int .i64 ((rd_T49 l0 x6_1).f0)) ∧ w'.cell? ⟨(ad158.add ((x6_1).toNat * 3)).block, (ad158.add ((x6_1).toNat * 3)).off + 1, none⟩ = some (.int .i64 ((rd_T49 l0 x6_1).f1)) ∧ w'.cell? ⟨(ad158.add ((x6_1).toNat * 3)).block, (ad158.add ((x6_1).toNat * 3)).off + 2, none⟩ = some (.int .i64 ((rd_T49 l0 x6_1).f2))) ∧ (w'.heap[s_]? = some (.cells #[.int .u64 0, .int .u64 0] 92 (0, 0))) ∧ (w.heap.size ≤ s_) ∧ (w.heap.size ≤ s_) ∧ (Below w.heap.size w w')) ?_ ?_
      rotate_left
      ·intro hCont
       refine tw_ 7 19 (some 24) (some 7) (bl_ 23 16383) (bl_ 23 540543) HT_ (fun K hK => ?_) fun K hK => ?_
       ·refine goesB_ Try.func53 #[.int .u64 a1, .int .u64 (IntKind.u64.wrap ((rd_T49 l0 x6_1).f1))] ?_
        with_reducible refine (spigotref01_Mul.calls a1 (IntKind.u64.wrap ((rd_T49 l0 x6_1).f1)) t159 t160 _ A5.out).mono ?_
        rintro e w11 ⟨rfl, hb⟩
        refine ⟨_, rfl, ?_⟩
        replace HB := bs_ w hb
        clear hb
        refine hK.out _ _ ⟨((HB.out.cell (World.block_lt_of_cell? w _ hw158_0)).trans hw158_0), ((HB.out.cell (World.block_lt_of_cell? w _ hw158_1)).trans hw158_1), ((HB.out.cell (World.block_lt_of_cell? w _ hw158_2)).trans hw158_2), ((HB.out.cell (World.block_lt_of_cell? w _ hw161_0)).trans hw161_0), ((HB.out.cell (World.block_lt_of_cell? w _ hw161_1)).trans hw161_1), ((HB.out.cell (World.block_lt_of_cell? w _ hw161_2)).trans hw161_2)⟩ (fun hHeld => ?_)
        clear hK K
        refine nm_ (some 24) ?_
        refine tw_ 14 19 (some 31) (some 7) (bl_ 23 32767) (bl_ 23 540671) HT_ (fun K hK => ?_) fun K hK => ?_
        ·refine goesB_ Try.func52 #[.agg #[.int .u64 t159, .int .u64 t160], .int .u64 (IntKind.u64.wrap ((rd_T49 l0 x6_1).f2))] ?_
         with_reducible refine (spigotref01_Div.calls k1 t159 t160 (IntKind.u64.wrap ((rd_T49 l0 x6_1).f2)) t162 t163 t164 t165 _ A6.out).mono ?_
         rintro e w12 ⟨rfl, hb⟩
         refine ⟨_, rfl, ?_⟩
         replace HB := bs_ w hb
         clear hb
         refine hK.out _ _ ⟨((HB.out.cell (World.block_lt_of_cell? w _ hw158_0)).trans hw158_0), ((HB.out.cell (World.block_lt_of_cell? w _ hw158_1)).trans hw158_1), ((HB.out.cell (World.block_lt_of_cell? w _ hw158_2)).trans hw158_2), ((HB.out.cell (World.block_lt_of_cell? w _ hw161_0)).trans hw161_0), ((HB.out.cell (World.block_lt_of_cell? w _ hw161_1)).trans hw161_1), ((HB.out.cell (World.block_lt_of_cell? w _ hw161_2)).trans hw161_2)⟩ (fun hHeld => ?_)
         clear hK K
         refine nm_ (some 31) ?_
         refine pa_ 15 (some 16) (bl_ 23 65535) HT_ ?_
         refine pa_ 16 (some 32) (bl_ 23 131071) HT_ ?_
         refine pa_ 17 (some 33) (bl_ 23 262143) HT_ ?_
         refine pa_ 18 (some 34) (bl_ 23 524287) HT_ ?_
         refine oa_ 19 (some 7) (bl_ 23 1048575) HT_ fun K hK => ?_
         refine bs2_ #[.int .u64 0, .int .u64 0] 92 ?_
         intro gb166 hg w13 BK166 hb
         have GW166 := bz_ w hg
         have GE166 := GW166
         replace HB := bs_ w hb
         clear hb hg
         refine hK.out _ _ ⟨((HB.out.cell (World.block_lt_of_cell? w _ hw158_0)).trans hw158_0), ((HB.out.cell (World.block_lt_of_cell? w _ hw158_1)).trans hw158_1), ((HB.out.cell (World.block_lt_of_cell? w _ hw158_2)).trans hw158_2), ((HB.out.cell (World.block_lt_of_cell? w _ hw161_0)).trans hw161_0), ((HB.out.cell (World.block_lt_of_cell? w _ hw161_1)).trans hw161_1), ((HB.out.cell (World.block_lt_of_cell? w _ hw161_2)).trans hw161_2)⟩ (fun hHeld => ?_)
         clear hK K
         refine nm_ (some 7) ?_
         exact no_ (hCont (gb166) _ ⟨hHeld, (bq_ BK166), GW166.out, GE166.out, bh_⟩)
        ·refine bs2_ #[.int .u64 0, .int .u64 0] 92 ?_
         intro gb166 hg w12 BK166 hb
         have GW166 := bz_ w hg
         have GE166 := GW166
         replace HB := bs_ w hb
         clear hb hg
         refine hK.out _ _ ⟨((HB.out.cell (World.block_lt_of_cell? w _ hw158_0)).trans hw158_0), ((HB.out.cell (World.block_lt_of_cell? w _ hw158_1)).trans hw158_1), ((HB.out.cell (World.block_lt_of_cell? w _ hw158_2)).trans hw158_2), ((HB.out.cell (World.block_lt_of_cell? w _ hw161_0)).trans hw161_0), ((HB.out.cell (World.block_lt_of_cell? w _ hw161_1)).trans hw161_1), ((HB.out.cell (World.block_lt_of_cell? w _ hw161_2)).trans hw161_2)⟩ (fun hHeld => ?_)
         clear hK K
         refine nm_ (some 7) ?_
         refine oa_ 14 (some 31) (bl_ 23 557055) HT_ fun K hK => ?_
         refine goesB_ Try.func52 #[.agg #[.int .u64 t159, .int .u64 t160], .int .u64 (IntKind.u64.wrap ((rd_T49 l0 x6_1).f2))] ?_
         with_reducible refine (spigotref01_Div.calls k1 t159 t160 (IntKind.u64.wrap ((rd_T49 l0 x6_1).f2)) t162 t163 t164 t165 _ A6.out).mono ?_
         rintro e w13 ⟨rfl, hb⟩
         refine ⟨_, rfl, ?_⟩
         replace BK166 := bb_ BK166 hb
         replace HB := bs_ w hb
         clear hb
         refine hK.out _ _ ⟨((HB.out.cell (World.block_lt_of_cell? w _ hw158_0)).trans hw158_0), ((HB.out.cell (World.block_lt_of_cell? w _ hw158_1)).trans hw158_1), ((HB.out.cell (World.block_lt_of_cell? w _ hw158_2)).trans hw158_2), ((HB.out.cell (World.block_lt_of_cell? w _ hw161_0)).trans hw161_0), ((HB.out.cell (World.block_lt_of_cell? w _ hw161_1)).trans hw161_1), ((HB.out.cell (World.block_lt_of_cell? w _ hw161_2)).trans hw161_2)⟩ (fun hHeld => ?_)
         clear hK K
         refine nm_ (some 31) ?_
         refine pa_ 15 (some 16) (bl_ 23 589823) HT_ ?_
         refine pa_ 16 (some 32) (bl_ 23 655359) HT_ ?_
         refine pa_ 17 (some 33) (bl_ 23 786431) HT_ ?_
         refine pa_ 18 (some 34) (bl_ 23 1048575) HT_ ?_
         exact no_ (hCont (gb166) _ ⟨hHeld, (bq_ BK166), GW166.out, GE166.out, bh_⟩)
       ·refine bs2_ #[.int .u64 0, .int .u64 0] 92 ?_
        intro gb166 hg w11 BK166 hb
        have GW166 := bz_ w hg
        have GE166 := GW166
        replace HB := bs_ w hb
        clear hb hg
        refine hK.out _ _ ⟨((HB.out.cell (World.block_lt_of_cell? w _ hw158_0)).trans hw158_0), ((HB.out.cell (World.block_lt_of_cell? w _ hw158_1)).trans hw158_1), ((HB.out.cell (World.block_lt_of_cell? w _ hw158_2)).trans hw158_2), ((HB.out.cell (World.block_lt_of_cell? w _ hw161_0)).trans hw161_0), ((HB.out.cell (World.block_lt_of_cell? w _ hw161_1)).trans hw161_1), ((HB.out.cell (World.block_lt_of_cell? w _ hw161_2)).trans hw161_2)⟩ (fun hHeld => ?_)
        clear hK K
        refine nm_ (some 7) ?_
        refine oa_ 7 (some 24) (bl_ 23 540671) HT_ fun K hK => ?_
        refine goesB_ Try.func53 #[.int .u64 a1, .int .u64 (IntKind.u64.wrap ((rd_T49 l0 x6_1).f1))] ?_
        with_reducible refine (spigotref01_Mul.calls a1 (IntKind.u64.wrap ((rd_T49 l0 x6_1).f1)) t159 t160 _ A5.out).mono ?_
        rintro e w12 ⟨rfl, hb⟩
        refine ⟨_, rfl, ?_⟩
        replace BK166 := bb_ BK166 hb
        replace HB := bs_ w hb
        clear hb
        refine hK.out _ _ ⟨((HB.out.cell (World.block_lt_of_cell? w _ hw158_0)).trans hw158_0), ((HB.out.cell (World.block_lt_of_cell? w _ hw158_1)).trans hw158_1), ((HB.out.cell (World.block_lt_of_cell? w _ hw158_2)).trans hw158_2), ((HB.out.cell (World.block_lt_of_cell? w _ hw161_0)).trans hw161_0), ((HB.out.cell (World.block_lt_of_cell? w _ hw161_1)).trans hw161_1), ((HB.out.cell (World.block_lt_of_cell? w _ hw161_2)).trans hw161_2)⟩ (fun hHeld => ?_)
        clear hK K
        refine nm_ (some 24) ?_
        refine oa_ 14 (some 31) (bl_ 23 557055) HT_ fun K hK => ?_
        refine goesB_ Try.func52 #[.agg #[.int .u64 t159, .int .u64 t160], .int .u64 (IntKind.u64.wrap ((rd_T49 l0 x6_1).f2))] ?_
        with_reducible refine (spigotref01_Div.calls k1 t159 t160 (IntKind.u64.wrap ((rd_T49 l0 x6_1).f2)) t162 t163 t164 t165 _ A6.out).mono ?_
        rintro e w13 ⟨rfl, hb⟩
        refine ⟨_, rfl, ?_⟩
        replace BK166 := bb_ BK166 hb
        replace HB := bs_ w hb
        clear hb
        refine hK.out _ _ ⟨((HB.out.cell (World.block_lt_of_cell? w _ hw158_0)).trans hw158_0), ((HB.out.cell (World.block_lt_of_cell? w _ hw158_1)).trans hw158_1), ((HB.out.cell (World.block_lt_of_cell? w _ hw158_2)).trans hw158_2), ((HB.out.cell (World.block_lt_of_cell? w _ hw161_0)).trans hw161_0), ((HB.out.cell (World.block_lt_of_cell? w _ hw161_1)).trans hw161_1), ((HB.out.cell (World.block_lt_of_cell? w _ hw161_2)).trans hw161_2)⟩ (fun hHeld => ?_)
        clear hK K
        refine nm_ (some 31) ?_
        refine pa_ 15 (some 16) (bl_ 23 589823) HT_ ?_
        refine pa_ 16 (some 32) (bl_ 23 655359) HT_ ?_
        refine pa_ 17 (some 33) (bl_ 23 786431) HT_ ?_
        refine pa_ 18 (some 34) (bl_ 23 1048575) HT_ ?_
        exact no_ (hCont (gb166) _ ⟨hHeld, (bq_ BK166), GW166.out, GE166.out, bh_⟩)
      rintro gb166 w14 ⟨hS_, h0_, h1_, h2_, h3_⟩
      have BK166 := Aside0.mk h0_
      have GW166 := Aside0.mk h1_
      have GE166 := Aside0.mk h2_
      replace HB := Aside0.mk h3_
      clear h0_ h1_ h2_ h3_
      have hHeld := hS_
      refine nq_ ?_
      refine oa_ 20 none (bl_ 23 2097151) HT_ fun K hK => ?_
      have hs15 : w14.cell? ⟨gb166, 0, none⟩ = some (.int .u64 0) := (blk_cell BK166.out 0).trans rfl
      have hfs15 := blk_frozen BK166.out 0
      have hs16 : w14.cell? ⟨gb166, 1, none⟩ = some (.int .u64 0) := (blk_cell BK166.out 1).trans rfl
      have hfs16 := blk_frozen BK166.out 1
      refine sk_ ?_
      refine hK.out _ _ ⟨(fcr2_ (by first | exact Nat.ne_of_lt (Nat.lt_of_lt_of_le (by have := World.block_lt_of_cell? _ _ hw158_0; first | rwa [add_block] at this | exact this) GW166.out) | (rw [add_block]; exact Nat.ne_of_lt (Nat.lt_of_lt_of_le (by have := World.block_lt_of_cell? _ _ hw158_0; first | rwa [add_block] at this | exact this) GW166.out)) | (show (Addr.add _ _).block ≠ _; rw [add_block]; exact Nat.ne_of_lt (Nat.lt_of_lt_of_le (by have := World.block_lt_of_cell? _ _ hw158_0; first | rwa [add_block] at this | exact this) GW166.out)) | (dsimp only; exact Nat.ne_of_lt (Nat.lt_of_lt_of_le (by have := World.block_lt_of_cell? _ _ hw158_0; first | rwa [add_block] at this | exact this) GW166.out))) hHeld.1), (fcr2_ (by first | exact Nat.ne_of_lt (Nat.lt_of_lt_of_le (by have := World.block_lt_of_cell? _ _ hw158_1; first | rwa [add_block] at this | exact this) GW166.out) | (rw [add_block]; exact Nat.ne_of_lt (Nat.lt_of_lt_of_le (by have := World.block_lt_of_cell? _ _ hw158_1; first | rwa [add_block] at this | exact this) GW166.out)) | (show (Addr.add _ _).block ≠ _; rw [add_block]; exact Nat.ne_of_lt (Nat.lt_of_lt_of_le (by have := World.block_lt_of_cell? _ _ hw158_1; first | rwa [add_block] at this | exact this) GW166.out)) | (dsimp only; exact Nat.ne_of_lt (Nat.lt_of_lt_of_le (by have := World.block_lt_of_cell? _ _ hw158_1; first | rwa [add_block] at this | exact this) GW166.out))) hHeld.2.1), (fcr2_ (by first | exact Nat.ne_of_lt (Nat.lt_of_lt_of_le (by have := World.block_lt_of_cell? _ _ hw158_2; first | rwa [add_block] at this | exact this) GW166.out) | (rw [add_block]; exact Nat.ne_of_lt (Nat.lt_of_lt_of_le (by have := World.block_lt_of_cell? _ _ hw158_2; first | rwa [add_block] at this | exact this) GW166.out)) | (show (Addr.add _ _).block ≠ _; rw [add_block]; exact Nat.ne_of_lt (Nat.lt_of_lt_of_le (by have := World.block_lt_of_cell? _ _ hw158_2; first | rwa [add_block] at this | exact this) GW166.out)) | (dsimp only; exact Nat.ne_of_lt (Nat.lt_of_lt_of_le (by have := World.block_lt_of_cell? _ _ hw158_2; first | rwa [add_block] at this | exact this) GW166.out))) hHeld.2.2.1), (fcr2_ (by first | exact Nat.ne_of_lt (Nat.lt_of_lt_of_le (by have := World.block_lt_of_cell? _ _ hw161_0; first | rwa [add_block] at this | exact this) GW166.out) | (rw [add_block]; exact Nat.ne_of_lt (Nat.lt_of_lt_of_le (by have := World.block_lt_of_cell? _ _ hw161_0; first | rwa [add_block] at this | exact this) GW166.out)) | (show (Addr.add _ _).block ≠ _; rw [add_block]; exact Nat.ne_of_lt (Nat.lt_of_lt_of_le (by have := World.block_lt_of_cell? _ _ hw161_0; first | rwa [add_block] at this | exact this) GW166.out)) | (dsimp only; exact Nat.ne_of_lt (Nat.lt_of_lt_of_le (by have := World.block_lt_of_cell? _ _ hw161_0; first | rwa [add_block] at this | exact this) GW166.out))) hHeld.2.2.2.1), (fcr2_ (by first | exact Nat.ne_of_lt (Nat.lt_of_lt_of_le (by have := World.block_lt_of_cell? _ _ hw161_1; first | rwa [add_block] at this | exact this) GW166.out) | (rw [add_block]; exact Nat.ne_of_lt (Nat.lt_of_lt_of_le (by have := World.block_lt_of_cell? _ _ hw161_1; first | rwa [add_block] at this | exact this) GW166.out)) | (show (Addr.add _ _).block ≠ _; rw [add_block]; exact Nat.ne_of_lt (Nat.lt_of_lt_of_le (by have := World.block_lt_of_cell? _ _ hw161_1; first | rwa [add_block] at this | exact this) GW166.out)) | (dsimp only; exact Nat.ne_of_lt (Nat.lt_of_lt_of_le (by have := World.block_lt_of_cell? _ _ hw161_1; first | rwa [add_block] at this | exact this) GW166.out))) hHeld.2.2.2.2.1), (fcr2_ (by first | exact Nat.ne_of_lt (Nat.lt_of_lt_of_le (by have := World.block_lt_of_cell? _ _ hw161_2; first | rwa [add_block] at this | exact this) GW166.out) | (rw [add_block]; exact Nat.ne_of_lt (Nat.lt_of_lt_of_le (by have := World.block_lt_of_cell? _ _ hw161_2; first | rwa [add_block] at this | exact this) GW166.out)) | (show (Addr.add _ _).block ≠ _; rw [add_block]; exact Nat.ne_of_lt (Nat.lt_of_lt_of_le (by have := World.block_lt_of_cell? _ _ hw161_2; first | rwa [add_block] at this | exact this) GW166.out)) | (dsimp only; exact Nat.ne_of_lt (Nat.lt_of_lt_of_le (by have := World.block_lt_of_cell? _ _ hw161_2; first | rwa [add_block] at this | exact this) GW166.out))) hHeld.2.2.2.2.2)⟩ (fun hHeld => ?_)
      clear hK K
      refine pa_ 21 (some 8) (bl_ 23 4194303) HT_ ?_
      refine pa_ 22 (some 9) (bl_ 23 8388607) HT_ ?_
      refine done_ (done_of HT_.out (by kernel_rfl)) ?_
      replace hc166 := ce2_ BK166
      try go_wp2
      have n0_ : Aside0 (((w14.setCell ⟨gb166, 0, none⟩ (.int .u64 t162)).setCell ⟨gb166, 1, none⟩ (.int .u64 t163)).heap[gb166]? = some (.cells #[.int .u64 t162, .int .u64 t163] 92 (0, 0))) := ⟨(bp2_ (bq_ BK166))⟩
      have n1_ : Aside0 (Below w.heap.size w ((w14.setCell ⟨gb166, 0, none⟩ (.int .u64 t162)).setCell ⟨gb166, 1, none⟩ (.int .u64 t163))) := bw_
      (try clear BK166)
      (try clear HB)
      generalize ((w14.setCell ⟨gb166, 0, none⟩ (.int .u64 t162)).setCell ⟨gb166, 1, none⟩ (.int .u64 t163)) = w18 at n0_ n1_ ⊢
      have BK166 := n0_
      have HB := n1_
      clear n0_ n1_
      replace BK166 := Aside0.mk (blk_drew BK166.out)
      replace HB := Aside0.mk (below_drew1 HB.out)
      have p167 : 0 ≤ (x6_1 : Int) := of_decide_eq_true (by first | (with_reducible assumption) | assumption)
      have q167 : x6_1 < (l0.length : Int) := of_decide_eq_true (by first | (with_reducible assumption) | assumption)
      obtain ⟨ad167, e167, hx167_0, hx167_1, hx167_2⟩ := at_T49 HR0.out x6_1 p167 q167
      have hw167_2 := hx167_2
      have hw167_1 := hx167_1
      have hw167_0 := hx167_0
      obtain rfl : ad158 = ad167 := (by injection e167)
      replace hx167_0 := (HB.out.cell (World.block_lt_of_cell? w _ hx167_0)).trans hx167_0
      replace hx167_1 := (HB.out.cell (World.block_lt_of_cell? w _ hx167_1)).trans hx167_1
      replace hx167_2 := (HB.out.cell (World.block_lt_of_cell? w _ hx167_2)).trans hx167_2
      replace p167 := eq_true p167
      replace q167 := eq_true q167
      refine start_ (n := 12) (S := fun w' => w'.cell? ⟨gb166, 0, none⟩ = some (.int .u64 t162) ∧ w'.cell? ⟨gb166, 1, none⟩ = some (.int .u64 t163) ∧ w'.cell? (ad158.add ((x6_1).toNat * 3)) = some (.int .i64 ((rd_T49 l0 x6_1).f0)) ∧ w'.cell? ⟨(ad158.add ((x6_1).toNat * 3)).block, (ad158.add ((x6_1).toNat * 3)).off + 1, none⟩ = some (.int .i64 ((rd_T49 l0 x6_1).f1)) ∧ w'.cell? ⟨(ad158.add ((x6_1).toNat * 3)).block, (ad158.add ((x6_1).toNat * 3)).off + 2, none⟩ = some (.int .i64 ((rd_T49 l0 x6_1).f2))) (ds := []) (bl_ 12 0) (by kernel_rfl) rfl (by kernel_rfl) ⟨(blk_cell BK166.out 0).trans rfl, (blk_cell BK166.out 1).trans rfl, ((HB.out.cell (World.block_lt_of_cell? w _ hw167_0)).trans hw167_0), ((HB.out.cell (World.block_lt_of_cell? w _ hw167_1)).trans hw167_1), ((HB.out.cell (World.block_lt_of_cell? w _ hw167_2)).trans hw167_2)⟩ (fun hHeld => ?_); refine with_tabW spigotref40_value.tab7 spigotref40_value.bits7 (fun HT_ HW_ => ?_)
      generalize w18.drew = w19 at BK166 HB hx167_0 hx167_1 hx167_2 hHeld ⊢
      refine pa_ 0 (some 43) (bl_ 12 1) HT_ ?_
      refine pa_ 1 (some 44) (bl_ 12 3) HT_ ?_
      refine pa_ 2 (some 45) (bl_ 12 7) HT_ ?_
      refine pa_ 3 (some 46) (bl_ 12 15) HT_ ?_
      refine pa_ 4 (some 47) (bl_ 12 31) HT_ ?_
      refine pa_ 6 (some 49) (bl_ 12 95) HT_ ?_
      refine ta_ 5 (some 48) (bl_ 12 127) HT_ HW_ hHeld ?_
      refine ta_ 7 (some 50) (bl_ 12 255) HT_ HW_ hHeld ?_
      refine pa_ 8 (some 51) (bl_ 12 511) HT_ ?_
      refine pa_ 9 (some 52) (bl_ 12 1023) HT_ ?_
      refine pa_ 10 (some 53) (bl_ 12 2047) HT_ ?_
      refine pa_ 11 (some 5) (bl_ 12 4095) HT_ ?_
      refine done_ (done_of HT_.out (by kernel_rfl)) ?_
      try go_wp2
      go_roundg k1
      case measure => have := HK1.out; omega
      case rel => exact ⟨(ji9), (wrap64 (x6_1 + 1)), (by first | rfl | (simp; done) | (simp only [← hji9] <;> (first | rfl | simp)) | (simp [*]; done)), rf_, H', ⟨by have := HK1.out; omega⟩, bw_⟩
     ·rw [if_neg c8] at H
      have c8b0 : decide (t163 < 1000000000000) = false := decide_eq_false c8
      clear c8
      have H' := Aside0.mk H
      clear H
      try go_wp2
      replace HB := Aside0.mk (below_drew1 HB.out)
      have p158 : 0 ≤ (x6_1 : Int) := of_decide_eq_true (by first | (with_reducible assumption) | assumption)
      have q158 : x6_1 < (l0.length : Int) := of_decide_eq_true (by first | (with_reducible assumption) | assumption)
      obtain ⟨ad158, e158, hx158_0, hx158_1, hx158_2⟩ := at_T49 HR0.out x6_1 p158 q158
      have hw158_2 := hx158_2
      have hw158_1 := hx158_1
      have hw158_0 := hx158_0
      cases e158
      replace hx158_0 := (HB.out.cell (World.block_lt_of_cell? w _ hx158_0)).trans hx158_0
      replace hx158_1 := (HB.out.cell (World.block_lt_of_cell? w _ hx158_1)).trans hx158_1
      replace hx158_2 := (HB.out.cell (World.block_lt_of_cell? w _ hx158_2)).trans hx158_2
      replace p158 := eq_true p158
      replace q158 := eq_true q158
      have p161 : 0 ≤ (x6_1 : Int) := of_decide_eq_true (by first | (with_reducible assumption) | assumption)
      have q161 : x6_1 < (l0.length : Int) := of_decide_eq_true (by first | (with_reducible assumption) | assumption)
      obtain ⟨ad161, e161, hx161_0, hx161_1, hx161_2⟩ := at_T49 HR0.out x6_1 p161 q161
      have hw161_2 := hx161_2
      have hw161_1 := hx161_1
      have hw161_0 := hx161_0
      obtain rfl : ad158 = ad161 := (by injection e161)
      replace hx161_0 := (HB.out.cell (World.block_lt_of_cell? w _ hx161_0)).trans hx161_0
      replace hx161_1 := (HB.out.cell (World.block_lt_of_cell? w _ hx161_1)).trans hx161_1
      replace hx161_2 := (HB.out.cell (World.block_lt_of_cell? w _ hx161_2)).trans hx161_2
      replace p161 := eq_true p161
      replace q161 := eq_true q161
      refine start_ (n := 23) (S := fun w' => w'.cell? (ad158.add ((x6_1).toNat * 3)) = some (.int .i64 ((rd_T49 l0 x6_1).f0)) ∧ w'.cell? ⟨(ad158.add ((x6_1).toNat * 3)).block, (ad158.add ((x6_1).toNat * 3)).off + 1, none⟩ = some (.int .i64 ((rd_T49 l0 x6_1).f1)) ∧ w'.cell? ⟨(ad158.add ((x6_1).toNat * 3)).block, (ad158.add ((x6_1).toNat * 3)).off + 2, none⟩ = some (.int .i64 ((rd_T49 l0 x6_1).f2)) ∧ w'.cell? (ad158.add ((x6_1).toNat * 3)) = some (.int .i64 ((rd_T49 l0 x6_1).f0)) ∧ w'.cell? ⟨(ad158.add ((x6_1).toNat * 3)).block, (ad158.add ((x6_1).toNat * 3)).off + 1, none⟩ = some (.int .i64 ((rd_T49 l0 x6_1).f1)) ∧ w'.cell? ⟨(ad158.add ((x6_1).toNat * 3)).block, (ad158.add ((x6_1).toNat * 3)).off + 2, none⟩ = some (.int .i64 ((rd_T49 l0 x6_1).f2))) (ds := []) (bl_ 23 0) (by kernel_rfl) rfl (by kernel_rfl) ⟨((HB.out.cell (World.block_lt_of_cell? w _ hw158_0)).trans hw158_0), ((HB.out.cell (World.block_lt_of_cell? w _ hw158_1)).trans hw158_1), ((HB.out.cell (World.block_lt_of_cell? w _ hw158_2)).trans hw158_2), ((HB.out.cell (World.block_lt_of_cell? w _ hw161_0)).trans hw161_0), ((HB.out.cell (World.block_lt_of_cell? w _ hw161_1)).trans hw161_1), ((HB.out.cell (World.block_lt_of_cell? w _ hw161_2)).trans hw161_2)⟩ (fun hHeld => ?_); refine with_tabW spigotref40_value.tab5 spigotref40_value.bits5 (fun HT_ HW_ => ?_)
      generalize wr.drew = w20 at HB hx158_0 hx158_1 hx158_2 hx161_0 hx161_1 hx161_2 hHeld ⊢
      refine pa_ 0 (some 17) (bl_ 23 1) HT_ ?_
      refine pa_ 1 (some 18) (bl_ 23 3) HT_ ?_
      refine pa_ 2 (some 19) (bl_ 23 7) HT_ ?_
      refine pa_ 3 (some 20) (bl_ 23 15) HT_ ?_
      refine pa_ 4 (some 21) (bl_ 23 31) HT_ ?_
      refine pa_ 8 (some 25) (bl_ 23 287) HT_ ?_
      refine pa_ 9 (some 26) (bl_ 23 799) HT_ ?_
      refine pa_ 10 (some 27) (bl_ 23 1823) HT_ ?_
      refine pa_ 11 (some 28) (bl_ 23 3871) HT_ ?_
      refine ta_ 5 (some 22) (bl_ 23 3903) HT_ HW_ hHeld ?_
      refine pa_ 6 (some 23) (bl_ 23 3967) HT_ ?_
      refine ta_ 12 (some 29) (bl_ 23 8063) HT_ HW_ hHeld ?_
      refine pa_ 13 (some 30) (bl_ 23 16255) HT_ ?_
      refine join_ (σ := Nat) 3 (bl_ 23 1048575) (fun s_ => [(24, .agg #[.int .u64 t159, .int .u64 t160]), (31, .tuple #[.agg #[.int .u64 t162, .int .u64 t163], .int .u64 t164, .int .i64 t165]), (7, .pointer (some ⟨s_, 0, none⟩)), (16, .tuple #[.agg #[.int .u64 t162, .int .u64 t163], .int .u64 t164, .int .i64 t165]), (32, .agg #[.int .u64 t162, .int .u64 t163]), (33, .int .u64 t164), (34, .int .i64 t165)]) (fun s_ w' => (w'.cell? (ad158.add ((x6_1).toNat * 3)) = some (.int .i64 ((rd_T49 l0 x6_1).f0)) ∧ w'.cell? ⟨(ad158.add ((x6_1).toNat * 3)).block, (ad158.add ((x6_1).toNat * 3)).off + 1, none⟩ = some (.int .i64 ((rd_T49 l0 x6_1).f1)) ∧ w'.cell? ⟨(ad158.add ((x6_1).toNat * 3)).block, (ad158.add ((x6_1).toNat * 3)).off + 2, none⟩ = some (.int .i64 ((rd_T49 l0 x6_1).f2)) ∧ w'.cell? (ad158.add ((x6_1).toNat * 3)) = some (.int .i64 ((rd_T49 l0 x6_1).f0)) ∧ w'.cell? ⟨(ad158.add ((x6_1).toNat * 3)).block, (ad158.add ((x6_1).toNat * 3)).off + 1, none⟩ = some (.int .i64 ((rd_T49 l0 x6_1).f1)) ∧ w'.cell? ⟨(ad158.add ((x6_1).toNat * 3)).block, (ad158.add ((x6_1).toNat * 3)).off + 2, none⟩ = some (.int .i64 ((rd_T49 l0 x6_1).f2))) ∧ (w'.heap[s_]? = some (.cells #[.int .u64 0, .int .u64 0] 92 (0, 0))) ∧ (w.heap.size ≤ s_) ∧ (w.heap.size ≤ s_) ∧ (Below w.heap.size w w')) ?_ ?_
      rotate_left
      ·intro hCont
       refine tw_ 7 19 (some 24) (some 7) (bl_ 23 16383) (bl_ 23 540543) HT_ (fun K hK => ?_) fun K hK => ?_
       ·refine goesB_ Try.func53 #[.int .u64 a1, .int .u64 (IntKind.u64.wrap ((rd_T49 l0 x6_1).f1))] ?_
        with_reducible refine (spigotref01_Mul.calls a1 (IntKind.u64.wrap ((rd_T49 l0 x6_1).f1)) t159 t160 _ A5.out).mono ?_
        rintro e w21 ⟨rfl, hb⟩
        refine ⟨_, rfl, ?_⟩
        replace HB := bs_ w hb
        clear hb
        refine hK.out _ _ ⟨((HB.out.cell (World.block_lt_of_cell? w _ hw158_0)).trans hw158_0), ((HB.out.cell (World.block_lt_of_cell? w _ hw158_1)).trans hw158_1), ((HB.out.cell (World.block_lt_of_cell? w _ hw158_2)).trans hw158_2), ((HB.out.cell (World.block_lt_of_cell? w _ hw161_0)).trans hw161_0), ((HB.out.cell (World.block_lt_of_cell? w _ hw161_1)).trans hw161_1), ((HB.out.cell (World.block_lt_of_cell? w _ hw161_2)).trans hw161_2)⟩ (fun hHeld => ?_)
        clear hK K
        refine nm_ (some 24) ?_
        refine tw_ 14 19 (some 31) (some 7) (bl_ 23 32767) (bl_ 23 540671) HT_ (fun K hK => ?_) fun K hK => ?_
        ·refine goesB_ Try.func52 #[.agg #[.int .u64 t159, .int .u64 t160], .int .u64 (IntKind.u64.wrap ((rd_T49 l0 x6_1).f2))] ?_
         with_reducible refine (spigotref01_Div.calls k1 t159 t160 (IntKind.u64.wrap ((rd_T49 l0 x6_1).f2)) t162 t163 t164 t165 _ A6.out).mono ?_
         rintro e w22 ⟨rfl, hb⟩
         refine ⟨_, rfl, ?_⟩
         replace HB := bs_ w hb
         clear hb
         refine hK.out _ _ ⟨((HB.out.cell (World.block_lt_of_cell? w _ hw158_0)).trans hw158_0), ((HB.out.cell (World.block_lt_of_cell? w _ hw158_1)).trans hw158_1), ((HB.out.cell (World.block_lt_of_cell? w _ hw158_2)).trans hw158_2), ((HB.out.cell (World.block_lt_of_cell? w _ hw161_0)).trans hw161_0), ((HB.out.cell (World.block_lt_of_cell? w _ hw161_1)).trans hw161_1), ((HB.out.cell (World.block_lt_of_cell? w _ hw161_2)).trans hw161_2)⟩ (fun hHeld => ?_)
         clear hK K
         refine nm_ (some 31) ?_
         refine pa_ 15 (some 16) (bl_ 23 65535) HT_ ?_
         refine pa_ 16 (some 32) (bl_ 23 131071) HT_ ?_
         refine pa_ 17 (some 33) (bl_ 23 262143) HT_ ?_
         refine pa_ 18 (some 34) (bl_ 23 524287) HT_ ?_
         refine oa_ 19 (some 7) (bl_ 23 1048575) HT_ fun K hK => ?_
         refine bs2_ #[.int .u64 0, .int .u64 0] 92 ?_
         intro gb166 hg w23 BK166 hb
         have GW166 := bz_ w hg
         have GE166 := GW166
         replace HB := bs_ w hb
         clear hb hg
         refine hK.out _ _ ⟨((HB.out.cell (World.block_lt_of_cell? w _ hw158_0)).trans hw158_0), ((HB.out.cell (World.block_lt_of_cell? w _ hw158_1)).trans hw158_1), ((HB.out.cell (World.block_lt_of_cell? w _ hw158_2)).trans hw158_2), ((HB.out.cell (World.block_lt_of_cell? w _ hw161_0)).trans hw161_0), ((HB.out.cell (World.block_lt_of_cell? w _ hw161_1)).trans hw161_1), ((HB.out.cell (World.block_lt_of_cell? w _ hw161_2)).trans hw161_2)⟩ (fun hHeld => ?_)
         clear hK K
         refine nm_ (some 7) ?_
         exact no_ (hCont (gb166) _ ⟨hHeld, (bq_ BK166), GW166.out, GE166.out, bh_⟩)
        ·refine bs2_ #[.int .u64 0, .int .u64 0] 92 ?_
         intro gb166 hg w22 BK166 hb
         have GW166 := bz_ w hg
         have GE166 := GW166
         replace HB := bs_ w hb
         clear hb hg
         refine hK.out _ _ ⟨((HB.out.cell (World.block_lt_of_cell? w _ hw158_0)).trans hw158_0), ((HB.out.cell (World.block_lt_of_cell? w _ hw158_1)).trans hw158_1), ((HB.out.cell (World.block_lt_of_cell? w _ hw158_2)).trans hw158_2), ((HB.out.cell (World.block_lt_of_cell? w _ hw161_0)).trans hw161_0), ((HB.out.cell (World.block_lt_of_cell? w _ hw161_1)).trans hw161_1), ((HB.out.cell (World.block_lt_of_cell? w _ hw161_2)).trans hw161_2)⟩ (fun hHeld => ?_)
         clear hK K
         refine nm_ (some 7) ?_
         refine oa_ 14 (some 31) (bl_ 23 557055) HT_ fun K hK => ?_
         refine goesB_ Try.func52 #[.agg #[.int .u64 t159, .int .u64 t160], .int .u64 (IntKind.u64.wrap ((rd_T49 l0 x6_1).f2))] ?_
         with_reducible refine (spigotref01_Div.calls k1 t159 t160 (IntKind.u64.wrap ((rd_T49 l0 x6_1).f2)) t162 t163 t164 t165 _ A6.out).mono ?_
         rintro e w23 ⟨rfl, hb⟩
         refine ⟨_, rfl, ?_⟩
         replace BK166 := bb_ BK166 hb
         replace HB := bs_ w hb
         clear hb
         refine hK.out _ _ ⟨((HB.out.cell (World.block_lt_of_cell? w _ hw158_0)).trans hw158_0), ((HB.out.cell (World.block_lt_of_cell? w _ hw158_1)).trans hw158_1), ((HB.out.cell (World.block_lt_of_cell? w _ hw158_2)).trans hw158_2), ((HB.out.cell (World.block_lt_of_cell? w _ hw161_0)).trans hw161_0), ((HB.out.cell (World.block_lt_of_cell? w _ hw161_1)).trans hw161_1), ((HB.out.cell (World.block_lt_of_cell? w _ hw161_2)).trans hw161_2)⟩ (fun hHeld => ?_)
         clear hK K
         refine nm_ (some 31) ?_
         refine pa_ 15 (some 16) (bl_ 23 589823) HT_ ?_
         refine pa_ 16 (some 32) (bl_ 23 655359) HT_ ?_
         refine pa_ 17 (some 33) (bl_ 23 786431) HT_ ?_
         refine pa_ 18 (some 34) (bl_ 23 1048575) HT_ ?_
         exact no_ (hCont (gb166) _ ⟨hHeld, (bq_ BK166), GW166.out, GE166.out, bh_⟩)
       ·refine bs2_ #[.int .u64 0, .int .u64 0] 92 ?_
        intro gb166 hg w21 BK166 hb
        have GW166 := bz_ w hg
        have GE166 := GW166
        replace HB := bs_ w hb
        clear hb hg
        refine hK.out _ _ ⟨((HB.out.cell (World.block_lt_of_cell? w _ hw158_0)).trans hw158_0), ((HB.out.cell (World.block_lt_of_cell? w _ hw158_1)).trans hw158_1), ((HB.out.cell (World.block_lt_of_cell? w _ hw158_2)).trans hw158_2), ((HB.out.cell (World.block_lt_of_cell? w _ hw161_0)).trans hw161_0), ((HB.out.cell (World.block_lt_of_cell? w _ hw161_1)).trans hw161_1), ((HB.out.cell (World.block_lt_of_cell? w _ hw161_2)).trans hw161_2)⟩ (fun hHeld => ?_)
        clear hK K
        refine nm_ (some 7) ?_
        refine oa_ 7 (some 24) (bl_ 23 540671) HT_ fun K hK => ?_
        refine goesB_ Try.func53 #[.int .u64 a1, .int .u64 (IntKind.u64.wrap ((rd_T49 l0 x6_1).f1))] ?_
        with_reducible refine (spigotref01_Mul.calls a1 (IntKind.u64.wrap ((rd_T49 l0 x6_1).f1)) t159 t160 _ A5.out).mono ?_
        rintro e w22 ⟨rfl, hb⟩
        refine ⟨_, rfl, ?_⟩
        replace BK166 := bb_ BK166 hb
        replace HB := bs_ w hb
        clear hb
        refine hK.out _ _ ⟨((HB.out.cell (World.block_lt_of_cell? w _ hw158_0)).trans hw158_0), ((HB.out.cell (World.block_lt_of_cell? w _ hw158_1)).trans hw158_1), ((HB.out.cell (World.block_lt_of_cell? w _ hw158_2)).trans hw158_2), ((HB.out.cell (World.block_lt_of_cell? w _ hw161_0)).trans hw161_0), ((HB.out.cell (World.block_lt_of_cell? w _ hw161_1)).trans hw161_1), ((HB.out.cell (World.block_lt_of_cell? w _ hw161_2)).trans hw161_2)⟩ (fun hHeld => ?_)
        clear hK K
        refine nm_ (some 24) ?_
        refine oa_ 14 (some 31) (bl_ 23 557055) HT_ fun K hK => ?_
        refine goesB_ Try.func52 #[.agg #[.int .u64 t159, .int .u64 t160], .int .u64 (IntKind.u64.wrap ((rd_T49 l0 x6_1).f2))] ?_
        with_reducible refine (spigotref01_Div.calls k1 t159 t160 (IntKind.u64.wrap ((rd_T49 l0 x6_1).f2)) t162 t163 t164 t165 _ A6.out).mono ?_
        rintro e w23 ⟨rfl, hb⟩
        refine ⟨_, rfl, ?_⟩
        replace BK166 := bb_ BK166 hb
        replace HB := bs_ w hb
        clear hb
        refine hK.out _ _ ⟨((HB.out.cell (World.block_lt_of_cell? w _ hw158_0)).trans hw158_0), ((HB.out.cell (World.block_lt_of_cell? w _ hw158_1)).trans hw158_1), ((HB.out.cell (World.block_lt_of_cell? w _ hw158_2)).trans hw158_2), ((HB.out.cell (World.block_lt_of_cell? w _ hw161_0)).trans hw161_0), ((HB.out.cell (World.block_lt_of_cell? w _ hw161_1)).trans hw161_1), ((HB.out.cell (World.block_lt_of_cell? w _ hw161_2)).trans hw161_2)⟩ (fun hHeld => ?_)
        clear hK K
        refine nm_ (some 31) ?_
        refine pa_ 15 (some 16) (bl_ 23 589823) HT_ ?_
        refine pa_ 16 (some 32) (bl_ 23 655359) HT_ ?_
        refine pa_ 17 (some 33) (bl_ 23 786431) HT_ ?_
        refine pa_ 18 (some 34) (bl_ 23 1048575) HT_ ?_
        exact no_ (hCont (gb166) _ ⟨hHeld, (bq_ BK166), GW166.out, GE166.out, bh_⟩)
      rintro gb166 w24 ⟨hS_, h0_, h1_, h2_, h3_⟩
      have BK166 := Aside0.mk h0_
      have GW166 := Aside0.mk h1_
      have GE166 := Aside0.mk h2_
      replace HB := Aside0.mk h3_
      clear h0_ h1_ h2_ h3_
      have hHeld := hS_
      refine nq_ ?_
      refine oa_ 20 none (bl_ 23 2097151) HT_ fun K hK => ?_
      have hs25 : w24.cell? ⟨gb166, 0, none⟩ = some (.int .u64 0) := (blk_cell BK166.out 0).trans rfl
      have hfs25 := blk_frozen BK166.out 0
      have hs26 : w24.cell? ⟨gb166, 1, none⟩ = some (.int .u64 0) := (blk_cell BK166.out 1).trans rfl
      have hfs26 := blk_frozen BK166.out 1
      refine sk_ ?_
      refine hK.out _ _ ⟨(fcr2_ (by first | exact Nat.ne_of_lt (Nat.lt_of_lt_of_le (by have := World.block_lt_of_cell? _ _ hw158_0; first | rwa [add_block] at this | exact this) GW166.out) | (rw [add_block]; exact Nat.ne_of_lt (Nat.lt_of_lt_of_le (by have := World.block_lt_of_cell? _ _ hw158_0; first | rwa [add_block] at this | exact this) GW166.out)) | (show (Addr.add _ _).block ≠ _; rw [add_block]; exact Nat.ne_of_lt (Nat.lt_of_lt_of_le (by have := World.block_lt_of_cell? _ _ hw158_0; first | rwa [add_block] at this | exact this) GW166.out)) | (dsimp only; exact Nat.ne_of_lt (Nat.lt_of_lt_of_le (by have := World.block_lt_of_cell? _ _ hw158_0; first | rwa [add_block] at this | exact this) GW166.out))) hHeld.1), (fcr2_ (by first | exact Nat.ne_of_lt (Nat.lt_of_lt_of_le (by have := World.block_lt_of_cell? _ _ hw158_1; first | rwa [add_block] at this | exact this) GW166.out) | (rw [add_block]; exact Nat.ne_of_lt (Nat.lt_of_lt_of_le (by have := World.block_lt_of_cell? _ _ hw158_1; first | rwa [add_block] at this | exact this) GW166.out)) | (show (Addr.add _ _).block ≠ _; rw [add_block]; exact Nat.ne_of_lt (Nat.lt_of_lt_of_le (by have := World.block_lt_of_cell? _ _ hw158_1; first | rwa [add_block] at this | exact this) GW166.out)) | (dsimp only; exact Nat.ne_of_lt (Nat.lt_of_lt_of_le (by have := World.block_lt_of_cell? _ _ hw158_1; first | rwa [add_block] at this | exact this) GW166.out))) hHeld.2.1), (fcr2_ (by first | exact Nat.ne_of_lt (Nat.lt_of_lt_of_le (by have := World.block_lt_of_cell? _ _ hw158_2; first | rwa [add_block] at this | exact this) GW166.out) | (rw [add_block]; exact Nat.ne_of_lt (Nat.lt_of_lt_of_le (by have := World.block_lt_of_cell? _ _ hw158_2; first | rwa [add_block] at this | exact this) GW166.out)) | (show (Addr.add _ _).block ≠ _; rw [add_block]; exact Nat.ne_of_lt (Nat.lt_of_lt_of_le (by have := World.block_lt_of_cell? _ _ hw158_2; first | rwa [add_block] at this | exact this) GW166.out)) | (dsimp only; exact Nat.ne_of_lt (Nat.lt_of_lt_of_le (by have := World.block_lt_of_cell? _ _ hw158_2; first | rwa [add_block] at this | exact this) GW166.out))) hHeld.2.2.1), (fcr2_ (by first | exact Nat.ne_of_lt (Nat.lt_of_lt_of_le (by have := World.block_lt_of_cell? _ _ hw161_0; first | rwa [add_block] at this | exact this) GW166.out) | (rw [add_block]; exact Nat.ne_of_lt (Nat.lt_of_lt_of_le (by have := World.block_lt_of_cell? _ _ hw161_0; first | rwa [add_block] at this | exact this) GW166.out)) | (show (Addr.add _ _).block ≠ _; rw [add_block]; exact Nat.ne_of_lt (Nat.lt_of_lt_of_le (by have := World.block_lt_of_cell? _ _ hw161_0; first | rwa [add_block] at this | exact this) GW166.out)) | (dsimp only; exact Nat.ne_of_lt (Nat.lt_of_lt_of_le (by have := World.block_lt_of_cell? _ _ hw161_0; first | rwa [add_block] at this | exact this) GW166.out))) hHeld.2.2.2.1), (fcr2_ (by first | exact Nat.ne_of_lt (Nat.lt_of_lt_of_le (by have := World.block_lt_of_cell? _ _ hw161_1; first | rwa [add_block] at this | exact this) GW166.out) | (rw [add_block]; exact Nat.ne_of_lt (Nat.lt_of_lt_of_le (by have := World.block_lt_of_cell? _ _ hw161_1; first | rwa [add_block] at this | exact this) GW166.out)) | (show (Addr.add _ _).block ≠ _; rw [add_block]; exact Nat.ne_of_lt (Nat.lt_of_lt_of_le (by have := World.block_lt_of_cell? _ _ hw161_1; first | rwa [add_block] at this | exact this) GW166.out)) | (dsimp only; exact Nat.ne_of_lt (Nat.lt_of_lt_of_le (by have := World.block_lt_of_cell? _ _ hw161_1; first | rwa [add_block] at this | exact this) GW166.out))) hHeld.2.2.2.2.1), (fcr2_ (by first | exact Nat.ne_of_lt (Nat.lt_of_lt_of_le (by have := World.block_lt_of_cell? _ _ hw161_2; first | rwa [add_block] at this | exact this) GW166.out) | (rw [add_block]; exact Nat.ne_of_lt (Nat.lt_of_lt_of_le (by have := World.block_lt_of_cell? _ _ hw161_2; first | rwa [add_block] at this | exact this) GW166.out)) | (show (Addr.add _ _).block ≠ _; rw [add_block]; exact Nat.ne_of_lt (Nat.lt_of_lt_of_le (by have := World.block_lt_of_cell? _ _ hw161_2; first | rwa [add_block] at this | exact this) GW166.out)) | (dsimp only; exact Nat.ne_of_lt (Nat.lt_of_lt_of_le (by have := World.block_lt_of_cell? _ _ hw161_2; first | rwa [add_block] at this | exact this) GW166.out))) hHeld.2.2.2.2.2)⟩ (fun hHeld => ?_)
      clear hK K
      refine pa_ 21 (some 8) (bl_ 23 4194303) HT_ ?_
      refine pa_ 22 (some 9) (bl_ 23 8388607) HT_ ?_
      refine done_ (done_of HT_.out (by kernel_rfl)) ?_
      replace hc166 := ce2_ BK166
      try go_wp2
      go_roundg k1
      case measure => have := HK1.out; omega
      case rel => exact ⟨(x5_1), (wrap64 (x6_1 + 1)), rf_, rf_, H', ⟨by have := HK1.out; omega⟩, bw_⟩
    ·rw [if_neg c7] at H
     have c7b0 : (t162 == 0) = false := beq_eq_false_iff_ne.mpr c7
     have c7b1 : (t162 != 0) = true := bne_iff_ne.mpr c7
     have H' := Aside0.mk H
     clear H
     try go_wp2
     replace HB := Aside0.mk (below_drew1 HB.out)
     have p158 : 0 ≤ (x6_1 : Int) := of_decide_eq_true (by first | (with_reducible assumption) | assumption)
     have q158 : x6_1 < (l0.length : Int) := of_decide_eq_true (by first | (with_reducible assumption) | assumption)
     obtain ⟨ad158, e158, hx158_0, hx158_1, hx158_2⟩ := at_T49 HR0.out x6_1 p158 q158
     have hw158_2 := hx158_2
     have hw158_1 := hx158_1
     have hw158_0 := hx158_0
     cases e158
     replace hx158_0 := (HB.out.cell (World.block_lt_of_cell? w _ hx158_0)).trans hx158_0
     replace hx158_1 := (HB.out.cell (World.block_lt_of_cell? w _ hx158_1)).trans hx158_1
     replace hx158_2 := (HB.out.cell (World.block_lt_of_cell? w _ hx158_2)).trans hx158_2
     replace p158 := eq_true p158
     replace q158 := eq_true q158
     have p161 : 0 ≤ (x6_1 : Int) := of_decide_eq_true (by first | (with_reducible assumption) | assumption)
     have q161 : x6_1 < (l0.length : Int) := of_decide_eq_true (by first | (with_reducible assumption) | assumption)
     obtain ⟨ad161, e161, hx161_0, hx161_1, hx161_2⟩ := at_T49 HR0.out x6_1 p161 q161
     have hw161_2 := hx161_2
     have hw161_1 := hx161_1
     have hw161_0 := hx161_0
     obtain rfl : ad158 = ad161 := (by injection e161)
     replace hx161_0 := (HB.out.cell (World.block_lt_of_cell? w _ hx161_0)).trans hx161_0
     replace hx161_1 := (HB.out.cell (World.block_lt_of_cell? w _ hx161_1)).trans hx161_1
     replace hx161_2 := (HB.out.cell (World.block_lt_of_cell? w _ hx161_2)).trans hx161_2
     replace p161 := eq_true p161
     replace q161 := eq_true q161
     refine start_ (n := 23) (S := fun w' => w'.cell? (ad158.add ((x6_1).toNat * 3)) = some (.int .i64 ((rd_T49 l0 x6_1).f0)) ∧ w'.cell? ⟨(ad158.add ((x6_1).toNat * 3)).block, (ad158.add ((x6_1).toNat * 3)).off + 1, none⟩ = some (.int .i64 ((rd_T49 l0 x6_1).f1)) ∧ w'.cell? ⟨(ad158.add ((x6_1).toNat * 3)).block, (ad158.add ((x6_1).toNat * 3)).off + 2, none⟩ = some (.int .i64 ((rd_T49 l0 x6_1).f2)) ∧ w'.cell? (ad158.add ((x6_1).toNat * 3)) = some (.int .i64 ((rd_T49 l0 x6_1).f0)) ∧ w'.cell? ⟨(ad158.add ((x6_1).toNat * 3)).block, (ad158.add ((x6_1).toNat * 3)).off + 1, none⟩ = some (.int .i64 ((rd_T49 l0 x6_1).f1)) ∧ w'.cell? ⟨(ad158.add ((x6_1).toNat * 3)).block, (ad158.add ((x6_1).toNat * 3)).off + 2, none⟩ = some (.int .i64 ((rd_T49 l0 x6_1).f2))) (ds := []) (bl_ 23 0) (by kernel_rfl) rfl (by kernel_rfl) ⟨((HB.out.cell (World.block_lt_of_cell? w _ hw158_0)).trans hw158_0), ((HB.out.cell (World.block_lt_of_cell? w _ hw158_1)).trans hw158_1), ((HB.out.cell (World.block_lt_of_cell? w _ hw158_2)).trans hw158_2), ((HB.out.cell (World.block_lt_of_cell? w _ hw161_0)).trans hw161_0), ((HB.out.cell (World.block_lt_of_cell? w _ hw161_1)).trans hw161_1), ((HB.out.cell (World.block_lt_of_cell? w _ hw161_2)).trans hw161_2)⟩ (fun hHeld => ?_); refine with_tabW spigotref40_value.tab5 spigotref40_value.bits5 (fun HT_ HW_ => ?_)
     generalize wr.drew = w28 at HB hx158_0 hx158_1 hx158_2 hx161_0 hx161_1 hx161_2 hHeld ⊢
     refine pa_ 0 (some 17) (bl_ 23 1) HT_ ?_
     refine pa_ 1 (some 18) (bl_ 23 3) HT_ ?_
     refine pa_ 2 (some 19) (bl_ 23 7) HT_ ?_
     refine pa_ 3 (some 20) (bl_ 23 15) HT_ ?_
     refine pa_ 4 (some 21) (bl_ 23 31) HT_ ?_
     refine pa_ 8 (some 25) (bl_ 23 287) HT_ ?_
     refine pa_ 9 (some 26) (bl_ 23 799) HT_ ?_
     refine pa_ 10 (some 27) (bl_ 23 1823) HT_ ?_
     refine pa_ 11 (some 28) (bl_ 23 3871) HT_ ?_
     refine ta_ 5 (some 22) (bl_ 23 3903) HT_ HW_ hHeld ?_
     refine pa_ 6 (some 23) (bl_ 23 3967) HT_ ?_
     refine ta_ 12 (some 29) (bl_ 23 8063) HT_ HW_ hHeld ?_
     refine pa_ 13 (some 30) (bl_ 23 16255) HT_ ?_
     refine join_ (σ := Nat) 3 (bl_ 23 1048575) (fun s_ => [(24, .agg #[.int .u64 t159, .int .u64 t160]), (31, .tuple #[.agg #[.int .u64 t162, .int .u64 t163], .int .u64 t164, .int .i64 t165]), (7, .pointer (some ⟨s_, 0, none⟩)), (16, .tuple #[.agg #[.int .u64 t162, .int .u64 t163], .int .u64 t164, .int .i64 t165]), (32, .agg #[.int .u64 t162, .int .u64 t163]), (33, .int .u64 t164), (34, .int .i64 t165)]) (fun s_ w' => (w'.cell? (ad158.add ((x6_1).toNat * 3)) = some (.int .i64 ((rd_T49 l0 x6_1).f0)) ∧ w'.cell? ⟨(ad158.add ((x6_1).toNat * 3)).block, (ad158.add ((x6_1).toNat * 3)).off + 1, none⟩ = some (.int .i64 ((rd_T49 l0 x6_1).f1)) ∧ w'.cell? ⟨(ad158.add ((x6_1).toNat * 3)).block, (ad158.add ((x6_1).toNat * 3)).off + 2, none⟩ = some (.int .i64 ((rd_T49 l0 x6_1).f2)) ∧ w'.cell? (ad158.add ((x6_1).toNat * 3)) = some (.int .i64 ((rd_T49 l0 x6_1).f0)) ∧ w'.cell? ⟨(ad158.add ((x6_1).toNat * 3)).block, (ad158.add ((x6_1).toNat * 3)).off + 1, none⟩ = some (.int .i64 ((rd_T49 l0 x6_1).f1)) ∧ w'.cell? ⟨(ad158.add ((x6_1).toNat * 3)).block, (ad158.add ((x6_1).toNat * 3)).off + 2, none⟩ = some (.int .i64 ((rd_T49 l0 x6_1).f2))) ∧ (w'.heap[s_]? = some (.cells #[.int .u64 0, .int .u64 0] 92 (0, 0))) ∧ (w.heap.size ≤ s_) ∧ (w.heap.size ≤ s_) ∧ (Below w.heap.size w w')) ?_ ?_
     rotate_left
     ·intro hCont
      refine tw_ 7 19 (some 24) (some 7) (bl_ 23 16383) (bl_ 23 540543) HT_ (fun K hK => ?_) fun K hK => ?_
      ·refine goesB_ Try.func53 #[.int .u64 a1, .int .u64 (IntKind.u64.wrap ((rd_T49 l0 x6_1).f1))] ?_
       with_reducible refine (spigotref01_Mul.calls a1 (IntKind.u64.wrap ((rd_T49 l0 x6_1).f1)) t159 t160 _ A5.out).mono ?_
       rintro e w29 ⟨rfl, hb⟩
       refine ⟨_, rfl, ?_⟩
       replace HB := bs_ w hb
       clear hb
       refine hK.out _ _ ⟨((HB.out.cell (World.block_lt_of_cell? w _ hw158_0)).trans hw158_0), ((HB.out.cell (World.block_lt_of_cell? w _ hw158_1)).trans hw158_1), ((HB.out.cell (World.block_lt_of_cell? w _ hw158_2)).trans hw158_2), ((HB.out.cell (World.block_lt_of_cell? w _ hw161_0)).trans hw161_0), ((HB.out.cell (World.block_lt_of_cell? w _ hw161_1)).trans hw161_1), ((HB.out.cell (World.block_lt_of_cell? w _ hw161_2)).trans hw161_2)⟩ (fun hHeld => ?_)
       clear hK K
       refine nm_ (some 24) ?_
       refine tw_ 14 19 (some 31) (some 7) (bl_ 23 32767) (bl_ 23 540671) HT_ (fun K hK => ?_) fun K hK => ?_
       ·refine goesB_ Try.func52 #[.agg #[.int .u64 t159, .int .u64 t160], .int .u64 (IntKind.u64.wrap ((rd_T49 l0 x6_1).f2))] ?_
        with_reducible refine (spigotref01_Div.calls k1 t159 t160 (IntKind.u64.wrap ((rd_T49 l0 x6_1).f2)) t162 t163 t164 t165 _ A6.out).mono ?_
        rintro e w30 ⟨rfl, hb⟩
        refine ⟨_, rfl, ?_⟩
        replace HB := bs_ w hb
        clear hb
        refine hK.out _ _ ⟨((HB.out.cell (World.block_lt_of_cell? w _ hw158_0)).trans hw158_0), ((HB.out.cell (World.block_lt_of_cell? w _ hw158_1)).trans hw158_1), ((HB.out.cell (World.block_lt_of_cell? w _ hw158_2)).trans hw158_2), ((HB.out.cell (World.block_lt_of_cell? w _ hw161_0)).trans hw161_0), ((HB.out.cell (World.block_lt_of_cell? w _ hw161_1)).trans hw161_1), ((HB.out.cell (World.block_lt_of_cell? w _ hw161_2)).trans hw161_2)⟩ (fun hHeld => ?_)
        clear hK K
        refine nm_ (some 31) ?_
        refine pa_ 15 (some 16) (bl_ 23 65535) HT_ ?_
        refine pa_ 16 (some 32) (bl_ 23 131071) HT_ ?_
        refine pa_ 17 (some 33) (bl_ 23 262143) HT_ ?_
        refine pa_ 18 (some 34) (bl_ 23 524287) HT_ ?_
        refine oa_ 19 (some 7) (bl_ 23 1048575) HT_ fun K hK => ?_
        refine bs2_ #[.int .u64 0, .int .u64 0] 92 ?_
        intro gb166 hg w31 BK166 hb
        have GW166 := bz_ w hg
        have GE166 := GW166
        replace HB := bs_ w hb
        clear hb hg
        refine hK.out _ _ ⟨((HB.out.cell (World.block_lt_of_cell? w _ hw158_0)).trans hw158_0), ((HB.out.cell (World.block_lt_of_cell? w _ hw158_1)).trans hw158_1), ((HB.out.cell (World.block_lt_of_cell? w _ hw158_2)).trans hw158_2), ((HB.out.cell (World.block_lt_of_cell? w _ hw161_0)).trans hw161_0), ((HB.out.cell (World.block_lt_of_cell? w _ hw161_1)).trans hw161_1), ((HB.out.cell (World.block_lt_of_cell? w _ hw161_2)).trans hw161_2)⟩ (fun hHeld => ?_)
        clear hK K
        refine nm_ (some 7) ?_
        exact no_ (hCont (gb166) _ ⟨hHeld, (bq_ BK166), GW166.out, GE166.out, bh_⟩)
       ·refine bs2_ #[.int .u64 0, .int .u64 0] 92 ?_
        intro gb166 hg w30 BK166 hb
        have GW166 := bz_ w hg
        have GE166 := GW166
        replace HB := bs_ w hb
        clear hb hg
        refine hK.out _ _ ⟨((HB.out.cell (World.block_lt_of_cell? w _ hw158_0)).trans hw158_0), ((HB.out.cell (World.block_lt_of_cell? w _ hw158_1)).trans hw158_1), ((HB.out.cell (World.block_lt_of_cell? w _ hw158_2)).trans hw158_2), ((HB.out.cell (World.block_lt_of_cell? w _ hw161_0)).trans hw161_0), ((HB.out.cell (World.block_lt_of_cell? w _ hw161_1)).trans hw161_1), ((HB.out.cell (World.block_lt_of_cell? w _ hw161_2)).trans hw161_2)⟩ (fun hHeld => ?_)
        clear hK K
        refine nm_ (some 7) ?_
        refine oa_ 14 (some 31) (bl_ 23 557055) HT_ fun K hK => ?_
        refine goesB_ Try.func52 #[.agg #[.int .u64 t159, .int .u64 t160], .int .u64 (IntKind.u64.wrap ((rd_T49 l0 x6_1).f2))] ?_
        with_reducible refine (spigotref01_Div.calls k1 t159 t160 (IntKind.u64.wrap ((rd_T49 l0 x6_1).f2)) t162 t163 t164 t165 _ A6.out).mono ?_
        rintro e w31 ⟨rfl, hb⟩
        refine ⟨_, rfl, ?_⟩
        replace BK166 := bb_ BK166 hb
        replace HB := bs_ w hb
        clear hb
        refine hK.out _ _ ⟨((HB.out.cell (World.block_lt_of_cell? w _ hw158_0)).trans hw158_0), ((HB.out.cell (World.block_lt_of_cell? w _ hw158_1)).trans hw158_1), ((HB.out.cell (World.block_lt_of_cell? w _ hw158_2)).trans hw158_2), ((HB.out.cell (World.block_lt_of_cell? w _ hw161_0)).trans hw161_0), ((HB.out.cell (World.block_lt_of_cell? w _ hw161_1)).trans hw161_1), ((HB.out.cell (World.block_lt_of_cell? w _ hw161_2)).trans hw161_2)⟩ (fun hHeld => ?_)
        clear hK K
        refine nm_ (some 31) ?_
        refine pa_ 15 (some 16) (bl_ 23 589823) HT_ ?_
        refine pa_ 16 (some 32) (bl_ 23 655359) HT_ ?_
        refine pa_ 17 (some 33) (bl_ 23 786431) HT_ ?_
        refine pa_ 18 (some 34) (bl_ 23 1048575) HT_ ?_
        exact no_ (hCont (gb166) _ ⟨hHeld, (bq_ BK166), GW166.out, GE166.out, bh_⟩)
      ·refine bs2_ #[.int .u64 0, .int .u64 0] 92 ?_
       intro gb166 hg w29 BK166 hb
       have GW166 := bz_ w hg
       have GE166 := GW166
       replace HB := bs_ w hb
       clear hb hg
       refine hK.out _ _ ⟨((HB.out.cell (World.block_lt_of_cell? w _ hw158_0)).trans hw158_0), ((HB.out.cell (World.block_lt_of_cell? w _ hw158_1)).trans hw158_1), ((HB.out.cell (World.block_lt_of_cell? w _ hw158_2)).trans hw158_2), ((HB.out.cell (World.block_lt_of_cell? w _ hw161_0)).trans hw161_0), ((HB.out.cell (World.block_lt_of_cell? w _ hw161_1)).trans hw161_1), ((HB.out.cell (World.block_lt_of_cell? w _ hw161_2)).trans hw161_2)⟩ (fun hHeld => ?_)
       clear hK K
       refine nm_ (some 7) ?_
       refine oa_ 7 (some 24) (bl_ 23 540671) HT_ fun K hK => ?_
       refine goesB_ Try.func53 #[.int .u64 a1, .int .u64 (IntKind.u64.wrap ((rd_T49 l0 x6_1).f1))] ?_
       with_reducible refine (spigotref01_Mul.calls a1 (IntKind.u64.wrap ((rd_T49 l0 x6_1).f1)) t159 t160 _ A5.out).mono ?_
       rintro e w30 ⟨rfl, hb⟩
       refine ⟨_, rfl, ?_⟩
       replace BK166 := bb_ BK166 hb
       replace HB := bs_ w hb
       clear hb
       refine hK.out _ _ ⟨((HB.out.cell (World.block_lt_of_cell? w _ hw158_0)).trans hw158_0), ((HB.out.cell (World.block_lt_of_cell? w _ hw158_1)).trans hw158_1), ((HB.out.cell (World.block_lt_of_cell? w _ hw158_2)).trans hw158_2), ((HB.out.cell (World.block_lt_of_cell? w _ hw161_0)).trans hw161_0), ((HB.out.cell (World.block_lt_of_cell? w _ hw161_1)).trans hw161_1), ((HB.out.cell (World.block_lt_of_cell? w _ hw161_2)).trans hw161_2)⟩ (fun hHeld => ?_)
       clear hK K
       refine nm_ (some 24) ?_
       refine oa_ 14 (some 31) (bl_ 23 557055) HT_ fun K hK => ?_
       refine goesB_ Try.func52 #[.agg #[.int .u64 t159, .int .u64 t160], .int .u64 (IntKind.u64.wrap ((rd_T49 l0 x6_1).f2))] ?_
       with_reducible refine (spigotref01_Div.calls k1 t159 t160 (IntKind.u64.wrap ((rd_T49 l0 x6_1).f2)) t162 t163 t164 t165 _ A6.out).mono ?_
       rintro e w31 ⟨rfl, hb⟩
       refine ⟨_, rfl, ?_⟩
       replace BK166 := bb_ BK166 hb
       replace HB := bs_ w hb
       clear hb
       refine hK.out _ _ ⟨((HB.out.cell (World.block_lt_of_cell? w _ hw158_0)).trans hw158_0), ((HB.out.cell (World.block_lt_of_cell? w _ hw158_1)).trans hw158_1), ((HB.out.cell (World.block_lt_of_cell? w _ hw158_2)).trans hw158_2), ((HB.out.cell (World.block_lt_of_cell? w _ hw161_0)).trans hw161_0), ((HB.out.cell (World.block_lt_of_cell? w _ hw161_1)).trans hw161_1), ((HB.out.cell (World.block_lt_of_cell? w _ hw161_2)).trans hw161_2)⟩ (fun hHeld => ?_)
       clear hK K
       refine nm_ (some 31) ?_
       refine pa_ 15 (some 16) (bl_ 23 589823) HT_ ?_
       refine pa_ 16 (some 32) (bl_ 23 655359) HT_ ?_
       refine pa_ 17 (some 33) (bl_ 23 786431) HT_ ?_
       refine pa_ 18 (some 34) (bl_ 23 1048575) HT_ ?_
       exact no_ (hCont (gb166) _ ⟨hHeld, (bq_ BK166), GW166.out, GE166.out, bh_⟩)
     rintro gb166 w32 ⟨hS_, h0_, h1_, h2_, h3_⟩
     have BK166 := Aside0.mk h0_
     have GW166 := Aside0.mk h1_
     have GE166 := Aside0.mk h2_
     replace HB := Aside0.mk h3_
     clear h0_ h1_ h2_ h3_
     have hHeld := hS_
     refine nq_ ?_
     refine oa_ 20 none (bl_ 23 2097151) HT_ fun K hK => ?_
     have hs33 : w32.cell? ⟨gb166, 0, none⟩ = some (.int .u64 0) := (blk_cell BK166.out 0).trans rfl
     have hfs33 := blk_frozen BK166.out 0
     have hs34 : w32.cell? ⟨gb166, 1, none⟩ = some (.int .u64 0) := (blk_cell BK166.out 1).trans rfl
     have hfs34 := blk_frozen BK166.out 1
     refine sk_ ?_
     refine hK.out _ _ ⟨(fcr2_ (by first | exact Nat.ne_of_lt (Nat.lt_of_lt_of_le (by have := World.block_lt_of_cell? _ _ hw158_0; first | rwa [add_block] at this | exact this) GW166.out) | (rw [add_block]; exact Nat.ne_of_lt (Nat.lt_of_lt_of_le (by have := World.block_lt_of_cell? _ _ hw158_0; first | rwa [add_block] at this | exact this) GW166.out)) | (show (Addr.add _ _).block ≠ _; rw [add_block]; exact Nat.ne_of_lt (Nat.lt_of_lt_of_le (by have := World.block_lt_of_cell? _ _ hw158_0; first | rwa [add_block] at this | exact this) GW166.out)) | (dsimp only; exact Nat.ne_of_lt (Nat.lt_of_lt_of_le (by have := World.block_lt_of_cell? _ _ hw158_0; first | rwa [add_block] at this | exact this) GW166.out))) hHeld.1), (fcr2_ (by first | exact Nat.ne_of_lt (Nat.lt_of_lt_of_le (by have := World.block_lt_of_cell? _ _ hw158_1; first | rwa [add_block] at this | exact this) GW166.out) | (rw [add_block]; exact Nat.ne_of_lt (Nat.lt_of_lt_of_le (by have := World.block_lt_of_cell? _ _ hw158_1; first | rwa [add_block] at this | exact this) GW166.out)) | (show (Addr.add _ _).block ≠ _; rw [add_block]; exact Nat.ne_of_lt (Nat.lt_of_lt_of_le (by have := World.block_lt_of_cell? _ _ hw158_1; first | rwa [add_block] at this | exact this) GW166.out)) | (dsimp only; exact Nat.ne_of_lt (Nat.lt_of_lt_of_le (by have := World.block_lt_of_cell? _ _ hw158_1; first | rwa [add_block] at this | exact this) GW166.out))) hHeld.2.1), (fcr2_ (by first | exact Nat.ne_of_lt (Nat.lt_of_lt_of_le (by have := World.block_lt_of_cell? _ _ hw158_2; first | rwa [add_block] at this | exact this) GW166.out) | (rw [add_block]; exact Nat.ne_of_lt (Nat.lt_of_lt_of_le (by have := World.block_lt_of_cell? _ _ hw158_2; first | rwa [add_block] at this | exact this) GW166.out)) | (show (Addr.add _ _).block ≠ _; rw [add_block]; exact Nat.ne_of_lt (Nat.lt_of_lt_of_le (by have := World.block_lt_of_cell? _ _ hw158_2; first | rwa [add_block] at this | exact this) GW166.out)) | (dsimp only; exact Nat.ne_of_lt (Nat.lt_of_lt_of_le (by have := World.block_lt_of_cell? _ _ hw158_2; first | rwa [add_block] at this | exact this) GW166.out))) hHeld.2.2.1), (fcr2_ (by first | exact Nat.ne_of_lt (Nat.lt_of_lt_of_le (by have := World.block_lt_of_cell? _ _ hw161_0; first | rwa [add_block] at this | exact this) GW166.out) | (rw [add_block]; exact Nat.ne_of_lt (Nat.lt_of_lt_of_le (by have := World.block_lt_of_cell? _ _ hw161_0; first | rwa [add_block] at this | exact this) GW166.out)) | (show (Addr.add _ _).block ≠ _; rw [add_block]; exact Nat.ne_of_lt (Nat.lt_of_lt_of_le (by have := World.block_lt_of_cell? _ _ hw161_0; first | rwa [add_block] at this | exact this) GW166.out)) | (dsimp only; exact Nat.ne_of_lt (Nat.lt_of_lt_of_le (by have := World.block_lt_of_cell? _ _ hw161_0; first | rwa [add_block] at this | exact this) GW166.out))) hHeld.2.2.2.1), (fcr2_ (by first | exact Nat.ne_of_lt (Nat.lt_of_lt_of_le (by have := World.block_lt_of_cell? _ _ hw161_1; first | rwa [add_block] at this | exact this) GW166.out) | (rw [add_block]; exact Nat.ne_of_lt (Nat.lt_of_lt_of_le (by have := World.block_lt_of_cell? _ _ hw161_1; first | rwa [add_block] at this | exact this) GW166.out)) | (show (Addr.add _ _).block ≠ _; rw [add_block]; exact Nat.ne_of_lt (Nat.lt_of_lt_of_le (by have := World.block_lt_of_cell? _ _ hw161_1; first | rwa [add_block] at this | exact this) GW166.out)) | (dsimp only; exact Nat.ne_of_lt (Nat.lt_of_lt_of_le (by have := World.block_lt_of_cell? _ _ hw161_1; first | rwa [add_block] at this | exact this) GW166.out))) hHeld.2.2.2.2.1), (fcr2_ (by first | exact Nat.ne_of_lt (Nat.lt_of_lt_of_le (by have := World.block_lt_of_cell? _ _ hw161_2; first | rwa [add_block] at this | exact this) GW166.out) | (rw [add_block]; exact Nat.ne_of_lt (Nat.lt_of_lt_of_le (by have := World.block_lt_of_cell? _ _ hw161_2; first | rwa [add_block] at this | exact this) GW166.out)) | (show (Addr.add _ _).block ≠ _; rw [add_block]; exact Nat.ne_of_lt (Nat.lt_of_lt_of_le (by have := World.block_lt_of_cell? _ _ hw161_2; first | rwa [add_block] at this | exact this) GW166.out)) | (dsimp only; exact Nat.ne_of_lt (Nat.lt_of_lt_of_le (by have := World.block_lt_of_cell? _ _ hw161_2; first | rwa [add_block] at this | exact this) GW166.out))) hHeld.2.2.2.2.2)⟩ (fun hHeld => ?_)
     clear hK K
     refine pa_ 21 (some 8) (bl_ 23 4194303) HT_ ?_
     refine pa_ 22 (some 9) (bl_ 23 8388607) HT_ ?_
     refine done_ (done_of HT_.out (by kernel_rfl)) ?_
     replace hc166 := ce2_ BK166
     try go_wp2
     go_roundg k1
     case measure => have := HK1.out; omega
     case rel => exact ⟨(x5_1), (wrap64 (x6_1 + 1)), rf_, rf_, H', ⟨by have := HK1.out; omega⟩, bw_⟩
   ·rw [if_neg c3] at H
    have c3b0 : decide (x6_1 < (l0.length : Int)) = false := decide_eq_false c3
    clear c3
    obtain rfl := Option.some.inj H
    go_wp2
    go_ret
    exact fi_

end Go.Proofs.Ytimhghmfhfggoaa.X
