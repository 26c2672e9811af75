-- written by xprint.py, a program of this session over the kit's print
import Derived.Test.YtimhghmfhfggoaaX0
import Derived.Test.YtimhghmfhfggoaaX7
import Derived.Test.YtimhghmfhfggoaaX8
namespace Go.Proofs.Ytimhghmfhfggoaa.X
open Go.RowKit Go.Proofs.YtimhghmfhfggoaaW.PrintWords Go.Proofs.YtimhghmfhfggoaaW.PrintLast Go.Proofs.YtimhghmfhfggoaaW.PrintMore
attribute [local go_sem] max2_int min2_int max_two min_two max_three min_three max_four min_four   -- for this text's walks alone
set_option linter.unusedVariables false
set_option linter.unusedSimpArgs false

def curve_value.l0 : Nat → Int → Int → List (S49) → Int → Int → Option (Int)
  | 0, _, _, _, _, _ => none
  | k + 1, x1, x5, x11, x12, x13 => if x13 < x12 then (if 0 ≤ x13 then (if x13 < (x11.length : Int) then ((wide_Mul.f x1 (IntKind.u64.wrap ((rd_T49 x11 x13).f1))).bind fun bt130 => ((wide_Div.f k bt130.1 bt130.2 (IntKind.u64.wrap ((rd_T49 x11 x13).f2))).bind fun bt132 => (if bt132.2.2.2 = 0 then ((wide_Of.f 1000000000000).bind fun bt137 => ((wide_Cmp.f k bt132.1 bt132.2.1 bt137.1 bt137.2).bind fun t139 => (if t139 < 0 then (curve_value.l0 k x1 (mn x5 (wrap64 (((rd_T49 x11 x13).f0) + (wrap64 (bt132.2.1))))) x11 x12 (wrap64 (x13 + 1))) else (curve_value.l0 k x1 x5 x11 x12 (wrap64 (x13 + 1)))))) else (some 0)))) else (none)) else (none)) else (some x5)
def curve_value.f (k : Nat) (l0 : List (S49)) (a1 : Int) : Option (Int) := curve_value.l0 k a1 1000000000000 l0 (l0.length : Int) 0
def curve_value.T5 : Bool × List (List Nat × List Nat) := (true, [([], []), ([], []), ([1], [1]), ([2], [2]), ([0, 3], [0, 3]), ([], []), ([5], [5]), ([6], [6]), ([4, 7, 4], [4, 7]), ([8], [8]), ([9], [9]), ([9], [9]), ([9], [9]), ([], []), ([13, 10, 8, 0, 1, 2, 3, 4, 5, 6, 7, 8, 9, 10, 13], [10, 13]), ([11, 14, 0, 1, 2, 3, 4, 5, 6, 7, 8, 9, 10, 11, 13, 14], [11]), ([12, 15, 0, 1, 2, 3, 4, 5, 6, 7, 8, 9, 10, 11, 12, 13, 14, 15], [12])])
def curve_value.B5 : List Nat := [0, 0, 2, 6, 15, 0, 32, 96, 255, 511, 1023, 1023, 1023, 0, 10239, 28671, 65535]
theorem curve_value.tab5 : rtab .any (opsOf Try.f28 5) = curve_value.T5 := by kernel_rfl
theorem curve_value.bits5 : waitsOk curve_value.T5.2 curve_value.B5 = true := by kernel_rfl
set_option maxHeartbeats 8000000 in
set_option maxRecDepth 100000 in
theorem curve_value.calls (k : Nat) (A0 : Option Addr) (c0 : Nat) (l0 : List (S49)) (a1 : Int) (r : Int) (w : World) (hr0 : Kd.C k49 w A0 l0.length l0) (hc0 : l0.length ≤ c0) (h : curve_value.f k l0 a1 = some r) :
  Calls Try.prog 28 #[.slice A0 l0.length c0, .int .u64 a1] w fun e w' => e = .returned (.int .i64 r) ∧ Below w.heap.size w w' := by
 have hu49 := Try.underlying49
 have hu92 := Try.underlying92
 have HR0 := Aside0.mk hr0
 have HC0 := Aside0.mk hc0
 clear hr0 hc0
 have HB := Aside0.mk (Below.refl w.heap.size w)
 have H : (curve_value.l0 k a1 1000000000000 l0 (l0.length : Int) 0) = some r := h
 clear h
 have H' := Aside0.mk H
 clear H
 go_enter Try.func28, Try.ntmps28
 go_wp2
 go_loopg [5, 13] k (fun kq v5 v13 w' => ∃ (x5_1 : Int) (x13_1 : Int), v5 = .int .i64 x5_1 ∧ v13 = .int .i64 x13_1 ∧ Aside0 (curve_value.l0 kq a1 x5_1 l0 (l0.length : Int) x13_1 = some r) ∧ Aside0 (kq ≤ k) ∧ Aside0 (Below w.heap.size w w'))
 case atStart => exact ⟨(1000000000000), (0), rf_, rf_, H', ⟨Nat.le_refl _⟩, bw_⟩
 case round =>
  clear H'
  obtain ⟨x5_1, x13_1, rfl, rfl, HA, HK1, HB⟩ := hrel
  cases gk with
  | zero => exact absurd HA.out (by simp [curve_value.l0])
  | succ k1 =>
   have H := HA.out
   clear HA
   simp only [curve_value.l0] at H
   by_cases c3 : x13_1 < (l0.length : Int)
   ·rw [if_pos c3] at H
    have c3b0 : decide (x13_1 < (l0.length : Int)) = true := decide_eq_true c3
    clear c3
    by_cases c4 : 0 ≤ x13_1
    rotate_left
    ·rw [if_neg c4] at H; exact absurd H (by simp)
    rw [if_pos c4] at H
    have c4b0 : decide (0 ≤ x13_1) = true := decide_eq_true c4
    clear c4
    by_cases c5 : x13_1 < (l0.length : Int)
    rotate_left
    ·rw [if_neg c5] at H; exact absurd H (by simp)
    rw [if_pos c5] at H
    have c5b0 : decide (x13_1 < (l0.length : Int)) = true := decide_eq_true c5
    clear c5
    have H0_ := bo_ H; clear H; obtain ⟨⟨t130, t131⟩, A6, H⟩ := H0_
    try dsimp only at H
    have H0_ := bo_ H; clear H; obtain ⟨⟨t132, t133, t134, t135⟩, A7, H⟩ := H0_
    try dsimp only at H
    by_cases c8 : t135 = 0
    ·rw [if_pos c8] at H
     have c8b0 : (t135 == 0) = true := beq_iff_eq.mpr c8
     have c8b1 : (t135 != 0) = false := bne_eq_false_iff_eq.mpr c8
     clear c8
     have H0_ := bo_ H; clear H; obtain ⟨⟨t137, t138⟩, A9, H⟩ := H0_
     try dsimp only at H
     have H0_ := bo_ H; clear H; obtain ⟨t139, A10, H⟩ := H0_
     try dsimp only at H
     by_cases c11 : t139 < 0
     ·rw [if_pos c11] at H
      have c11b0 : decide (t139 < 0) = true := decide_eq_true c11
      clear c11
      obtain ⟨ji12, hji12⟩ : ∃ j_ : Int, (mn x5_1 (wrap64 (((rd_T49 l0 x13_1).f0) + (wrap64 (t133))))) = j_ := ⟨_, rfl⟩
      replace H : (curve_value.l0 k1 a1 ji12 l0 (l0.length : Int) (wrap64 (x13_1 + 1))) = some r := by first | (rw [hji12] at H; exact H) | (simp only [hji12] at H ⊢; exact H)
      (try rw [hji12] at A6)
      (try rw [hji12] at A7)
      (try rw [hji12] at A9)
      (try rw [hji12] at A10)
      have hji12_ : (if (wrap64 (((rd_T49 l0 x13_1).f0) + (wrap64 (t133)))) < x5_1 then (wrap64 (((rd_T49 l0 x13_1).f0) + (wrap64 (t133)))) else x5_1) = ji12 := hji12
      have H' := Aside0.mk H
      clear H
      have p128 : 0 ≤ (x13_1 : Int) := of_decide_eq_true (by first | (with_reducible assumption) | assumption)
      have q128 : x13_1 < (l0.length : Int) := of_decide_eq_true (by first | (with_reducible assumption) | assumption)
      obtain ⟨ad128, e128, hx128_0, hx128_1, hx128_2⟩ := at_T49 HR0.out x13_1 p128 q128
      cases e128
      replace hx128_0 := (HB.out.cell (World.block_lt_of_cell? w _ hx128_0)).trans hx128_0
      replace hx128_1 := (HB.out.cell (World.block_lt_of_cell? w _ hx128_1)).trans hx128_1
      replace hx128_2 := (HB.out.cell (World.block_lt_of_cell? w _ hx128_2)).trans hx128_2
      replace p128 := eq_true p128
      replace q128 := eq_true q128
      try go_wp2_with (first | ((with_reducible refine gate_dst (N := 7) rfl ?_); refine bx_ #[.int .i64 0, .int .i64 0, .int .i64 0] 49 ?_; intro gb129 hg w13 BK129 hb; have GW129 := bz_ w hg; have GE129 := GW129; replace HB := bs_ w hb; clear hb hg; replace hc129 := ce3_ BK129))
      have n0_ : Aside0 ((((w13.setCell ⟨gb129, 0, none⟩ (.int .i64 ((rd_T49 l0 x13_1).f0))).setCell ⟨gb129, 1, none⟩ (.int .i64 ((rd_T49 l0 x13_1).f1))).setCell ⟨gb129, 2, none⟩ (.int .i64 ((rd_T49 l0 x13_1).f2))).heap[gb129]? = some (.cells #[.int .i64 ((rd_T49 l0 x13_1).f0), .int .i64 ((rd_T49 l0 x13_1).f1), .int .i64 ((rd_T49 l0 x13_1).f2)] 49 (0, 0))) := ⟨(bp3_ (bq_ BK129))⟩
      have n1_ : Aside0 (Below w.heap.size w (((w13.setCell ⟨gb129, 0, none⟩ (.int .i64 ((rd_T49 l0 x13_1).f0))).setCell ⟨gb129, 1, none⟩ (.int .i64 ((rd_T49 l0 x13_1).f1))).setCell ⟨gb129, 2, none⟩ (.int .i64 ((rd_T49 l0 x13_1).f2)))) := bw_
      (try clear BK129)
      (try clear HB)
      generalize (((w13.setCell ⟨gb129, 0, none⟩ (.int .i64 ((rd_T49 l0 x13_1).f0))).setCell ⟨gb129, 1, none⟩ (.int .i64 ((rd_T49 l0 x13_1).f1))).setCell ⟨gb129, 2, none⟩ (.int .i64 ((rd_T49 l0 x13_1).f2))) = w15 at n0_ n1_ ⊢
      have BK129 := n0_
      have HB := n1_
      clear n0_ n1_
      replace BK129 := Aside0.mk (blk_drew BK129.out)
      replace HB := Aside0.mk (below_drew1 HB.out)
      refine start_ (n := 17) (S := fun w' => w'.cell? ⟨gb129, 0, none⟩ = some (.int .i64 ((rd_T49 l0 x13_1).f0)) ∧ w'.cell? ⟨gb129, 1, none⟩ = some (.int .i64 ((rd_T49 l0 x13_1).f1)) ∧ w'.cell? ⟨gb129, 2, none⟩ = some (.int .i64 ((rd_T49 l0 x13_1).f2))) (ds := []) (bl_ 17 0) (by kernel_rfl) rfl (by kernel_rfl) (cc3_ BK129) (fun hHeld => ?_); refine with_tabW curve_value.tab5 curve_value.bits5 (fun HT_ HW_ => ?_)
      generalize w15.drew = w16 at BK129 HB hHeld ⊢
      refine pa_ 0 (some 18) (bl_ 17 1) HT_ ?_
      refine pa_ 1 (some 19) (bl_ 17 3) HT_ ?_
      refine pa_ 5 (some 23) (bl_ 17 35) HT_ ?_
      refine ta_ 2 (some 20) (bl_ 17 39) HT_ HW_ hHeld ?_
      refine pa_ 3 (some 21) (bl_ 17 47) HT_ ?_
      refine ta_ 6 (some 24) (bl_ 17 111) HT_ HW_ hHeld ?_
      refine pa_ 7 (some 25) (bl_ 17 239) HT_ ?_
      refine join_ (σ := Nat) 3 (bl_ 17 16383) (fun s_ => [(22, .agg #[.int .u64 t130, .int .u64 t131]), (26, .tuple #[.agg #[.int .u64 t132, .int .u64 t133], .int .u64 t134, .int .i64 t135]), (8, .pointer (some ⟨s_, 0, none⟩)), (17, .tuple #[.agg #[.int .u64 t132, .int .u64 t133], .int .u64 t134, .int .i64 t135]), (27, .agg #[.int .u64 t132, .int .u64 t133]), (28, .int .u64 t134), (29, .int .i64 t135)]) (fun s_ w' => (w'.cell? ⟨gb129, 0, none⟩ = some (.int .i64 ((rd_T49 l0 x13_1).f0)) ∧ w'.cell? ⟨gb129, 1, none⟩ = some (.int .i64 ((rd_T49 l0 x13_1).f1)) ∧ w'.cell? ⟨gb129, 2, none⟩ = some (.int .i64 ((rd_T49 l0 x13_1).f2))) ∧ (w'.heap[gb129]? = some (.cells #[.int .i64 ((rd_T49 l0 x13_1).f0), .int .i64 ((rd_T49 l0 x13_1).f1), .int .i64 ((rd_T49 l0 x13_1).f2)] 49 (0, 0))) ∧ (w'.heap[s_]? = some (.cells #[.int .u64 0, .int .u64 0] 92 (0, 0))) ∧ (w.heap.size ≤ s_) ∧ (w.heap.size ≤ s_) ∧ (gb129 ≠ s_) ∧ (s_ ≠ gb129) ∧ (Below w.heap.size w w')) ?_ ?_
      rotate_left
      ·intro hCont
       refine tw_ 4 13 (some 22) (some 8) (bl_ 17 255) (bl_ 17 8431) HT_ (fun K hK => ?_) fun K hK => ?_
       ·refine goesB_ Try.func49 #[.int .u64 a1, .int .u64 (IntKind.u64.wrap ((rd_T49 l0 x13_1).f1))] ?_
        with_reducible refine (wide_Mul.calls a1 (IntKind.u64.wrap ((rd_T49 l0 x13_1).f1)) t130 t131 _ A6.out).mono ?_
        rintro e w17 ⟨rfl, hb⟩
        refine ⟨_, rfl, ?_⟩
        replace BK129 := bb_ BK129 hb
        replace HB := bs_ w hb
        clear hb
        refine hK.out _ _ (cc3_ BK129) (fun hHeld => ?_)
        clear hK K
        refine nm_ (some 22) ?_
        refine tw_ 8 13 (some 26) (some 8) (bl_ 17 511) (bl_ 17 8447) HT_ (fun K hK => ?_) fun K hK => ?_
        ·refine goesB_ Try.func48 #[.agg #[.int .u64 t130, .int .u64 t131], .int .u64 (IntKind.u64.wrap ((rd_T49 l0 x13_1).f2))] ?_
         with_reducible refine (wide_Div.calls k1 t130 t131 (IntKind.u64.wrap ((rd_T49 l0 x13_1).f2)) t132 t133 t134 t135 _ A7.out).mono ?_
         rintro e w18 ⟨rfl, hb⟩
         refine ⟨_, rfl, ?_⟩
         replace BK129 := bb_ BK129 hb
         replace HB := bs_ w hb
         clear hb
         refine hK.out _ _ (cc3_ BK129) (fun hHeld => ?_)
         clear hK K
         refine nm_ (some 26) ?_
         refine pa_ 9 (some 17) (bl_ 17 1023) HT_ ?_
         refine pa_ 10 (some 27) (bl_ 17 2047) HT_ ?_
         refine pa_ 11 (some 28) (bl_ 17 4095) HT_ ?_
         refine pa_ 12 (some 29) (bl_ 17 8191) HT_ ?_
         refine oa_ 13 (some 8) (bl_ 17 16383) HT_ fun K hK => ?_
         refine bs2_ #[.int .u64 0, .int .u64 0] 92 ?_
         intro gb136 hg w19 BK136 hb
         have GW136 := bz_ w hg
         have GE136 := GW136
         have NB129_136 := bn_ BK129 hg
         have NB136_129 := bm_ BK129 hg
         replace BK129 := bb_ BK129 hb
         replace HB := bs_ w hb
         clear hb hg
         refine hK.out _ _ (cc3_ BK129) (fun hHeld => ?_)
         clear hK K
         refine nm_ (some 8) ?_
         exact no_ (hCont (gb136) _ ⟨hHeld, (bq_ BK129), (bq_ BK136), GW136.out, GE136.out, NB129_136.out, NB136_129.out, bh_⟩)
        ·refine bs2_ #[.int .u64 0, .int .u64 0] 92 ?_
         intro gb136 hg w18 BK136 hb
         have GW136 := bz_ w hg
         have GE136 := GW136
         have NB129_136 := bn_ BK129 hg
         have NB136_129 := bm_ BK129 hg
         replace BK129 := bb_ BK129 hb
         replace HB := bs_ w hb
         clear hb hg
         refine hK.out _ _ (cc3_ BK129) (fun hHeld => ?_)
         clear hK K
         refine nm_ (some 8) ?_
         refine oa_ 8 (some 26) (bl_ 17 8703) HT_ fun K hK => ?_
         refine goesB_ Try.func48 #[.agg #[.int .u64 t130, .int .u64 t131], .int .u64 (IntKind.u64.wrap ((rd_T49 l0 x13_1).f2))] ?_
         with_reducible refine (wide_Div.calls k1 t130 t131 (IntKind.u64.wrap ((rd_T49 l0 x13_1).f2)) t132 t133 t134 t135 _ A7.out).mono ?_
         rintro e w19 ⟨rfl, hb⟩
         refine ⟨_, rfl, ?_⟩
         replace BK129 := bb_ BK129 hb
         replace BK136 := bb_ BK136 hb
         replace HB := bs_ w hb
         clear hb
         refine hK.out _ _ (cc3_ BK129) (fun hHeld => ?_)
         clear hK K
         refine nm_ (some 26) ?_
         refine pa_ 9 (some 17) (bl_ 17 9215) HT_ ?_
         refine pa_ 10 (some 27) (bl_ 17 10239) HT_ ?_
         refine pa_ 11 (some 28) (bl_ 17 12287) HT_ ?_
         refine pa_ 12 (some 29) (bl_ 17 16383) HT_ ?_
         exact no_ (hCont (gb136) _ ⟨hHeld, (bq_ BK129), (bq_ BK136), GW136.out, GE136.out, NB129_136.out, NB136_129.out, bh_⟩)
       ·refine bs2_ #[.int .u64 0, .int .u64 0] 92 ?_
        intro gb136 hg w17 BK136 hb
        have GW136 := bz_ w hg
        have GE136 := GW136
        have NB129_136 := bn_ BK129 hg
        have NB136_129 := bm_ BK129 hg
        replace BK129 := bb_ BK129 hb
        replace HB := bs_ w hb
        clear hb hg
        refine hK.out _ _ (cc3_ BK129) (fun hHeld => ?_)
        clear hK K
        refine nm_ (some 8) ?_
        refine oa_ 4 (some 22) (bl_ 17 8447) HT_ fun K hK => ?_
        refine goesB_ Try.func49 #[.int .u64 a1, .int .u64 (IntKind.u64.wrap ((rd_T49 l0 x13_1).f1))] ?_
        with_reducible refine (wide_Mul.calls a1 (IntKind.u64.wrap ((rd_T49 l0 x13_1).f1)) t130 t131 _ A6.out).mono ?_
        rintro e w18 ⟨rfl, hb⟩
        refine ⟨_, rfl, ?_⟩
        replace BK129 := bb_ BK129 hb
        replace BK136 := bb_ BK136 hb
        replace HB := bs_ w hb
        clear hb
        refine hK.out _ _ (cc3_ BK129) (fun hHeld => ?_)
        clear hK K
        refine nm_ (some 22) ?_
        refine oa_ 8 (some 26) (bl_ 17 8703) HT_ fun K hK => ?_
        refine goesB_ Try.func48 #[.agg #[.int .u64 t130, .int .u64 t131], .int .u64 (IntKind.u64.wrap ((rd_T49 l0 x13_1).f2))] ?_
        with_reducible refine (wide_Div.calls k1 t130 t131 (IntKind.u64.wrap ((rd_T49 l0 x13_1).f2)) t132 t133 t134 t135 _ A7.out).mono ?_
        rintro e w19 ⟨rfl, hb⟩
        refine ⟨_, rfl, ?_⟩
        replace BK129 := bb_ BK129 hb
        replace BK136 := bb_ BK136 hb
        replace HB := bs_ w hb
        clear hb
        refine hK.out _ _ (cc3_ BK129) (fun hHeld => ?_)
        clear hK K
        refine nm_ (some 26) ?_
        refine pa_ 9 (some 17) (bl_ 17 9215) HT_ ?_
        refine pa_ 10 (some 27) (bl_ 17 10239) HT_ ?_
        refine pa_ 11 (some 28) (bl_ 17 12287) HT_ ?_
        refine pa_ 12 (some 29) (bl_ 17 16383) HT_ ?_
        exact no_ (hCont (gb136) _ ⟨hHeld, (bq_ BK129), (bq_ BK136), GW136.out, GE136.out, NB129_136.out, NB136_129.out, bh_⟩)
      rintro gb136 w20 ⟨hS_, h0_, h1_, h2_, h3_, h4_, h5_, h6_⟩
      have BK136 := Aside0.mk h1_
      have GW136 := Aside0.mk h2_
      have GE136 := Aside0.mk h3_
      have NB129_136 := Aside0.mk h4_
      have NB136_129 := Aside0.mk h5_
      replace BK129 := Aside0.mk h0_
      replace HB := Aside0.mk h6_
      clear h0_ h1_ h2_ h3_ h4_ h5_ h6_
      have hHeld := hS_
      refine nq_ ?_
      refine oa_ 14 none (bl_ 17 32767) HT_ fun K hK => ?_
      have hs21 : w20.cell? ⟨gb136, 0, none⟩ = some (.int .u64 0) := (blk_cell BK136.out 0).trans rfl
      have hfs21 := blk_frozen BK136.out 0
      have hns21_0 := NB129_136.out
      have hms21_0 := NB136_129.out
      have hs22 : w20.cell? ⟨gb136, 1, none⟩ = some (.int .u64 0) := (blk_cell BK136.out 1).trans rfl
      have hfs22 := blk_frozen BK136.out 1
      have hns22_0 := NB129_136.out
      have hms22_0 := NB136_129.out
      refine sk_ ?_
      refine hK.out _ _ (cf3_ hHeld) (fun hHeld => ?_)
      clear hK K
      refine pa_ 15 (some 9) (bl_ 17 65535) HT_ ?_
      refine pa_ 16 (some 10) (bl_ 17 131071) HT_ ?_
      refine done_ (done_of HT_.out (by kernel_rfl)) ?_
      try go_wp2
      have n0_ : Aside0 (((w20.setCell ⟨gb136, 0, none⟩ (.int .u64 t132)).setCell ⟨gb136, 1, none⟩ (.int .u64 t133)).heap[gb129]? = some (.cells #[.int .i64 ((rd_T49 l0 x13_1).f0), .int .i64 ((rd_T49 l0 x13_1).f1), .int .i64 ((rd_T49 l0 x13_1).f2)] 49 (0, 0))) := ⟨(bt_ BK129)⟩
      have n1_ : Aside0 (((w20.setCell ⟨gb136, 0, none⟩ (.int .u64 t132)).setCell ⟨gb136, 1, none⟩ (.int .u64 t133)).heap[gb136]? = some (.cells #[.int .u64 t132, .int .u64 t133] 92 (0, 0))) := ⟨(bp2_ (bq_ BK136))⟩
      have n2_ : Aside0 (Below w.heap.size w ((w20.setCell ⟨gb136, 0, none⟩ (.int .u64 t132)).setCell ⟨gb136, 1, none⟩ (.int .u64 t133))) := bw_
      (try clear BK129)
      (try clear BK136)
      (try clear HB)
      generalize ((w20.setCell ⟨gb136, 0, none⟩ (.int .u64 t132)).setCell ⟨gb136, 1, none⟩ (.int .u64 t133)) = w23 at n0_ n1_ n2_ ⊢
      have BK129 := n0_
      have BK136 := n1_
      have HB := n2_
      clear n0_ n1_ n2_
      replace BK129 := Aside0.mk (blk_drew BK129.out)
      replace BK136 := Aside0.mk (blk_drew BK136.out)
      replace HB := Aside0.mk (below_drew1 HB.out)
      refine start_ (n := 4) (S := fun w' => w'.cell? ⟨gb136, 0, none⟩ = some (.int .u64 t132) ∧ w'.cell? ⟨gb136, 1, none⟩ = some (.int .u64 t133)) (ds := []) (bl_ 4 0) (by kernel_rfl) rfl (by kernel_rfl) (cc2_ BK136) (fun hHeld => ?_)
      generalize w23.drew = w24 at BK129 BK136 HB hHeld ⊢
      refine take_ (i := 0) (N := some 32) (v := ?_) (a' := ?_) (bl_ 4 1) rfl rfl (by kernel_rfl) (fun _ _ _ h => h) (Or.inl ⟨by rfl, ?_⟩) hHeld ?_ ?_
      rotate_left
      ·rintro w' ⟨s0, s1⟩
       go_simp
       with_reducible rfl
      rotate_left
      ·simp only [Act.put, List.setIfInBounds_toArray, List.set_cons_zero, List.set_cons_succ, i64_w, i32_w]
       rfl
      refine one_ (i := 1) (N := some 33) (bl_ 4 3) rfl rfl (by kernel_rfl) (by decide) (fun K hK => ?_)
      refine goesB_ Try.func51 #[.int .u64 1000000000000] ?_
      with_reducible refine (wide_Of.calls 1000000000000 t137 t138 _ A9.out).mono ?_
      rintro e w25 ⟨rfl, hb⟩
      refine ⟨_, rfl, ?_⟩
      replace BK129 := bb_ BK129 hb
      replace BK136 := bb_ BK136 hb
      replace HB := bs_ w hb
      clear hb
      refine hK.out _ _ (cc2_ BK136) (fun hHeld => ?_)
      clear hK K
      refine nm_ (some 33) ?_
      refine one_ (i := 2) (N := some 34) (bl_ 4 7) rfl rfl (by kernel_rfl) (by decide) (fun K hK => ?_)
      refine goesB_ Try.func50 #[.agg #[.int .u64 t132, .int .u64 t133], .agg #[.int .u64 t137, .int .u64 t138]] ?_
      with_reducible refine (wide_Cmp.calls k1 t132 t133 t137 t138 t139 _ A10.out).mono ?_
      rintro e w26 ⟨rfl, hb⟩
      refine ⟨_, rfl, ?_⟩
      replace BK129 := bb_ BK129 hb
      replace BK136 := bb_ BK136 hb
      replace HB := bs_ w hb
      clear hb
      refine hK.out _ _ (cc2_ BK136) (fun hHeld => ?_)
      clear hK K
      refine nm_ (some 34) ?_
      refine pure_ (i := 3) (N := some 35) (v := ?_) (a' := ?_) (bl_ 4 15) rfl rfl (by kernel_rfl) (fun _ _ _ h => h) (Or.inl ⟨by rfl, ?_⟩) ?_ ?_
      rotate_left
      ·intro w'
       go_simp
       with_reducible rfl
      rotate_left
      ·simp only [Act.put, List.setIfInBounds_toArray, List.set_cons_zero, List.set_cons_succ, i64_w, i32_w]
       rfl
      refine done_ (by kernel_rfl) ?_
      replace hn129_136 := NB129_136.out
      replace hn136_129 := NB136_129.out
      replace hc129 := ce3_ BK129
      replace hc136 := ce2_ BK136
      try go_wp2
      go_roundg k1
      case measure => have := HK1.out; omega
      case rel => exact ⟨(ji12), (wrap64 (x13_1 + 1)), (by first | rfl | (simp; done) | (simp only [← hji12] <;> (first | rfl | simp)) | (simp [*]; done)), rf_, H', ⟨by have := HK1.out; omega⟩, bw_⟩
     ·rw [if_neg c11] at H
      have c11b0 : decide (t139 < 0) = false := decide_eq_false c11
      clear c11
      have H' := Aside0.mk H
      clear H
      have p128 : 0 ≤ (x13_1 : Int) := of_decide_eq_true (by first | (with_reducible assumption) | assumption)
      have q128 : x13_1 < (l0.length : Int) := of_decide_eq_true (by first | (with_reducible assumption) | assumption)
      obtain ⟨ad128, e128, hx128_0, hx128_1, hx128_2⟩ := at_T49 HR0.out x13_1 p128 q128
      cases e128
      replace hx128_0 := (HB.out.cell (World.block_lt_of_cell? w _ hx128_0)).trans hx128_0
      replace hx128_1 := (HB.out.cell (World.block_lt_of_cell? w _ hx128_1)).trans hx128_1
      replace hx128_2 := (HB.out.cell (World.block_lt_of_cell? w _ hx128_2)).trans hx128_2
      replace p128 := eq_true p128
      replace q128 := eq_true q128
      try go_wp2_with (first | ((with_reducible refine gate_dst (N := 7) rfl ?_); refine bx_ #[.int .i64 0, .int .i64 0, .int .i64 0] 49 ?_; intro gb129 hg w30 BK129 hb; have GW129 := bz_ w hg; have GE129 := GW129; replace HB := bs_ w hb; clear hb hg; replace hc129 := ce3_ BK129))
      have n0_ : Aside0 ((((w30.setCell ⟨gb129, 0, none⟩ (.int .i64 ((rd_T49 l0 x13_1).f0))).setCell ⟨gb129, 1, none⟩ (.int .i64 ((rd_T49 l0 x13_1).f1))).setCell ⟨gb129, 2, none⟩ (.int .i64 ((rd_T49 l0 x13_1).f2))).heap[gb129]? = some (.cells #[.int .i64 ((rd_T49 l0 x13_1).f0), .int .i64 ((rd_T49 l0 x13_1).f1), .int .i64 ((rd_T49 l0 x13_1).f2)] 49 (0, 0))) := ⟨(bp3_ (bq_ BK129))⟩
      have n1_ : Aside0 (Below w.heap.size w (((w30.setCell ⟨gb129, 0, none⟩ (.int .i64 ((rd_T49 l0 x13_1).f0))).setCell ⟨gb129, 1, none⟩ (.int .i64 ((rd_T49 l0 x13_1).f1))).setCell ⟨gb129, 2, none⟩ (.int .i64 ((rd_T49 l0 x13_1).f2)))) := bw_
      (try clear BK129)
      (try clear HB)
      generalize (((w30.setCell ⟨gb129, 0, none⟩ (.int .i64 ((rd_T49 l0 x13_1).f0))).setCell ⟨gb129, 1, none⟩ (.int .i64 ((rd_T49 l0 x13_1).f1))).setCell ⟨gb129, 2, none⟩ (.int .i64 ((rd_T49 l0 x13_1).f2))) = w32 at n0_ n1_ ⊢
      have BK129 := n0_
      have HB := n1_
      clear n0_ n1_
      replace BK129 := Aside0.mk (blk_drew BK129.out)
      replace HB := Aside0.mk (below_drew1 HB.out)
      refine start_ (n := 17) (S := fun w' => w'.cell? ⟨gb129, 0, none⟩ = some (.int .i64 ((rd_T49 l0 x13_1).f0)) ∧ w'.cell? ⟨gb129, 1, none⟩ = some (.int .i64 ((rd_T49 l0 x13_1).f1)) ∧ w'.cell? ⟨gb129, 2, none⟩ = some (.int .i64 ((rd_T49 l0 x13_1).f2))) (ds := []) (bl_ 17 0) (by kernel_rfl) rfl (by kernel_rfl) (cc3_ BK129) (fun hHeld => ?_); refine with_tabW curve_value.tab5 curve_value.bits5 (fun HT_ HW_ => ?_)
      generalize w32.drew = w33 at BK129 HB hHeld ⊢
      refine pa_ 0 (some 18) (bl_ 17 1) HT_ ?_
      refine pa_ 1 (some 19) (bl_ 17 3) HT_ ?_
      refine pa_ 5 (some 23) (bl_ 17 35) HT_ ?_
      refine ta_ 2 (some 20) (bl_ 17 39) HT_ HW_ hHeld ?_
      refine pa_ 3 (some 21) (bl_ 17 47) HT_ ?_
      refine ta_ 6 (some 24) (bl_ 17 111) HT_ HW_ hHeld ?_
      refine pa_ 7 (some 25) (bl_ 17 239) HT_ ?_
      refine join_ (σ := Nat) 3 (bl_ 17 16383) (fun s_ => [(22, .agg #[.int .u64 t130, .int .u64 t131]), (26, .tuple #[.agg #[.int .u64 t132, .int .u64 t133], .int .u64 t134, .int .i64 t135]), (8, .pointer (some ⟨s_, 0, none⟩)), (17, .tuple #[.agg #[.int .u64 t132, .int .u64 t133], .int .u64 t134, .int .i64 t135]), (27, .agg #[.int .u64 t132, .int .u64 t133]), (28, .int .u64 t134), (29, .int .i64 t135)]) (fun s_ w' => (w'.cell? ⟨gb129, 0, none⟩ = some (.int .i64 ((rd_T49 l0 x13_1).f0)) ∧ w'.cell? ⟨gb129, 1, none⟩ = some (.int .i64 ((rd_T49 l0 x13_1).f1)) ∧ w'.cell? ⟨gb129, 2, none⟩ = some (.int .i64 ((rd_T49 l0 x13_1).f2))) ∧ (w'.heap[gb129]? = some (.cells #[.int .i64 ((rd_T49 l0 x13_1).f0), .int .i64 ((rd_T49 l0 x13_1).f1), .int .i64 ((rd_T49 l0 x13_1).f2)] 49 (0, 0))) ∧ (w'.heap[s_]? = some (.cells #[.int .u64 0, .int .u64 0] 92 (0, 0))) ∧ (w.heap.size ≤ s_) ∧ (w.heap.size ≤ s_) ∧ (gb129 ≠ s_) ∧ (s_ ≠ gb129) ∧ (Below w.heap.size w w')) ?_ ?_
      rotate_left
      ·intro hCont
       refine tw_ 4 13 (some 22) (some 8) (bl_ 17 255) (bl_ 17 8431) HT_ (fun K hK => ?_) fun K hK => ?_
       ·refine goesB_ Try.func49 #[.int .u64 a1, .int .u64 (IntKind.u64.wrap ((rd_T49 l0 x13_1).f1))] ?_
        with_reducible refine (wide_Mul.calls a1 (IntKind.u64.wrap ((rd_T49 l0 x13_1).f1)) t130 t131 _ A6.out).mono ?_
        rintro e w34 ⟨rfl, hb⟩
        refine ⟨_, rfl, ?_⟩
        replace BK129 := bb_ BK129 hb
        replace HB := bs_ w hb
        clear hb
        refine hK.out _ _ (cc3_ BK129) (fun hHeld => ?_)
        clear hK K
        refine nm_ (some 22) ?_
        refine tw_ 8 13 (some 26) (some 8) (bl_ 17 511) (bl_ 17 8447) HT_ (fun K hK => ?_) fun K hK => ?_
        ·refine goesB_ Try.func48 #[.agg #[.int .u64 t130, .int .u64 t131], .int .u64 (IntKind.u64.wrap ((rd_T49 l0 x13_1).f2))] ?_
         with_reducible refine (wide_Div.calls k1 t130 t131 (IntKind.u64.wrap ((rd_T49 l0 x13_1).f2)) t132 t133 t134 t135 _ A7.out).mono ?_
         rintro e w35 ⟨rfl, hb⟩
         refine ⟨_, rfl, ?_⟩
         replace BK129 := bb_ BK129 hb
         replace HB := bs_ w hb
         clear hb
         refine hK.out _ _ (cc3_ BK129) (fun hHeld => ?_)
         clear hK K
         refine nm_ (some 26) ?_
         refine pa_ 9 (some 17) (bl_ 17 1023) HT_ ?_
         refine pa_ 10 (some 27) (bl_ 17 2047) HT_ ?_
         refine pa_ 11 (some 28) (bl_ 17 4095) HT_ ?_
         refine pa_ 12 (some 29) (bl_ 17 8191) HT_ ?_
         refine oa_ 13 (some 8) (bl_ 17 16383) HT_ fun K hK => ?_
         refine bs2_ #[.int .u64 0, .int .u64 0] 92 ?_
         intro gb136 hg w36 BK136 hb
         have GW136 := bz_ w hg
         have GE136 := GW136
         have NB129_136 := bn_ BK129 hg
         have NB136_129 := bm_ BK129 hg
         replace BK129 := bb_ BK129 hb
         replace HB := bs_ w hb
         clear hb hg
         refine hK.out _ _ (cc3_ BK129) (fun hHeld => ?_)
         clear hK K
         refine nm_ (some 8) ?_
         exact no_ (hCont (gb136) _ ⟨hHeld, (bq_ BK129), (bq_ BK136), GW136.out, GE136.out, NB129_136.out, NB136_129.out, bh_⟩)
        ·refine bs2_ #[.int .u64 0, .int .u64 0] 92 ?_
         intro gb136 hg w35 BK136 hb
         have GW136 := bz_ w hg
         have GE136 := GW136
         have NB129_136 := bn_ BK129 hg
         have NB136_129 := bm_ BK129 hg
         replace BK129 := bb_ BK129 hb
         replace HB := bs_ w hb
         clear hb hg
         refine hK.out _ _ (cc3_ BK129) (fun hHeld => ?_)
         clear hK K
         refine nm_ (some 8) ?_
         refine oa_ 8 (some 26) (bl_ 17 8703) HT_ fun K hK => ?_
         refine goesB_ Try.func48 #[.agg #[.int .u64 t130, .int .u64 t131], .int .u64 (IntKind.u64.wrap ((rd_T49 l0 x13_1).f2))] ?_
         with_reducible refine (wide_Div.calls k1 t130 t131 (IntKind.u64.wrap ((rd_T49 l0 x13_1).f2)) t132 t133 t134 t135 _ A7.out).mono ?_
         rintro e w36 ⟨rfl, hb⟩
         refine ⟨_, rfl, ?_⟩
         replace BK129 := bb_ BK129 hb
         replace BK136 := bb_ BK136 hb
         replace HB := bs_ w hb
         clear hb
         refine hK.out _ _ (cc3_ BK129) (fun hHeld => ?_)
         clear hK K
         refine nm_ (some 26) ?_
         refine pa_ 9 (some 17) (bl_ 17 9215) HT_ ?_
         refine pa_ 10 (some 27) (bl_ 17 10239) HT_ ?_
         refine pa_ 11 (some 28) (bl_ 17 12287) HT_ ?_
         refine pa_ 12 (some 29) (bl_ 17 16383) HT_ ?_
         exact no_ (hCont (gb136) _ ⟨hHeld, (bq_ BK129), (bq_ BK136), GW136.out, GE136.out, NB129_136.out, NB136_129.out, bh_⟩)
       ·refine bs2_ #[.int .u64 0, .int .u64 0] 92 ?_
        intro gb136 hg w34 BK136 hb
        have GW136 := bz_ w hg
        have GE136 := GW136
        have NB129_136 := bn_ BK129 hg
        have NB136_129 := bm_ BK129 hg
        replace BK129 := bb_ BK129 hb
        replace HB := bs_ w hb
        clear hb hg
        refine hK.out _ _ (cc3_ BK129) (fun hHeld => ?_)
        clear hK K
        refine nm_ (some 8) ?_
        refine oa_ 4 (some 22) (bl_ 17 8447) HT_ fun K hK => ?_
        refine goesB_ Try.func49 #[.int .u64 a1, .int .u64 (IntKind.u64.wrap ((rd_T49 l0 x13_1).f1))] ?_
        with_reducible refine (wide_Mul.calls a1 (IntKind.u64.wrap ((rd_T49 l0 x13_1).f1)) t130 t131 _ A6.out).mono ?_
        rintro e w35 ⟨rfl, hb⟩
        refine ⟨_, rfl, ?_⟩
        replace BK129 := bb_ BK129 hb
        replace BK136 := bb_ BK136 hb
        replace HB := bs_ w hb
        clear hb
        refine hK.out _ _ (cc3_ BK129) (fun hHeld => ?_)
        clear hK K
        refine nm_ (some 22) ?_
        refine oa_ 8 (some 26) (bl_ 17 8703) HT_ fun K hK => ?_
        refine goesB_ Try.func48 #[.agg #[.int .u64 t130, .int .u64 t131], .int .u64 (IntKind.u64.wrap ((rd_T49 l0 x13_1).f2))] ?_
        with_reducible refine (wide_Div.calls k1 t130 t131 (IntKind.u64.wrap ((rd_T49 l0 x13_1).f2)) t132 t133 t134 t135 _ A7.out).mono ?_
        rintro e w36 ⟨rfl, hb⟩
        refine ⟨_, rfl, ?_⟩
        replace BK129 := bb_ BK129 hb
        replace BK136 := bb_ BK136 hb
        replace HB := bs_ w hb
        clear hb
        refine hK.out _ _ (cc3_ BK129) (fun hHeld => ?_)
        clear hK K
        refine nm_ (some 26) ?_
        refine pa_ 9 (some 17) (bl_ 17 9215) HT_ ?_
        refine pa_ 10 (some 27) (bl_ 17 10239) HT_ ?_
        refine pa_ 11 (some 28) (bl_ 17 12287) HT_ ?_
        refine pa_ 12 (some 29) (bl_ 17 16383) HT_ ?_
        exact no_ (hCont (gb136) _ ⟨hHeld, (bq_ BK129), (bq_ BK136), GW136.out, GE136.out, NB129_136.out, NB136_129.out, bh_⟩)
      rintro gb136 w37 ⟨hS_, h0_, h1_, h2_, h3_, h4_, h5_, h6_⟩
      have BK136 := Aside0.mk h1_
      have GW136 := Aside0.mk h2_
      have GE136 := Aside0.mk h3_
      have NB129_136 := Aside0.mk h4_
      have NB136_129 := Aside0.mk h5_
      replace BK129 := Aside0.mk h0_
      replace HB := Aside0.mk h6_
      clear h0_ h1_ h2_ h3_ h4_ h5_ h6_
      have hHeld := hS_
      refine nq_ ?_
      refine oa_ 14 none (bl_ 17 32767) HT_ fun K hK => ?_
      have hs38 : w37.cell? ⟨gb136, 0, none⟩ = some (.int .u64 0) := (blk_cell BK136.out 0).trans rfl
      have hfs38 := blk_frozen BK136.out 0
      have hns38_0 := NB129_136.out
      have hms38_0 := NB136_129.out
      have hs39 : w37.cell? ⟨gb136, 1, none⟩ = some (.int .u64 0) := (blk_cell BK136.out 1).trans rfl
      have hfs39 := blk_frozen BK136.out 1
      have hns39_0 := NB129_136.out
      have hms39_0 := NB136_129.out
      refine sk_ ?_
      refine hK.out _ _ (cf3_ hHeld) (fun hHeld => ?_)
      clear hK K
      refine pa_ 15 (some 9) (bl_ 17 65535) HT_ ?_
      refine pa_ 16 (some 10) (bl_ 17 131071) HT_ ?_
      refine done_ (done_of HT_.out (by kernel_rfl)) ?_
      try go_wp2
      have n0_ : Aside0 (((w37.setCell ⟨gb136, 0, none⟩ (.int .u64 t132)).setCell ⟨gb136, 1, none⟩ (.int .u64 t133)).heap[gb129]? = some (.cells #[.int .i64 ((rd_T49 l0 x13_1).f0), .int .i64 ((rd_T49 l0 x13_1).f1), .int .i64 ((rd_T49 l0 x13_1).f2)] 49 (0, 0))) := ⟨(bt_ BK129)⟩
      have n1_ : Aside0 (((w37.setCell ⟨gb136, 0, none⟩ (.int .u64 t132)).setCell ⟨gb136, 1, none⟩ (.int .u64 t133)).heap[gb136]? = some (.cells #[.int .u64 t132, .int .u64 t133] 92 (0, 0))) := ⟨(bp2_ (bq_ BK136))⟩
      have n2_ : Aside0 (Below w.heap.size w ((w37.setCell ⟨gb136, 0, none⟩ (.int .u64 t132)).setCell ⟨gb136, 1, none⟩ (.int .u64 t133))) := bw_
      (try clear BK129)
      (try clear BK136)
      (try clear HB)
      generalize ((w37.setCell ⟨gb136, 0, none⟩ (.int .u64 t132)).setCell ⟨gb136, 1, none⟩ (.int .u64 t133)) = w40 at n0_ n1_ n2_ ⊢
      have BK129 := n0_
      have BK136 := n1_
      have HB := n2_
      clear n0_ n1_ n2_
      replace BK129 := Aside0.mk (blk_drew BK129.out)
      replace BK136 := Aside0.mk (blk_drew BK136.out)
      replace HB := Aside0.mk (below_drew1 HB.out)
      refine start_ (n := 4) (S := fun w' => w'.cell? ⟨gb136, 0, none⟩ = some (.int .u64 t132) ∧ w'.cell? ⟨gb136, 1, none⟩ = some (.int .u64 t133)) (ds := []) (bl_ 4 0) (by kernel_rfl) rfl (by kernel_rfl) (cc2_ BK136) (fun hHeld => ?_)
      generalize w40.drew = w41 at BK129 BK136 HB hHeld ⊢
      refine take_ (i := 0) (N := some 32) (v := ?_) (a' := ?_) (bl_ 4 1) rfl rfl (by kernel_rfl) (fun _ _ _ h => h) (Or.inl ⟨by rfl, ?_⟩) hHeld ?_ ?_
      rotate_left
      ·rintro w' ⟨s0, s1⟩
       go_simp
       with_reducible rfl
      rotate_left
      ·simp only [Act.put, List.setIfInBounds_toArray, List.set_cons_zero, List.set_cons_succ, i64_w, i32_w]
       rfl
      refine one_ (i := 1) (N := some 33) (bl_ 4 3) rfl rfl (by kernel_rfl) (by decide) (fun K hK => ?_)
      refine goesB_ Try.func51 #[.int .u64 1000000000000] ?_
      with_reducible refine (wide_Of.calls 1000000000000 t137 t138 _ A9.out).mono ?_
      rintro e w42 ⟨rfl, hb⟩
      refine ⟨_, rfl, ?_⟩
      replace BK129 := bb_ BK129 hb
      replace BK136 := bb_ BK136 hb
      replace HB := bs_ w hb
      clear hb
      refine hK.out _ _ (cc2_ BK136) (fun hHeld => ?_)
      clear hK K
      refine nm_ (some 33) ?_
      refine one_ (i := 2) (N := some 34) (bl_ 4 7) rfl rfl (by kernel_rfl) (by decide) (fun K hK => ?_)
      refine goesB_ Try.func50 #[.agg #[.int .u64 t132, .int .u64 t133], .agg #[.int .u64 t137, .int .u64 t138]] ?_
      with_reducible refine (wide_Cmp.calls k1 t132 t133 t137 t138 t139 _ A10.out).mono ?_
      rintro e w43 ⟨rfl, hb⟩
      refine ⟨_, rfl, ?_⟩
      replace BK129 := bb_ BK129 hb
      replace BK136 := bb_ BK136 hb
      replace HB := bs_ w hb
      clear hb
      refine hK.out _ _ (cc2_ BK136) (fun hHeld => ?_)
      clear hK K
      refine nm_ (some 34) ?_
      refine pure_ (i := 3) (N := some 35) (v := ?_) (a' := ?_) (bl_ 4 15) rfl rfl (by kernel_rfl) (fun _ _ _ h => h) (Or.inl ⟨by rfl, ?_⟩) ?_ ?_
      rotate_left
      ·intro w'
       go_simp
       with_reducible rfl
      rotate_left
      ·simp only [Act.put, List.setIfInBounds_toArray, List.set_cons_zero, List.set_cons_succ, i64_w, i32_w]
       rfl
      refine done_ (by kernel_rfl) ?_
      try go_wp2
      go_roundg k1
      case measure => have := HK1.out; omega
      case rel => exact ⟨(x5_1), (wrap64 (x13_1 + 1)), rf_, rf_, H', ⟨by have := HK1.out; omega⟩, bw_⟩
    ·rw [if_neg c8] at H
     have c8b0 : (t135 == 0) = false := beq_eq_false_iff_ne.mpr c8
     have c8b1 : (t135 != 0) = true := bne_iff_ne.mpr c8
     obtain rfl := Option.some.inj H
     have p128 : 0 ≤ (x13_1 : Int) := of_decide_eq_true (by first | (with_reducible assumption) | assumption)
     have q128 : x13_1 < (l0.length : Int) := of_decide_eq_true (by first | (with_reducible assumption) | assumption)
     obtain ⟨ad128, e128, hx128_0, hx128_1, hx128_2⟩ := at_T49 HR0.out x13_1 p128 q128
     cases e128
     replace hx128_0 := (HB.out.cell (World.block_lt_of_cell? w _ hx128_0)).trans hx128_0
     replace hx128_1 := (HB.out.cell (World.block_lt_of_cell? w _ hx128_1)).trans hx128_1
     replace hx128_2 := (HB.out.cell (World.block_lt_of_cell? w _ hx128_2)).trans hx128_2
     replace p128 := eq_true p128
     replace q128 := eq_true q128
     try go_wp2_with (first | ((with_reducible refine gate_dst (N := 7) rfl ?_); refine bx_ #[.int .i64 0, .int .i64 0, .int .i64 0] 49 ?_; intro gb129 hg w44 BK129 hb; have GW129 := bz_ w hg; have GE129 := GW129; replace HB := bs_ w hb; clear hb hg; replace hc129 := ce3_ BK129))
     have n0_ : Aside0 ((((w44.setCell ⟨gb129, 0, none⟩ (.int .i64 ((rd_T49 l0 x13_1).f0))).setCell ⟨gb129, 1, none⟩ (.int .i64 ((rd_T49 l0 x13_1).f1))).setCell ⟨gb129, 2, none⟩ (.int .i64 ((rd_T49 l0 x13_1).f2))).heap[gb129]? = some (.cells #[.int .i64 ((rd_T49 l0 x13_1).f0), .int .i64 ((rd_T49 l0 x13_1).f1), .int .i64 ((rd_T49 l0 x13_1).f2)] 49 (0, 0))) := ⟨(bp3_ (bq_ BK129))⟩
     have n1_ : Aside0 (Below w.heap.size w (((w44.setCell ⟨gb129, 0, none⟩ (.int .i64 ((rd_T49 l0 x13_1).f0))).setCell ⟨gb129, 1, none⟩ (.int .i64 ((rd_T49 l0 x13_1).f1))).setCell ⟨gb129, 2, none⟩ (.int .i64 ((rd_T49 l0 x13_1).f2)))) := bw_
     (try clear BK129)
     (try clear HB)
     generalize (((w44.setCell ⟨gb129, 0, none⟩ (.int .i64 ((rd_T49 l0 x13_1).f0))).setCell ⟨gb129, 1, none⟩ (.int .i64 ((rd_T49 l0 x13_1).f1))).setCell ⟨gb129, 2, none⟩ (.int .i64 ((rd_T49 l0 x13_1).f2))) = w46 at n0_ n1_ ⊢
     have BK129 := n0_
     have HB := n1_
     clear n0_ n1_
     replace BK129 := Aside0.mk (blk_drew BK129.out)
     replace HB := Aside0.mk (below_drew1 HB.out)
     refine start_ (n := 17) (S := fun w' => w'.cell? ⟨gb129, 0, none⟩ = some (.int .i64 ((rd_T49 l0 x13_1).f0)) ∧ w'.cell? ⟨gb129, 1, none⟩ = some (.int .i64 ((rd_T49 l0 x13_1).f1)) ∧ w'.cell? ⟨gb129, 2, none⟩ = some (.int .i64 ((rd_T49 l0 x13_1).f2))) (ds := []) (bl_ 17 0) (by kernel_rfl) rfl (by kernel_rfl) (cc3_ BK129) (fun hHeld => ?_); refine with_tabW curve_value.tab5 curve_value.bits5 (fun HT_ HW_ => ?_)
     generalize w46.drew = w47 at BK129 HB hHeld ⊢
     refine pa_ 0 (some 18) (bl_ 17 1) HT_ ?_
     refine pa_ 1 (some 19) (bl_ 17 3) HT_ ?_
     refine pa_ 5 (some 23) (bl_ 17 35) HT_ ?_
     refine ta_ 2 (some 20) (bl_ 17 39) HT_ HW_ hHeld ?_
     refine pa_ 3 (some 21) (bl_ 17 47) HT_ ?_
     refine ta_ 6 (some 24) (bl_ 17 111) HT_ HW_ hHeld ?_
     refine pa_ 7 (some 25) (bl_ 17 239) HT_ ?_
     refine join_ (σ := Nat) 3 (bl_ 17 16383) (fun s_ => [(22, .agg #[.int .u64 t130, .int .u64 t131]), (26, .tuple #[.agg #[.int .u64 t132, .int .u64 t133], .int .u64 t134, .int .i64 t135]), (8, .pointer (some ⟨s_, 0, none⟩)), (17, .tuple #[.agg #[.int .u64 t132, .int .u64 t133], .int .u64 t134, .int .i64 t135]), (27, .agg #[.int .u64 t132, .int .u64 t133]), (28, .int .u64 t134), (29, .int .i64 t135)]) (fun s_ w' => (w'.cell? ⟨gb129, 0, none⟩ = some (.int .i64 ((rd_T49 l0 x13_1).f0)) ∧ w'.cell? ⟨gb129, 1, none⟩ = some (.int .i64 ((rd_T49 l0 x13_1).f1)) ∧ w'.cell? ⟨gb129, 2, none⟩ = some (.int .i64 ((rd_T49 l0 x13_1).f2))) ∧ (w'.heap[gb129]? = some (.cells #[.int .i64 ((rd_T49 l0 x13_1).f0), .int .i64 ((rd_T49 l0 x13_1).f1), .int .i64 ((rd_T49 l0 x13_1).f2)] 49 (0, 0))) ∧ (w'.heap[s_]? = some (.cells #[.int .u64 0, .int .u64 0] 92 (0, 0))) ∧ (w.heap.size ≤ s_) ∧ (w.heap.size ≤ s_) ∧ (gb129 ≠ s_) ∧ (s_ ≠ gb129) ∧ (Below w.heap.size w w')) ?_ ?_
     rotate_left
     ·intro hCont
      refine tw_ 4 13 (some 22) (some 8) (bl_ 17 255) (bl_ 17 8431) HT_ (fun K hK => ?_) fun K hK => ?_
      ·refine goesB_ Try.func49 #[.int .u64 a1, .int .u64 (IntKind.u64.wrap ((rd_T49 l0 x13_1).f1))] ?_
       with_reducible refine (wide_Mul.calls a1 (IntKind.u64.wrap ((rd_T49 l0 x13_1).f1)) t130 t131 _ A6.out).mono ?_
       rintro e w48 ⟨rfl, hb⟩
       refine ⟨_, rfl, ?_⟩
       replace BK129 := bb_ BK129 hb
       replace HB := bs_ w hb
       clear hb
       refine hK.out _ _ (cc3_ BK129) (fun hHeld => ?_)
       clear hK K
       refine nm_ (some 22) ?_
       refine tw_ 8 13 (some 26) (some 8) (bl_ 17 511) (bl_ 17 8447) HT_ (fun K hK => ?_) fun K hK => ?_
       ·refine goesB_ Try.func48 #[.agg #[.int .u64 t130, .int .u64 t131], .int .u64 (IntKind.u64.wrap ((rd_T49 l0 x13_1).f2))] ?_
        with_reducible refine (wide_Div.calls k1 t130 t131 (IntKind.u64.wrap ((rd_T49 l0 x13_1).f2)) t132 t133 t134 t135 _ A7.out).mono ?_
        rintro e w49 ⟨rfl, hb⟩
        refine ⟨_, rfl, ?_⟩
        replace BK129 := bb_ BK129 hb
        replace HB := bs_ w hb
        clear hb
        refine hK.out _ _ (cc3_ BK129) (fun hHeld => ?_)
        clear hK K
        refine nm_ (some 26) ?_
        refine pa_ 9 (some 17) (bl_ 17 1023) HT_ ?_
        refine pa_ 10 (some 27) (bl_ 17 2047) HT_ ?_
        refine pa_ 11 (some 28) (bl_ 17 4095) HT_ ?_
        refine pa_ 12 (some 29) (bl_ 17 8191) HT_ ?_
        refine oa_ 13 (some 8) (bl_ 17 16383) HT_ fun K hK => ?_
        refine bs2_ #[.int .u64 0, .int .u64 0] 92 ?_
        intro gb136 hg w50 BK136 hb
        have GW136 := bz_ w hg
        have GE136 := GW136
        have NB129_136 := bn_ BK129 hg
        have NB136_129 := bm_ BK129 hg
        replace BK129 := bb_ BK129 hb
        replace HB := bs_ w hb
        clear hb hg
        refine hK.out _ _ (cc3_ BK129) (fun hHeld => ?_)
        clear hK K
        refine nm_ (some 8) ?_
        exact no_ (hCont (gb136) _ ⟨hHeld, (bq_ BK129), (bq_ BK136), GW136.out, GE136.out, NB129_136.out, NB136_129.out, bh_⟩)
       ·refine bs2_ #[.int .u64 0, .int .u64 0] 92 ?_
        intro gb136 hg w49 BK136 hb
        have GW136 := bz_ w hg
        have GE136 := GW136
        have NB129_136 := bn_ BK129 hg
        have NB136_129 := bm_ BK129 hg
        replace BK129 := bb_ BK129 hb
        replace HB := bs_ w hb
        clear hb hg
        refine hK.out _ _ (cc3_ BK129) (fun hHeld => ?_)
        clear hK K
        refine nm_ (some 8) ?_
        refine oa_ 8 (some 26) (bl_ 17 8703) HT_ fun K hK => ?_
        refine goesB_ Try.func48 #[.agg #[.int .u64 t130, .int .u64 t131], .int .u64 (IntKind.u64.wrap ((rd_T49 l0 x13_1).f2))] ?_
        with_reducible refine (wide_Div.calls k1 t130 t131 (IntKind.u64.wrap ((rd_T49 l0 x13_1).f2)) t132 t133 t134 t135 _ A7.out).mono ?_
        rintro e w50 ⟨rfl, hb⟩
        refine ⟨_, rfl, ?_⟩
        replace BK129 := bb_ BK129 hb
        replace BK136 := bb_ BK136 hb
        replace HB := bs_ w hb
        clear hb
        refine hK.out _ _ (cc3_ BK129) (fun hHeld => ?_)
        clear hK K
        refine nm_ (some 26) ?_
        refine pa_ 9 (some 17) (bl_ 17 9215) HT_ ?_
        refine pa_ 10 (some 27) (bl_ 17 10239) HT_ ?_
        refine pa_ 11 (some 28) (bl_ 17 12287) HT_ ?_
        refine pa_ 12 (some 29) (bl_ 17 16383) HT_ ?_
        exact no_ (hCont (gb136) _ ⟨hHeld, (bq_ BK129), (bq_ BK136), GW136.out, GE136.out, NB129_136.out, NB136_129.out, bh_⟩)
      ·refine bs2_ #[.int .u64 0, .int .u64 0] 92 ?_
       intro gb136 hg w48 BK136 hb
       have GW136 := bz_ w hg
       have GE136 := GW136
       have NB129_136 := bn_ BK129 hg
       have NB136_129 := bm_ BK129 hg
       replace BK129 := bb_ BK129 hb
       replace HB := bs_ w hb
       clear hb hg
       refine hK.out _ _ (cc3_ BK129) (fun hHeld => ?_)
       clear hK K
       refine nm_ (some 8) ?_
       refine oa_ 4 (some 22) (bl_ 17 8447) HT_ fun K hK => ?_
       refine goesB_ Try.func49 #[.int .u64 a1, .int .u64 (IntKind.u64.wrap ((rd_T49 l0 x13_1).f1))] ?_
       with_reducible refine (wide_Mul.calls a1 (IntKind.u64.wrap ((rd_T49 l0 x13_1).f1)) t130 t131 _ A6.out).mono ?_
       rintro e w49 ⟨rfl, hb⟩
       refine ⟨_, rfl, ?_⟩
       replace BK129 := bb_ BK129 hb
       replace BK136 := bb_ BK136 hb
       replace HB := bs_ w hb
       clear hb
       refine hK.out _ _ (cc3_ BK129) (fun hHeld => ?_)
       clear hK K
       refine nm_ (some 22) ?_
       refine oa_ 8 (some 26) (bl_ 17 8703) HT_ fun K hK => ?_
       refine goesB_ Try.func48 #[.agg #[.int .u64 t130, .int .u64 t131], .int .u64 (IntKind.u64.wrap ((rd_T49 l0 x13_1).f2))] ?_
       with_reducible refine (wide_Div.calls k1 t130 t131 (IntKind.u64.wrap ((rd_T49 l0 x13_1).f2)) t132 t133 t134 t135 _ A7.out).mono ?_
       rintro e w50 ⟨rfl, hb⟩
       refine ⟨_, rfl, ?_⟩
       replace BK129 := bb_ BK129 hb
       replace BK136 := bb_ BK136 hb
       replace HB := bs_ w hb
       clear hb
       refine hK.out _ _ (cc3_ BK129) (fun hHeld => ?_)
       clear hK K
       refine nm_ (some 26) ?_
       refine pa_ 9 (some 17) (bl_ 17 9215) HT_ ?_
       refine pa_ 10 (some 27) (bl_ 17 10239) HT_ ?_
       refine pa_ 11 (some 28) (bl_ 17 12287) HT_ ?_
       refine pa_ 12 (some 29) (bl_ 17 16383) HT_ ?_
       exact no_ (hCont (gb136) _ ⟨hHeld, (bq_ BK129), (bq_ BK136), GW136.out, GE136.out, NB129_136.out, NB136_129.out, bh_⟩)
     rintro gb136 w51 ⟨hS_, h0_, h1_, h2_, h3_, h4_, h5_, h6_⟩
     have BK136 := Aside0.mk h1_
     have GW136 := Aside0.mk h2_
     have GE136 := Aside0.mk h3_
     have NB129_136 := Aside0.mk h4_
     have NB136_129 := Aside0.mk h5_
     replace BK129 := Aside0.mk h0_
     replace HB := Aside0.mk h6_
     clear h0_ h1_ h2_ h3_ h4_ h5_ h6_
     have hHeld := hS_
     refine nq_ ?_
     refine oa_ 14 none (bl_ 17 32767) HT_ fun K hK => ?_
     have hs52 : w51.cell? ⟨gb136, 0, none⟩ = some (.int .u64 0) := (blk_cell BK136.out 0).trans rfl
     have hfs52 := blk_frozen BK136.out 0
     have hns52_0 := NB129_136.out
     have hms52_0 := NB136_129.out
     have hs53 : w51.cell? ⟨gb136, 1, none⟩ = some (.int .u64 0) := (blk_cell BK136.out 1).trans rfl
     have hfs53 := blk_frozen BK136.out 1
     have hns53_0 := NB129_136.out
     have hms53_0 := NB136_129.out
     refine sk_ ?_
     refine hK.out _ _ (cf3_ hHeld) (fun hHeld => ?_)
     clear hK K
     refine pa_ 15 (some 9) (bl_ 17 65535) HT_ ?_
     refine pa_ 16 (some 10) (bl_ 17 131071) HT_ ?_
     refine done_ (done_of HT_.out (by kernel_rfl)) ?_
     try go_wp2
     go_ret
     exact fi_
   ·rw [if_neg c3] at H
    have c3b0 : decide (x13_1 < (l0.length : Int)) = false := decide_eq_false c3
    clear c3
    obtain rfl := Option.some.inj H
    go_wp2
    go_ret
    exact fi_

end Go.Proofs.Ytimhghmfhfggoaa.X
