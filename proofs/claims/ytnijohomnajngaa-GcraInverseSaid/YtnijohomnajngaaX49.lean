-- written by xprint.py, a program of this session over the kit's print
import Derived.Test.YtnijohomnajngaaX0
import Derived.Test.YtnijohomnajngaaX5
import Derived.Test.YtnijohomnajngaaX10
import Derived.Test.YtnijohomnajngaaX26
import Derived.Test.YtnijohomnajngaaX48
namespace Go.Proofs.Ytnijohomnajngaa.X
open Go.RowKit Go.Proofs.YtnijohomnajngaaW.PrintWords Go.Proofs.YtnijohomnajngaaW.PrintLast Go.Proofs.YtnijohomnajngaaW.PrintMore
attribute [local go_sem] max2_int min2_int max_two min_two max_three min_three max_four min_four   -- for this text's walks alone
set_option linter.unusedVariables false
set_option linter.unusedSimpArgs false

/-! ### bucket_fill: function 53 -/
def bucket_fill.f (k : Nat) (a0_0 : Int) (a0_1 : Int) (a0_2 : Int) (a0_3 : Int) (a0_4 : Int) (a0_5 : Int) (a1 : Int) : Option (Int × Int × Int × Int × Int × Int) := if a1 ≤ a0_5 then (some (a0_0, a0_1, a0_2, a0_3, a0_4, a0_5)) else ((wide_Mul.f (IntKind.u64.wrap (a1 - a0_5)) (IntKind.u64.wrap (a0_1))).bind fun bt797 => ((wide_Of.f (IntKind.u64.wrap (a0_4))).bind fun bt799 => ((wide_Add.f bt797.1 bt797.2 bt799.1 bt799.2).bind fun bt801 => ((wide_Div.f k bt801.1 bt801.2.1 (IntKind.u64.wrap (a0_2))).bind fun bt805 => ((wide_Small.f bt805.1 bt805.2.1).bind fun bt810 => (if bt810.2 = 0 then (if bt810.1 ≥ (IntKind.u64.wrap (wrap64 (a0_0 - a0_3))) then (some (a0_0, a0_1, a0_2, a0_0, 0, a1)) else (some (a0_0, a0_1, a0_2, wrap64 (a0_3 + (wrap64 (bt810.1))), wrap64 (bt805.2.2.1), a1))) else (some (a0_0, a0_1, a0_2, a0_0, 0, a1))))))))
theorem bucket_fill.mono : ∀ a0 a1 a2 a3 a4 a5 a6 k, LeO (bucket_fill.f k a0 a1 a2 a3 a4 a5 a6) (bucket_fill.f (k + 1) a0 a1 a2 a3 a4 a5 a6) := by
  intro a0 a1 a2 a3 a4 a5 a6 k
  unfold bucket_fill.f
  repeat' first
      | (with_reducible exact wide_Div.mono _ _ _ _)
      | (with_reducible exact LeO.refl _)
      | (with_reducible exact LeO.none _)
      | (with_reducible refine LeO.ite ?_ ?_)
      | (with_reducible refine LeO.bind ?_ (fun _ => ?_))
      | exact wide_Div.mono _ _ _ _
      | exact LeO.none _
      | refine LeO.ite ?_ ?_
      | refine LeO.bind ?_ (fun _ => ?_)
def bucket_fill.T3 : Bool × List (List Nat × List Nat) := (true, [([], []), ([], []), ([1], [1]), ([0, 2], [0, 2]), ([], []), ([4], [4]), ([5], [5]), ([6], [6]), ([3, 7], [3, 7]), ([], []), ([9], [9]), ([10], [10]), ([11, 8], [11]), ([8, 12, 12], [8, 12]), ([13], [13]), ([14], [14]), ([14], [14]), ([], []), ([17, 15, 13, 0, 1, 2, 3, 4, 5, 6, 7, 8, 9, 10, 11, 12, 13, 14, 15, 17], [15, 17]), ([16, 18, 0, 1, 2, 3, 4, 5, 6, 7, 8, 9, 10, 11, 12, 13, 14, 15, 16, 17, 18], [16])])
def bucket_fill.B3 : List Nat := [0, 0, 2, 7, 0, 16, 48, 112, 255, 0, 512, 1536, 4095, 8191, 16383, 32767, 32767, 0, 196607, 524287]
theorem bucket_fill.tab3 : rtab .any (opsOf Try.f53 3) = bucket_fill.T3 := by kernel_rfl
theorem bucket_fill.bits3 : waitsOk bucket_fill.T3.2 bucket_fill.B3 = true := by kernel_rfl
set_option maxHeartbeats 8000000 in
set_option maxRecDepth 100000 in
theorem bucket_fill.calls (k : Nat) (a0_0 : Int) (a0_1 : Int) (a0_2 : Int) (a0_3 : Int) (a0_4 : Int) (a0_5 : Int) (a1 : Int) (r1 : Int) (r2 : Int) (r3 : Int) (r4 : Int) (r5 : Int) (r6 : Int) (w : World) (h : bucket_fill.f k a0_0 a0_1 a0_2 a0_3 a0_4 a0_5 a1 = some (r1, r2, r3, r4, r5, r6)) :
  Calls Try.prog 53 #[.agg #[.int .i64 a0_0, .int .i64 a0_1, .int .i64 a0_2, .int .i64 a0_3, .int .i64 a0_4, .int .u64 a0_5], .int .u64 a1] w fun e w' => e = .returned (.agg #[.int .i64 r1, .int .i64 r2, .int .i64 r3, .int .i64 r4, .int .i64 r5, .int .u64 r6]) ∧ Below w.heap.size w w' := by
 have hu30 := Try.underlying30
 have hu26 := Try.underlying26
 have HB := Aside0.mk (Below.refl w.heap.size w)
 have H : (if a1 ≤ a0_5 then (some (a0_0, a0_1, a0_2, a0_3, a0_4, a0_5)) else ((wide_Mul.f (IntKind.u64.wrap (a1 - a0_5)) (IntKind.u64.wrap (a0_1))).bind fun bt797 => ((wide_Of.f (IntKind.u64.wrap (a0_4))).bind fun bt799 => ((wide_Add.f bt797.1 bt797.2 bt799.1 bt799.2).bind fun bt801 => ((wide_Div.f k bt801.1 bt801.2.1 (IntKind.u64.wrap (a0_2))).bind fun bt805 => ((wide_Small.f bt805.1 bt805.2.1).bind fun bt810 => (if bt810.2 = 0 then (if bt810.1 ≥ (IntKind.u64.wrap (wrap64 (a0_0 - a0_3))) then (some (a0_0, a0_1, a0_2, a0_0, 0, a1)) else (some (a0_0, a0_1, a0_2, wrap64 (a0_3 + (wrap64 (bt810.1))), wrap64 (bt805.2.2.1), a1))) else (some (a0_0, a0_1, a0_2, a0_0, 0, a1))))))))) = some (r1, r2, r3, r4, r5, r6) := h
 clear h
 by_cases c3 : a1 ≤ a0_5
 ·rw [if_pos c3] at H
  have c3b0 : decide (a1 ≤ a0_5) = true := decide_eq_true c3
  clear c3
  simp only [Option.some.injEq, Prod.mk.injEq] at H
  obtain ⟨rfl, rfl, rfl, rfl, rfl, rfl⟩ := H
  go_enter Try.func53, Try.ntmps53
  go_wp2_with (first | ((with_reducible refine gate_dst (N := 2) rfl ?_); refine bx_ #[.int .i64 a0_0, .int .i64 a0_1, .int .i64 a0_2, .int .i64 a0_3, .int .i64 a0_4, .int .u64 a0_5] 30 ?_; intro gb795 hg w4 BK795 hb; have GW795 := bz_ w hg; have GE795 := GW795; replace HB := bs_ w hb; clear hb hg) | ((with_reducible refine gate_dst (N := 4) rfl ?_); refine bx_ #[.int .i64 0, .int .i64 0, .int .i64 0, .int .i64 0, .int .i64 0, .int .u64 0] 30 ?_; intro gb796 hg w5 BK796 hb; have GW796 := bz_ w hg; have GE796 := GW796; have NB795_796 := bn_ BK795 hg; have NB796_795 := bm_ BK795 hg; replace BK795 := bb_ BK795 hb; replace HB := bs_ w hb; clear hb hg; have hnb6 := NB795_796.out; have hnc6 := NB796_795.out; obtain ⟨_, _, _, _, _, _, _, _, _, _, _, _⟩ := ce6_ BK795; obtain ⟨_, _, _, _, _, _, _, _, _, _, _, _⟩ := ce6_ BK796))
  refine bodyPost_ret (results_cell_row rfl _ _ gb796 30 #[.int .i64 a0_0, .int .i64 a0_1, .int .i64 a0_2, .int .i64 a0_3, .int .i64 a0_4, .int .u64 a0_5] (0, 0) _ rfl (bp6_ (bq_ BK796)) Try.underlying30 rfl (by kernel_rfl)) rfl ?_
  exact fi_
 ·rw [if_neg c3] at H
  have c3b0 : decide (a1 ≤ a0_5) = false := decide_eq_false c3
  clear c3
  obtain ⟨⟨t797, t798⟩, A9, H⟩ := bo_ H
  try dsimp only at H
  obtain ⟨⟨t799, t800⟩, A10, H⟩ := bo_ H
  try dsimp only at H
  obtain ⟨⟨t801, t802, t803⟩, A11, H⟩ := bo_ H
  try dsimp only at H
  obtain ⟨⟨t805, t806, t807, t808⟩, A12, H⟩ := bo_ H
  try dsimp only at H
  obtain ⟨⟨t810, t811⟩, A13, H⟩ := bo_ H
  try dsimp only at H
  by_cases c14 : t811 = 0
  ·rw [if_pos c14] at H
   have c14b0 : (t811 == 0) = true := beq_iff_eq.mpr c14
   have c14b1 : (t811 != 0) = false := bne_eq_false_iff_eq.mpr c14
   clear c14
   by_cases c15 : t810 ≥ (IntKind.u64.wrap (wrap64 (a0_0 - a0_3)))
   ·rw [if_pos c15] at H
    have c15b0 : decide ((IntKind.u64.wrap (wrap64 (a0_0 - a0_3))) ≤ t810) = true := decide_eq_true c15
    clear c15
    simp only [Option.some.injEq, Prod.mk.injEq] at H
    obtain ⟨rfl, rfl, rfl, rfl, rfl, rfl⟩ := H
    go_enter Try.func53, Try.ntmps53
    try go_wp2_with (first | ((with_reducible refine gate_dst (N := 2) rfl ?_); refine bx_ #[.int .i64 a0_0, .int .i64 a0_1, .int .i64 a0_2, .int .i64 a0_3, .int .i64 a0_4, .int .u64 a0_5] 30 ?_; intro gb795 hg w16 BK795 hb; have GW795 := bz_ w hg; have GE795 := GW795; replace HB := bs_ w hb; clear hb hg) | ((with_reducible refine gate_dst (N := 4) rfl ?_); refine bx_ #[.int .i64 0, .int .i64 0, .int .i64 0, .int .i64 0, .int .i64 0, .int .u64 0] 30 ?_; intro gb796 hg w17 BK796 hb; have GW796 := bz_ w hg; have GE796 := GW796; have NB795_796 := bn_ BK795 hg; have NB796_795 := bm_ BK795 hg; replace BK795 := bb_ BK795 hb; replace HB := bs_ w hb; clear hb hg; have hnb18 := NB795_796.out; have hnc18 := NB796_795.out; obtain ⟨_, _, _, _, _, _, _, _, _, _, _, _⟩ := ce6_ BK795))
    replace BK795 := Aside0.mk (blk_drew BK795.out)
    replace BK796 := Aside0.mk (blk_drew BK796.out)
    replace HB := Aside0.mk (below_drew1 HB.out)
    refine start_ (n := 20) (S := fun w' => w'.cell? ⟨gb795, 0, none⟩ = some (.int .i64 a0_0) ∧ w'.cell? ⟨gb795, 1, none⟩ = some (.int .i64 a0_1) ∧ w'.cell? ⟨gb795, 2, none⟩ = some (.int .i64 a0_2) ∧ w'.cell? ⟨gb795, 3, none⟩ = some (.int .i64 a0_3) ∧ w'.cell? ⟨gb795, 4, none⟩ = some (.int .i64 a0_4) ∧ w'.cell? ⟨gb795, 5, none⟩ = some (.int .u64 a0_5)) (ds := []) (bl_ 20 0) (by kernel_rfl) rfl (by kernel_rfl) (cc6_ BK795) (fun hHeld => ?_); refine with_tabW bucket_fill.tab3 bucket_fill.bits3 (fun HT_ HW_ => ?_)
    generalize w17.drew = w20 at BK795 BK796 HB hHeld ⊢
    refine pa_ 0 (some 18) (bl_ 20 1) HT_ ?_
    refine pa_ 1 (some 19) (bl_ 20 3) HT_ ?_
    refine pa_ 4 (some 22) (bl_ 20 19) HT_ ?_
    refine pa_ 5 (some 23) (bl_ 20 51) HT_ ?_
    refine pa_ 9 (some 27) (bl_ 20 563) HT_ ?_
    refine ta_ 2 (some 20) (bl_ 20 567) HT_ HW_ hHeld ?_
    refine pa_ 3 (some 21) (bl_ 20 575) HT_ ?_
    refine ta_ 6 (some 24) (bl_ 20 639) HT_ HW_ hHeld ?_
    refine pa_ 7 (some 25) (bl_ 20 767) HT_ ?_
    refine ta_ 10 (some 28) (bl_ 20 1791) HT_ HW_ hHeld ?_
    refine pa_ 11 (some 29) (bl_ 20 3839) HT_ ?_
    refine join_ (σ := Nat) 2 (bl_ 20 262143) (fun s_ => [(26, .agg #[.int .u64 t797, .int .u64 t798]), (30, .agg #[.int .u64 t799, .int .u64 t800]), (31, .tuple #[.agg #[.int .u64 t801, .int .u64 t802], .int .i64 t803]), (5, .pointer (some ⟨s_, 0, none⟩)), (17, .tuple #[.agg #[.int .u64 t801, .int .u64 t802], .int .i64 t803]), (32, .agg #[.int .u64 t801, .int .u64 t802]), (33, .int .i64 t803)]) (fun s_ w' => (w'.cell? ⟨gb795, 0, none⟩ = some (.int .i64 a0_0) ∧ w'.cell? ⟨gb795, 1, none⟩ = some (.int .i64 a0_1) ∧ w'.cell? ⟨gb795, 2, none⟩ = some (.int .i64 a0_2) ∧ w'.cell? ⟨gb795, 3, none⟩ = some (.int .i64 a0_3) ∧ w'.cell? ⟨gb795, 4, none⟩ = some (.int .i64 a0_4) ∧ w'.cell? ⟨gb795, 5, none⟩ = some (.int .u64 a0_5)) ∧ (w'.heap[gb795]? = some (.cells #[.int .i64 a0_0, .int .i64 a0_1, .int .i64 a0_2, .int .i64 a0_3, .int .i64 a0_4, .int .u64 a0_5] 30 (0, 0))) ∧ (w'.heap[gb796]? = some (.cells #[.int .i64 0, .int .i64 0, .int .i64 0, .int .i64 0, .int .i64 0, .int .u64 0] 30 (0, 0))) ∧ (w'.heap[s_]? = some (.cells #[.int .u64 0, .int .u64 0] 26 (0, 0))) ∧ (w.heap.size ≤ s_) ∧ (w.heap.size ≤ s_) ∧ (gb795 ≠ s_) ∧ (s_ ≠ gb795) ∧ (gb796 ≠ s_) ∧ (s_ ≠ gb796) ∧ (Below w.heap.size w w')) ?_ ?_
    rotate_left
    ·intro hCont
     refine tw_ 8 17 (some 26) (some 5) (bl_ 20 4095) (bl_ 20 134911) HT_ (fun K hK => ?_) fun K hK => ?_
     ·refine goesB_ Try.func54 #[.int .u64 (IntKind.u64.wrap (a1 - a0_5)), .int .u64 (IntKind.u64.wrap (a0_1))] ?_
      with_reducible refine (wide_Mul.calls (IntKind.u64.wrap (a1 - a0_5)) (IntKind.u64.wrap (a0_1)) t797 t798 _ A9.out).mono ?_
      rintro e w21 ⟨rfl, hb⟩
      refine ⟨_, rfl, ?_⟩
      replace BK795 := bb_ BK795 hb
      replace BK796 := bb_ BK796 hb
      replace HB := bs_ w hb
      clear hb
      refine hK.out _ _ (cc6_ BK795) (fun hHeld => ?_)
      clear hK K
      refine nm_ (some 26) ?_
      refine tw_ 12 17 (some 30) (some 5) (bl_ 20 8191) (bl_ 20 135167) HT_ (fun K hK => ?_) fun K hK => ?_
      ·refine goesB_ Try.func37 #[.int .u64 (IntKind.u64.wrap (a0_4))] ?_
       with_reducible refine (wide_Of.calls (IntKind.u64.wrap (a0_4)) t799 t800 _ A10.out).mono ?_
       rintro e w22 ⟨rfl, hb⟩
       refine ⟨_, rfl, ?_⟩
       replace BK795 := bb_ BK795 hb
       replace BK796 := bb_ BK796 hb
       replace HB := bs_ w hb
       clear hb
       refine hK.out _ _ (cc6_ BK795) (fun hHeld => ?_)
       clear hK K
       refine nm_ (some 30) ?_
       refine tw_ 13 17 (some 31) (some 5) (bl_ 20 16383) (bl_ 20 139263) HT_ (fun K hK => ?_) fun K hK => ?_
       ·refine goesB_ Try.func48 #[.agg #[.int .u64 t797, .int .u64 t798], .agg #[.int .u64 t799, .int .u64 t800]] ?_
        with_reducible refine (wide_Add.calls t797 t798 t799 t800 t801 t802 t803 _ A11.out).mono ?_
        rintro e w23 ⟨rfl, hb⟩
        refine ⟨_, rfl, ?_⟩
        replace BK795 := bb_ BK795 hb
        replace BK796 := bb_ BK796 hb
        replace HB := bs_ w hb
        clear hb
        refine hK.out _ _ (cc6_ BK795) (fun hHeld => ?_)
        clear hK K
        refine nm_ (some 31) ?_
        refine pa_ 14 (some 17) (bl_ 20 32767) HT_ ?_
        refine pa_ 15 (some 32) (bl_ 20 65535) HT_ ?_
        refine pa_ 16 (some 33) (bl_ 20 131071) HT_ ?_
        refine oa_ 17 (some 5) (bl_ 20 262143) HT_ fun K hK => ?_
        refine bs2_ #[.int .u64 0, .int .u64 0] 26 ?_
        intro gb804 hg w24 BK804 hb
        have GW804 := bz_ w hg
        have GE804 := GW804
        have NB795_804 := bn_ BK795 hg
        have NB804_795 := bm_ BK795 hg
        have NB796_804 := bn_ BK796 hg
        have NB804_796 := bm_ BK796 hg
        replace BK795 := bb_ BK795 hb
        replace BK796 := bb_ BK796 hb
        replace HB := bs_ w hb
        clear hb hg
        refine hK.out _ _ (cc6_ BK795) (fun hHeld => ?_)
        clear hK K
        refine nm_ (some 5) ?_
        exact no_ (hCont (gb804) _ ⟨hHeld, (bq_ BK795), (bq_ BK796), (bq_ BK804), GW804.out, GE804.out, NB795_804.out, NB804_795.out, NB796_804.out, NB804_796.out, bh_⟩)
       ·refine bs2_ #[.int .u64 0, .int .u64 0] 26 ?_
        intro gb804 hg w23 BK804 hb
        have GW804 := bz_ w hg
        have GE804 := GW804
        have NB795_804 := bn_ BK795 hg
        have NB804_795 := bm_ BK795 hg
        have NB796_804 := bn_ BK796 hg
        have NB804_796 := bm_ BK796 hg
        replace BK795 := bb_ BK795 hb
        replace BK796 := bb_ BK796 hb
        replace HB := bs_ w hb
        clear hb hg
        refine hK.out _ _ (cc6_ BK795) (fun hHeld => ?_)
        clear hK K
        refine nm_ (some 5) ?_
        refine oa_ 13 (some 31) (bl_ 20 147455) HT_ fun K hK => ?_
        refine goesB_ Try.func48 #[.agg #[.int .u64 t797, .int .u64 t798], .agg #[.int .u64 t799, .int .u64 t800]] ?_
        with_reducible refine (wide_Add.calls t797 t798 t799 t800 t801 t802 t803 _ A11.out).mono ?_
        rintro e w24 ⟨rfl, hb⟩
        refine ⟨_, rfl, ?_⟩
        replace BK795 := bb_ BK795 hb
        replace BK796 := bb_ BK796 hb
        replace BK804 := bb_ BK804 hb
        replace HB := bs_ w hb
        clear hb
        refine hK.out _ _ (cc6_ BK795) (fun hHeld => ?_)
        clear hK K
        refine nm_ (some 31) ?_
        refine pa_ 14 (some 17) (bl_ 20 163839) HT_ ?_
        refine pa_ 15 (some 32) (bl_ 20 196607) HT_ ?_
        refine pa_ 16 (some 33) (bl_ 20 262143) HT_ ?_
        exact no_ (hCont (gb804) _ ⟨hHeld, (bq_ BK795), (bq_ BK796), (bq_ BK804), GW804.out, GE804.out, NB795_804.out, NB804_795.out, NB796_804.out, NB804_796.out, bh_⟩)
      ·refine bs2_ #[.int .u64 0, .int .u64 0] 26 ?_
       intro gb804 hg w22 BK804 hb
       have GW804 := bz_ w hg
       have GE804 := GW804
       have NB795_804 := bn_ BK795 hg
       have NB804_795 := bm_ BK795 hg
       have NB796_804 := bn_ BK796 hg
       have NB804_796 := bm_ BK796 hg
       replace BK795 := bb_ BK795 hb
       replace BK796 := bb_ BK796 hb
       replace HB := bs_ w hb
       clear hb hg
       refine hK.out _ _ (cc6_ BK795) (fun hHeld => ?_)
       clear hK K
       refine nm_ (some 5) ?_
       refine oa_ 12 (some 30) (bl_ 20 139263) HT_ fun K hK => ?_
       refine goesB_ Try.func37 #[.int .u64 (IntKind.u64.wrap (a0_4))] ?_
       with_reducible refine (wide_Of.calls (IntKind.u64.wrap (a0_4)) t799 t800 _ A10.out).mono ?_
       rintro e w23 ⟨rfl, hb⟩
       refine ⟨_, rfl, ?_⟩
       replace BK795 := bb_ BK795 hb
       replace BK796 := bb_ BK796 hb
       replace BK804 := bb_ BK804 hb
       replace HB := bs_ w hb
       clear hb
       refine hK.out _ _ (cc6_ BK795) (fun hHeld => ?_)
       clear hK K
       refine nm_ (some 30) ?_
       refine oa_ 13 (some 31) (bl_ 20 147455) HT_ fun K hK => ?_
       refine goesB_ Try.func48 #[.agg #[.int .u64 t797, .int .u64 t798], .agg #[.int .u64 t799, .int .u64 t800]] ?_
       with_reducible refine (wide_Add.calls t797 t798 t799 t800 t801 t802 t803 _ A11.out).mono ?_
       rintro e w24 ⟨rfl, hb⟩
       refine ⟨_, rfl, ?_⟩
       replace BK795 := bb_ BK795 hb
       replace BK796 := bb_ BK796 hb
       replace BK804 := bb_ BK804 hb
       replace HB := bs_ w hb
       clear hb
       refine hK.out _ _ (cc6_ BK795) (fun hHeld => ?_)
       clear hK K
       refine nm_ (some 31) ?_
       refine pa_ 14 (some 17) (bl_ 20 163839) HT_ ?_
       refine pa_ 15 (some 32) (bl_ 20 196607) HT_ ?_
       refine pa_ 16 (some 33) (bl_ 20 262143) HT_ ?_
       exact no_ (hCont (gb804) _ ⟨hHeld, (bq_ BK795), (bq_ BK796), (bq_ BK804), GW804.out, GE804.out, NB795_804.out, NB804_795.out, NB796_804.out, NB804_796.out, bh_⟩)
     ·refine bs2_ #[.int .u64 0, .int .u64 0] 26 ?_
      intro gb804 hg w21 BK804 hb
      have GW804 := bz_ w hg
      have GE804 := GW804
      have NB795_804 := bn_ BK795 hg
      have NB804_795 := bm_ BK795 hg
      have NB796_804 := bn_ BK796 hg
      have NB804_796 := bm_ BK796 hg
      replace BK795 := bb_ BK795 hb
      replace BK796 := bb_ BK796 hb
      replace HB := bs_ w hb
      clear hb hg
      refine hK.out _ _ (cc6_ BK795) (fun hHeld => ?_)
      clear hK K
      refine nm_ (some 5) ?_
      refine oa_ 8 (some 26) (bl_ 20 135167) HT_ fun K hK => ?_
      refine goesB_ Try.func54 #[.int .u64 (IntKind.u64.wrap (a1 - a0_5)), .int .u64 (IntKind.u64.wrap (a0_1))] ?_
      with_reducible refine (wide_Mul.calls (IntKind.u64.wrap (a1 - a0_5)) (IntKind.u64.wrap (a0_1)) t797 t798 _ A9.out).mono ?_
      rintro e w22 ⟨rfl, hb⟩
      refine ⟨_, rfl, ?_⟩
      replace BK795 := bb_ BK795 hb
      replace BK796 := bb_ BK796 hb
      replace BK804 := bb_ BK804 hb
      replace HB := bs_ w hb
      clear hb
      refine hK.out _ _ (cc6_ BK795) (fun hHeld => ?_)
      clear hK K
      refine nm_ (some 26) ?_
      refine oa_ 12 (some 30) (bl_ 20 139263) HT_ fun K hK => ?_
      refine goesB_ Try.func37 #[.int .u64 (IntKind.u64.wrap (a0_4))] ?_
      with_reducible refine (wide_Of.calls (IntKind.u64.wrap (a0_4)) t799 t800 _ A10.out).mono ?_
      rintro e w23 ⟨rfl, hb⟩
      refine ⟨_, rfl, ?_⟩
      replace BK795 := bb_ BK795 hb
      replace BK796 := bb_ BK796 hb
      replace BK804 := bb_ BK804 hb
      replace HB := bs_ w hb
      clear hb
      refine hK.out _ _ (cc6_ BK795) (fun hHeld => ?_)
      clear hK K
      refine nm_ (some 30) ?_
      refine oa_ 13 (some 31) (bl_ 20 147455) HT_ fun K hK => ?_
      refine goesB_ Try.func48 #[.agg #[.int .u64 t797, .int .u64 t798], .agg #[.int .u64 t799, .int .u64 t800]] ?_
      with_reducible refine (wide_Add.calls t797 t798 t799 t800 t801 t802 t803 _ A11.out).mono ?_
      rintro e w24 ⟨rfl, hb⟩
      refine ⟨_, rfl, ?_⟩
      replace BK795 := bb_ BK795 hb
      replace BK796 := bb_ BK796 hb
      replace BK804 := bb_ BK804 hb
      replace HB := bs_ w hb
      clear hb
      refine hK.out _ _ (cc6_ BK795) (fun hHeld => ?_)
      clear hK K
      refine nm_ (some 31) ?_
      refine pa_ 14 (some 17) (bl_ 20 163839) HT_ ?_
      refine pa_ 15 (some 32) (bl_ 20 196607) HT_ ?_
      refine pa_ 16 (some 33) (bl_ 20 262143) HT_ ?_
      exact no_ (hCont (gb804) _ ⟨hHeld, (bq_ BK795), (bq_ BK796), (bq_ BK804), GW804.out, GE804.out, NB795_804.out, NB804_795.out, NB796_804.out, NB804_796.out, bh_⟩)
    rintro gb804 w25 ⟨hS_, h0_, h1_, h2_, h3_, h4_, h5_, h6_, h7_, h8_, h9_⟩
    have BK804 := Aside0.mk h2_
    have GW804 := Aside0.mk h3_
    have GE804 := Aside0.mk h4_
    have NB795_804 := Aside0.mk h5_
    have NB804_795 := Aside0.mk h6_
    have NB796_804 := Aside0.mk h7_
    have NB804_796 := Aside0.mk h8_
    replace BK795 := Aside0.mk h0_
    replace BK796 := Aside0.mk h1_
    replace HB := Aside0.mk h9_
    clear h0_ h1_ h2_ h3_ h4_ h5_ h6_ h7_ h8_ h9_
    have hHeld := hS_
    refine nq_ ?_
    refine oa_ 18 none (bl_ 20 524287) HT_ fun K hK => ?_
    have hs26 : w25.cell? ⟨gb804, 0, none⟩ = some (.int .u64 0) := (blk_cell BK804.out 0).trans rfl
    have hfs26 := blk_frozen BK804.out 0
    have hns26_0 := NB795_804.out
    have hns26_1 := NB796_804.out
    have hms26_0 := NB804_795.out
    have hms26_1 := NB804_796.out
    have hs27 : w25.cell? ⟨gb804, 1, none⟩ = some (.int .u64 0) := (blk_cell BK804.out 1).trans rfl
    have hfs27 := blk_frozen BK804.out 1
    have hns27_0 := NB795_804.out
    have hns27_1 := NB796_804.out
    have hms27_0 := NB804_795.out
    have hms27_1 := NB804_796.out
    refine sk_ ?_
    refine hK.out _ _ (cf6_ hHeld) (fun hHeld => ?_)
    clear hK K
    refine pa_ 19 (some 6) (bl_ 20 1048575) HT_ ?_
    refine done_ (done_of HT_.out (by kernel_rfl)) ?_
    have hnb28 := NB804_795.out
    have hnc28 := NB795_804.out
    have hnb29 := NB804_796.out
    have hnc29 := NB796_804.out
    obtain ⟨_, _, _, _⟩ := ce2_ BK804
    obtain ⟨_, _, _, _, _, _, _, _, _, _, _, _⟩ := ce6_ BK795
    try go_wp2_with (first | ((with_reducible refine gate_callee (f := 60) rfl ?_); refine goesA_ (some 40) Try.func60 #[.agg #[.int .u64 t801, .int .u64 t802], .int .u64 (IntKind.u64.wrap (a0_2))] ?_; (with_reducible refine (wide_Div.calls k t801 t802 (IntKind.u64.wrap (a0_2)) t805 t806 t807 t808 _ A12.out).mono ?_); rintro e w32 ⟨rfl, hb⟩; refine ⟨_, rfl, ?_⟩; replace BK795 := bf_ BK795 hb; replace BK796 := bf_ BK796 hb; replace BK804 := Aside0.mk (blk_below (g := gb804) (o := .cells #[.int .u64 t801, .int .u64 t802] 26 (0, 0)) (bp2_ (bq_ BK804)) hb); replace HB := bs_ w hb; clear hb) | ((with_reducible refine gate_dst (N := 7) rfl ?_); refine bx_ #[.int .u64 0, .int .u64 0] 26 ?_; intro gb809 hg w33 BK809 hb; have GW809 := bz_ w hg; have GE809 := GW809; have NB795_809 := bn_ BK795 hg; have NB809_795 := bm_ BK795 hg; have NB796_809 := bn_ BK796 hg; have NB809_796 := bm_ BK796 hg; have NB804_809 := bn_ BK804 hg; have NB809_804 := bm_ BK804 hg; replace BK795 := bb_ BK795 hb; replace BK796 := bb_ BK796 hb; replace BK804 := bb_ BK804 hb; replace HB := bs_ w hb; clear hb hg; have hnb34 := NB809_795.out; have hnc34 := NB795_809.out; have hnb35 := NB809_796.out; have hnc35 := NB796_809.out; have hnb36 := NB809_804.out; have hnc36 := NB804_809.out; obtain ⟨_, _, _, _⟩ := ce2_ BK809; obtain ⟨_, _, _, _, _, _, _, _, _, _, _, _⟩ := ce6_ BK795) | ((with_reducible refine gate_callee (f := 55) rfl ?_); refine goesA_ (some 48) Try.func55 #[.agg #[.int .u64 t805, .int .u64 t806]] ?_; (with_reducible refine (wide_Small.calls t805 t806 t810 t811 _ A13.out).mono ?_); rintro e w39 ⟨rfl, hb⟩; refine ⟨_, rfl, ?_⟩; replace BK795 := Aside0.mk (blk_below (g := gb795) (o := .cells #[.int .i64 a0_0, .int .i64 a0_1, .int .i64 a0_2, .int .i64 a0_3, .int .i64 a0_4, .int .u64 a1] 30 (0, 0)) (blk_put (cs := #[.int .i64 a0_0, .int .i64 a0_1, .int .i64 a0_2, .int .i64 a0_3, .int .i64 a0_4, .int .u64 a0_5]) (bt_ BK795) 5 _ rfl) hb); replace BK796 := bf_ BK796 hb; replace BK804 := bf_ BK804 hb; replace BK809 := Aside0.mk (blk_below (g := gb809) (o := .cells #[.int .u64 t805, .int .u64 t806] 26 (0, 0)) (blk_far (bp2_ (bq_ BK809)) NB809_795.out _) hb); replace HB := bs_ w hb; clear hb; obtain ⟨_, _, _, _, _, _, _, _, _, _, _, _⟩ := ce6_ BK795; obtain ⟨_, _, _, _, _, _, _, _, _, _, _, _⟩ := ce6_ BK796))
    refine bodyPost_ret (results_cell_row rfl _ _ gb796 30 #[.int .i64 a0_0, .int .i64 a0_1, .int .i64 a0_2, .int .i64 a0_0, .int .i64 0, .int .u64 a1] (0, 0) _ rfl (blk_put (cs := #[.int .i64 a0_0, .int .i64 a0_1, .int .i64 a0_2, .int .i64 a0_0, .int .i64 0, .int .u64 0]) (blk_put (cs := #[.int .i64 a0_0, .int .i64 a0_1, .int .i64 a0_2, .int .i64 a0_0, .int .i64 0, .int .u64 0]) (blk_put (cs := #[.int .i64 a0_0, .int .i64 a0_1, .int .i64 a0_2, .int .i64 0, .int .i64 0, .int .u64 0]) (blk_put (cs := #[.int .i64 a0_0, .int .i64 a0_1, .int .i64 0, .int .i64 0, .int .i64 0, .int .u64 0]) (blk_put (cs := #[.int .i64 a0_0, .int .i64 0, .int .i64 0, .int .i64 0, .int .i64 0, .int .u64 0]) (blk_put (cs := #[.int .i64 0, .int .i64 0, .int .i64 0, .int .i64 0, .int .i64 0, .int .u64 0]) (bt_ BK796) 0 _ rfl) 1 _ rfl) 2 _ rfl) 3 _ rfl) 4 _ rfl) 5 _ rfl) Try.underlying30 rfl (by kernel_rfl)) rfl ?_
    exact fi_
   ·rw [if_neg c15] at H
    have c15b0 : decide ((IntKind.u64.wrap (wrap64 (a0_0 - a0_3))) ≤ t810) = false := decide_eq_false c15
    clear c15
    simp only [Option.some.injEq, Prod.mk.injEq] at H
    obtain ⟨rfl, rfl, rfl, rfl, rfl, rfl⟩ := H
    go_enter Try.func53, Try.ntmps53
    try go_wp2_with (first | ((with_reducible refine gate_dst (N := 2) rfl ?_); refine bx_ #[.int .i64 a0_0, .int .i64 a0_1, .int .i64 a0_2, .int .i64 a0_3, .int .i64 a0_4, .int .u64 a0_5] 30 ?_; intro gb795 hg w42 BK795 hb; have GW795 := bz_ w hg; have GE795 := GW795; replace HB := bs_ w hb; clear hb hg) | ((with_reducible refine gate_dst (N := 4) rfl ?_); refine bx_ #[.int .i64 0, .int .i64 0, .int .i64 0, .int .i64 0, .int .i64 0, .int .u64 0] 30 ?_; intro gb796 hg w43 BK796 hb; have GW796 := bz_ w hg; have GE796 := GW796; have NB795_796 := bn_ BK795 hg; have NB796_795 := bm_ BK795 hg; replace BK795 := bb_ BK795 hb; replace HB := bs_ w hb; clear hb hg; have hnb44 := NB795_796.out; have hnc44 := NB796_795.out; obtain ⟨_, _, _, _, _, _, _, _, _, _, _, _⟩ := ce6_ BK795))
    replace BK795 := Aside0.mk (blk_drew BK795.out)
    replace BK796 := Aside0.mk (blk_drew BK796.out)
    replace HB := Aside0.mk (below_drew1 HB.out)
    refine start_ (n := 20) (S := fun w' => w'.cell? ⟨gb795, 0, none⟩ = some (.int .i64 a0_0) ∧ w'.cell? ⟨gb795, 1, none⟩ = some (.int .i64 a0_1) ∧ w'.cell? ⟨gb795, 2, none⟩ = some (.int .i64 a0_2) ∧ w'.cell? ⟨gb795, 3, none⟩ = some (.int .i64 a0_3) ∧ w'.cell? ⟨gb795, 4, none⟩ = some (.int .i64 a0_4) ∧ w'.cell? ⟨gb795, 5, none⟩ = some (.int .u64 a0_5)) (ds := []) (bl_ 20 0) (by kernel_rfl) rfl (by kernel_rfl) (cc6_ BK795) (fun hHeld => ?_); refine with_tabW bucket_fill.tab3 bucket_fill.bits3 (fun HT_ HW_ => ?_)
    generalize w43.drew = w46 at BK795 BK796 HB hHeld ⊢
    refine pa_ 0 (some 18) (bl_ 20 1) HT_ ?_
    refine pa_ 1 (some 19) (bl_ 20 3) HT_ ?_
    refine pa_ 4 (some 22) (bl_ 20 19) HT_ ?_
    refine pa_ 5 (some 23) (bl_ 20 51) HT_ ?_
    refine pa_ 9 (some 27) (bl_ 20 563) HT_ ?_
    refine ta_ 2 (some 20) (bl_ 20 567) HT_ HW_ hHeld ?_
    refine pa_ 3 (some 21) (bl_ 20 575) HT_ ?_
    refine ta_ 6 (some 24) (bl_ 20 639) HT_ HW_ hHeld ?_
    refine pa_ 7 (some 25) (bl_ 20 767) HT_ ?_
    refine ta_ 10 (some 28) (bl_ 20 1791) HT_ HW_ hHeld ?_
    refine pa_ 11 (some 29) (bl_ 20 3839) HT_ ?_
    refine join_ (σ := Nat) 2 (bl_ 20 262143) (fun s_ => [(26, .agg #[.int .u64 t797, .int .u64 t798]), (30, .agg #[.int .u64 t799, .int .u64 t800]), (31, .tuple #[.agg #[.int .u64 t801, .int .u64 t802], .int .i64 t803]), (5, .pointer (some ⟨s_, 0, none⟩)), (17, .tuple #[.agg #[.int .u64 t801, .int .u64 t802], .int .i64 t803]), (32, .agg #[.int .u64 t801, .int .u64 t802]), (33, .int .i64 t803)]) (fun s_ w' => (w'.cell? ⟨gb795, 0, none⟩ = some (.int .i64 a0_0) ∧ w'.cell? ⟨gb795, 1, none⟩ = some (.int .i64 a0_1) ∧ w'.cell? ⟨gb795, 2, none⟩ = some (.int .i64 a0_2) ∧ w'.cell? ⟨gb795, 3, none⟩ = some (.int .i64 a0_3) ∧ w'.cell? ⟨gb795, 4, none⟩ = some (.int .i64 a0_4) ∧ w'.cell? ⟨gb795, 5, none⟩ = some (.int .u64 a0_5)) ∧ (w'.heap[gb795]? = some (.cells #[.int .i64 a0_0, .int .i64 a0_1, .int .i64 a0_2, .int .i64 a0_3, .int .i64 a0_4, .int .u64 a0_5] 30 (0, 0))) ∧ (w'.heap[gb796]? = some (.cells #[.int .i64 0, .int .i64 0, .int .i64 0, .int .i64 0, .int .i64 0, .int .u64 0] 30 (0, 0))) ∧ (w'.heap[s_]? = some (.cells #[.int .u64 0, .int .u64 0] 26 (0, 0))) ∧ (w.heap.size ≤ s_) ∧ (w.heap.size ≤ s_) ∧ (gb795 ≠ s_) ∧ (s_ ≠ gb795) ∧ (gb796 ≠ s_) ∧ (s_ ≠ gb796) ∧ (Below w.heap.size w w')) ?_ ?_
    rotate_left
    ·intro hCont
     refine tw_ 8 17 (some 26) (some 5) (bl_ 20 4095) (bl_ 20 134911) HT_ (fun K hK => ?_) fun K hK => ?_
     ·refine goesB_ Try.func54 #[.int .u64 (IntKind.u64.wrap (a1 - a0_5)), .int .u64 (IntKind.u64.wrap (a0_1))] ?_
      with_reducible refine (wide_Mul.calls (IntKind.u64.wrap (a1 - a0_5)) (IntKind.u64.wrap (a0_1)) t797 t798 _ A9.out).mono ?_
      rintro e w47 ⟨rfl, hb⟩
      refine ⟨_, rfl, ?_⟩
      replace BK795 := bb_ BK795 hb
      replace BK796 := bb_ BK796 hb
      replace HB := bs_ w hb
      clear hb
      refine hK.out _ _ (cc6_ BK795) (fun hHeld => ?_)
      clear hK K
      refine nm_ (some 26) ?_
      refine tw_ 12 17 (some 30) (some 5) (bl_ 20 8191) (bl_ 20 135167) HT_ (fun K hK => ?_) fun K hK => ?_
      ·refine goesB_ Try.func37 #[.int .u64 (IntKind.u64.wrap (a0_4))] ?_
       with_reducible refine (wide_Of.calls (IntKind.u64.wrap (a0_4)) t799 t800 _ A10.out).mono ?_
       rintro e w48 ⟨rfl, hb⟩
       refine ⟨_, rfl, ?_⟩
       replace BK795 := bb_ BK795 hb
       replace BK796 := bb_ BK796 hb
       replace HB := bs_ w hb
       clear hb
       refine hK.out _ _ (cc6_ BK795) (fun hHeld => ?_)
       clear hK K
       refine nm_ (some 30) ?_
       refine tw_ 13 17 (some 31) (some 5) (bl_ 20 16383) (bl_ 20 139263) HT_ (fun K hK => ?_) fun K hK => ?_
       ·refine goesB_ Try.func48 #[.agg #[.int .u64 t797, .int .u64 t798], .agg #[.int .u64 t799, .int .u64 t800]] ?_
        with_reducible refine (wide_Add.calls t797 t798 t799 t800 t801 t802 t803 _ A11.out).mono ?_
        rintro e w49 ⟨rfl, hb⟩
        refine ⟨_, rfl, ?_⟩
        replace BK795 := bb_ BK795 hb
        replace BK796 := bb_ BK796 hb
        replace HB := bs_ w hb
        clear hb
        refine hK.out _ _ (cc6_ BK795) (fun hHeld => ?_)
        clear hK K
        refine nm_ (some 31) ?_
        refine pa_ 14 (some 17) (bl_ 20 32767) HT_ ?_
        refine pa_ 15 (some 32) (bl_ 20 65535) HT_ ?_
        refine pa_ 16 (some 33) (bl_ 20 131071) HT_ ?_
        refine oa_ 17 (some 5) (bl_ 20 262143) HT_ fun K hK => ?_
        refine bs2_ #[.int .u64 0, .int .u64 0] 26 ?_
        intro gb804 hg w50 BK804 hb
        have GW804 := bz_ w hg
        have GE804 := GW804
        have NB795_804 := bn_ BK795 hg
        have NB804_795 := bm_ BK795 hg
        have NB796_804 := bn_ BK796 hg
        have NB804_796 := bm_ BK796 hg
        replace BK795 := bb_ BK795 hb
        replace BK796 := bb_ BK796 hb
        replace HB := bs_ w hb
        clear hb hg
        refine hK.out _ _ (cc6_ BK795) (fun hHeld => ?_)
        clear hK K
        refine nm_ (some 5) ?_
        exact no_ (hCont (gb804) _ ⟨hHeld, (bq_ BK795), (bq_ BK796), (bq_ BK804), GW804.out, GE804.out, NB795_804.out, NB804_795.out, NB796_804.out, NB804_796.out, bh_⟩)
       ·refine bs2_ #[.int .u64 0, .int .u64 0] 26 ?_
        intro gb804 hg w49 BK804 hb
        have GW804 := bz_ w hg
        have GE804 := GW804
        have NB795_804 := bn_ BK795 hg
        have NB804_795 := bm_ BK795 hg
        have NB796_804 := bn_ BK796 hg
        have NB804_796 := bm_ BK796 hg
        replace BK795 := bb_ BK795 hb
        replace BK796 := bb_ BK796 hb
        replace HB := bs_ w hb
        clear hb hg
        refine hK.out _ _ (cc6_ BK795) (fun hHeld => ?_)
        clear hK K
        refine nm_ (some 5) ?_
        refine oa_ 13 (some 31) (bl_ 20 147455) HT_ fun K hK => ?_
        refine goesB_ Try.func48 #[.agg #[.int .u64 t797, .int .u64 t798], .agg #[.int .u64 t799, .int .u64 t800]] ?_
        with_reducible refine (wide_Add.calls t797 t798 t799 t800 t801 t802 t803 _ A11.out).mono ?_
        rintro e w50 ⟨rfl, hb⟩
        refine ⟨_, rfl, ?_⟩
        replace BK795 := bb_ BK795 hb
        replace BK796 := bb_ BK796 hb
        replace BK804 := bb_ BK804 hb
        replace HB := bs_ w hb
        clear hb
        refine hK.out _ _ (cc6_ BK795) (fun hHeld => ?_)
        clear hK K
        refine nm_ (some 31) ?_
        refine pa_ 14 (some 17) (bl_ 20 163839) HT_ ?_
        refine pa_ 15 (some 32) (bl_ 20 196607) HT_ ?_
        refine pa_ 16 (some 33) (bl_ 20 262143) HT_ ?_
        exact no_ (hCont (gb804) _ ⟨hHeld, (bq_ BK795), (bq_ BK796), (bq_ BK804), GW804.out, GE804.out, NB795_804.out, NB804_795.out, NB796_804.out, NB804_796.out, bh_⟩)
      ·refine bs2_ #[.int .u64 0, .int .u64 0] 26 ?_
       intro gb804 hg w48 BK804 hb
       have GW804 := bz_ w hg
       have GE804 := GW804
       have NB795_804 := bn_ BK795 hg
       have NB804_795 := bm_ BK795 hg
       have NB796_804 := bn_ BK796 hg
       have NB804_796 := bm_ BK796 hg
       replace BK795 := bb_ BK795 hb
       replace BK796 := bb_ BK796 hb
       replace HB := bs_ w hb
       clear hb hg
       refine hK.out _ _ (cc6_ BK795) (fun hHeld => ?_)
       clear hK K
       refine nm_ (some 5) ?_
       refine oa_ 12 (some 30) (bl_ 20 139263) HT_ fun K hK => ?_
       refine goesB_ Try.func37 #[.int .u64 (IntKind.u64.wrap (a0_4))] ?_
       with_reducible refine (wide_Of.calls (IntKind.u64.wrap (a0_4)) t799 t800 _ A10.out).mono ?_
       rintro e w49 ⟨rfl, hb⟩
       refine ⟨_, rfl, ?_⟩
       replace BK795 := bb_ BK795 hb
       replace BK796 := bb_ BK796 hb
       replace BK804 := bb_ BK804 hb
       replace HB := bs_ w hb
       clear hb
       refine hK.out _ _ (cc6_ BK795) (fun hHeld => ?_)
       clear hK K
       refine nm_ (some 30) ?_
       refine oa_ 13 (some 31) (bl_ 20 147455) HT_ fun K hK => ?_
       refine goesB_ Try.func48 #[.agg #[.int .u64 t797, .int .u64 t798], .agg #[.int .u64 t799, .int .u64 t800]] ?_
       with_reducible refine (wide_Add.calls t797 t798 t799 t800 t801 t802 t803 _ A11.out).mono ?_
       rintro e w50 ⟨rfl, hb⟩
       refine ⟨_, rfl, ?_⟩
       replace BK795 := bb_ BK795 hb
       replace BK796 := bb_ BK796 hb
       replace BK804 := bb_ BK804 hb
       replace HB := bs_ w hb
       clear hb
       refine hK.out _ _ (cc6_ BK795) (fun hHeld => ?_)
       clear hK K
       refine nm_ (some 31) ?_
       refine pa_ 14 (some 17) (bl_ 20 163839) HT_ ?_
       refine pa_ 15 (some 32) (bl_ 20 196607) HT_ ?_
       refine pa_ 16 (some 33) (bl_ 20 262143) HT_ ?_
       exact no_ (hCont (gb804) _ ⟨hHeld, (bq_ BK795), (bq_ BK796), (bq_ BK804), GW804.out, GE804.out, NB795_804.out, NB804_795.out, NB796_804.out, NB804_796.out, bh_⟩)
     ·refine bs2_ #[.int .u64 0, .int .u64 0] 26 ?_
      intro gb804 hg w47 BK804 hb
      have GW804 := bz_ w hg
      have GE804 := GW804
      have NB795_804 := bn_ BK795 hg
      have NB804_795 := bm_ BK795 hg
      have NB796_804 := bn_ BK796 hg
      have NB804_796 := bm_ BK796 hg
      replace BK795 := bb_ BK795 hb
      replace BK796 := bb_ BK796 hb
      replace HB := bs_ w hb
      clear hb hg
      refine hK.out _ _ (cc6_ BK795) (fun hHeld => ?_)
      clear hK K
      refine nm_ (some 5) ?_
      refine oa_ 8 (some 26) (bl_ 20 135167) HT_ fun K hK => ?_
      refine goesB_ Try.func54 #[.int .u64 (IntKind.u64.wrap (a1 - a0_5)), .int .u64 (IntKind.u64.wrap (a0_1))] ?_
      with_reducible refine (wide_Mul.calls (IntKind.u64.wrap (a1 - a0_5)) (IntKind.u64.wrap (a0_1)) t797 t798 _ A9.out).mono ?_
      rintro e w48 ⟨rfl, hb⟩
      refine ⟨_, rfl, ?_⟩
      replace BK795 := bb_ BK795 hb
      replace BK796 := bb_ BK796 hb
      replace BK804 := bb_ BK804 hb
      replace HB := bs_ w hb
      clear hb
      refine hK.out _ _ (cc6_ BK795) (fun hHeld => ?_)
      clear hK K
      refine nm_ (some 26) ?_
      refine oa_ 12 (some 30) (bl_ 20 139263) HT_ fun K hK => ?_
      refine goesB_ Try.func37 #[.int .u64 (IntKind.u64.wrap (a0_4))] ?_
      with_reducible refine (wide_Of.calls (IntKind.u64.wrap (a0_4)) t799 t800 _ A10.out).mono ?_
      rintro e w49 ⟨rfl, hb⟩
      refine ⟨_, rfl, ?_⟩
      replace BK795 := bb_ BK795 hb
      replace BK796 := bb_ BK796 hb
      replace BK804 := bb_ BK804 hb
      replace HB := bs_ w hb
      clear hb
      refine hK.out _ _ (cc6_ BK795) (fun hHeld => ?_)
      clear hK K
      refine nm_ (some 30) ?_
      refine oa_ 13 (some 31) (bl_ 20 147455) HT_ fun K hK => ?_
      refine goesB_ Try.func48 #[.agg #[.int .u64 t797, .int .u64 t798], .agg #[.int .u64 t799, .int .u64 t800]] ?_
      with_reducible refine (wide_Add.calls t797 t798 t799 t800 t801 t802 t803 _ A11.out).mono ?_
      rintro e w50 ⟨rfl, hb⟩
      refine ⟨_, rfl, ?_⟩
      replace BK795 := bb_ BK795 hb
      replace BK796 := bb_ BK796 hb
      replace BK804 := bb_ BK804 hb
      replace HB := bs_ w hb
      clear hb
      refine hK.out _ _ (cc6_ BK795) (fun hHeld => ?_)
      clear hK K
      refine nm_ (some 31) ?_
      refine pa_ 14 (some 17) (bl_ 20 163839) HT_ ?_
      refine pa_ 15 (some 32) (bl_ 20 196607) HT_ ?_
      refine pa_ 16 (some 33) (bl_ 20 262143) HT_ ?_
      exact no_ (hCont (gb804) _ ⟨hHeld, (bq_ BK795), (bq_ BK796), (bq_ BK804), GW804.out, GE804.out, NB795_804.out, NB804_795.out, NB796_804.out, NB804_796.out, bh_⟩)
    rintro gb804 w51 ⟨hS_, h0_, h1_, h2_, h3_, h4_, h5_, h6_, h7_, h8_, h9_⟩
    have BK804 := Aside0.mk h2_
    have GW804 := Aside0.mk h3_
    have GE804 := Aside0.mk h4_
    have NB795_804 := Aside0.mk h5_
    have NB804_795 := Aside0.mk h6_
    have NB796_804 := Aside0.mk h7_
    have NB804_796 := Aside0.mk h8_
    replace BK795 := Aside0.mk h0_
    replace BK796 := Aside0.mk h1_
    replace HB := Aside0.mk h9_
    clear h0_ h1_ h2_ h3_ h4_ h5_ h6_ h7_ h8_ h9_
    have hHeld := hS_
    refine nq_ ?_
    refine oa_ 18 none (bl_ 20 524287) HT_ fun K hK => ?_
    have hs52 : w51.cell? ⟨gb804, 0, none⟩ = some (.int .u64 0) := (blk_cell BK804.out 0).trans rfl
    have hfs52 := blk_frozen BK804.out 0
    have hns52_0 := NB795_804.out
    have hns52_1 := NB796_804.out
    have hms52_0 := NB804_795.out
    have hms52_1 := NB804_796.out
    have hs53 : w51.cell? ⟨gb804, 1, none⟩ = some (.int .u64 0) := (blk_cell BK804.out 1).trans rfl
    have hfs53 := blk_frozen BK804.out 1
    have hns53_0 := NB795_804.out
    have hns53_1 := NB796_804.out
    have hms53_0 := NB804_795.out
    have hms53_1 := NB804_796.out
    refine sk_ ?_
    refine hK.out _ _ (cf6_ hHeld) (fun hHeld => ?_)
    clear hK K
    refine pa_ 19 (some 6) (bl_ 20 1048575) HT_ ?_
    refine done_ (done_of HT_.out (by kernel_rfl)) ?_
    have hnb54 := NB804_795.out
    have hnc54 := NB795_804.out
    have hnb55 := NB804_796.out
    have hnc55 := NB796_804.out
    obtain ⟨_, _, _, _⟩ := ce2_ BK804
    obtain ⟨_, _, _, _, _, _, _, _, _, _, _, _⟩ := ce6_ BK795
    try go_wp2_with (first | ((with_reducible refine gate_callee (f := 60) rfl ?_); refine goesA_ (some 40) Try.func60 #[.agg #[.int .u64 t801, .int .u64 t802], .int .u64 (IntKind.u64.wrap (a0_2))] ?_; (with_reducible refine (wide_Div.calls k t801 t802 (IntKind.u64.wrap (a0_2)) t805 t806 t807 t808 _ A12.out).mono ?_); rintro e w58 ⟨rfl, hb⟩; refine ⟨_, rfl, ?_⟩; replace BK795 := bf_ BK795 hb; replace BK796 := bf_ BK796 hb; replace BK804 := Aside0.mk (blk_below (g := gb804) (o := .cells #[.int .u64 t801, .int .u64 t802] 26 (0, 0)) (bp2_ (bq_ BK804)) hb); replace HB := bs_ w hb; clear hb) | ((with_reducible refine gate_dst (N := 7) rfl ?_); refine bx_ #[.int .u64 0, .int .u64 0] 26 ?_; intro gb809 hg w59 BK809 hb; have GW809 := bz_ w hg; have GE809 := GW809; have NB795_809 := bn_ BK795 hg; have NB809_795 := bm_ BK795 hg; have NB796_809 := bn_ BK796 hg; have NB809_796 := bm_ BK796 hg; have NB804_809 := bn_ BK804 hg; have NB809_804 := bm_ BK804 hg; replace BK795 := bb_ BK795 hb; replace BK796 := bb_ BK796 hb; replace BK804 := bb_ BK804 hb; replace HB := bs_ w hb; clear hb hg; have hnb60 := NB809_795.out; have hnc60 := NB795_809.out; have hnb61 := NB809_796.out; have hnc61 := NB796_809.out; have hnb62 := NB809_804.out; have hnc62 := NB804_809.out; obtain ⟨_, _, _, _⟩ := ce2_ BK809; obtain ⟨_, _, _, _, _, _, _, _, _, _, _, _⟩ := ce6_ BK795) | ((with_reducible refine gate_callee (f := 55) rfl ?_); refine goesA_ (some 48) Try.func55 #[.agg #[.int .u64 t805, .int .u64 t806]] ?_; (with_reducible refine (wide_Small.calls t805 t806 t810 t811 _ A13.out).mono ?_); rintro e w65 ⟨rfl, hb⟩; refine ⟨_, rfl, ?_⟩; replace BK795 := Aside0.mk (blk_below (g := gb795) (o := .cells #[.int .i64 a0_0, .int .i64 a0_1, .int .i64 a0_2, .int .i64 a0_3, .int .i64 a0_4, .int .u64 a1] 30 (0, 0)) (blk_put (cs := #[.int .i64 a0_0, .int .i64 a0_1, .int .i64 a0_2, .int .i64 a0_3, .int .i64 a0_4, .int .u64 a0_5]) (bt_ BK795) 5 _ rfl) hb); replace BK796 := bf_ BK796 hb; replace BK804 := bf_ BK804 hb; replace BK809 := Aside0.mk (blk_below (g := gb809) (o := .cells #[.int .u64 t805, .int .u64 t806] 26 (0, 0)) (blk_far (bp2_ (bq_ BK809)) NB809_795.out _) hb); replace HB := bs_ w hb; clear hb; obtain ⟨_, _, _, _, _, _, _, _, _, _, _, _⟩ := ce6_ BK795; obtain ⟨_, _, _, _, _, _, _, _, _, _, _, _⟩ := ce6_ BK796))
    refine bodyPost_ret (results_cell_row rfl _ _ gb796 30 #[.int .i64 a0_0, .int .i64 a0_1, .int .i64 a0_2, .int .i64 (wrap64 (a0_3 + (wrap64 (t810)))), .int .i64 (wrap64 (t807)), .int .u64 a1] (0, 0) _ rfl (blk_put (cs := #[.int .i64 a0_0, .int .i64 a0_1, .int .i64 a0_2, .int .i64 (wrap64 (a0_3 + (wrap64 (t810)))), .int .i64 (wrap64 (t807)), .int .u64 0]) (blk_put (cs := #[.int .i64 a0_0, .int .i64 a0_1, .int .i64 a0_2, .int .i64 (wrap64 (a0_3 + (wrap64 (t810)))), .int .i64 0, .int .u64 0]) (blk_put (cs := #[.int .i64 a0_0, .int .i64 a0_1, .int .i64 a0_2, .int .i64 0, .int .i64 0, .int .u64 0]) (blk_put (cs := #[.int .i64 a0_0, .int .i64 a0_1, .int .i64 0, .int .i64 0, .int .i64 0, .int .u64 0]) (blk_put (cs := #[.int .i64 a0_0, .int .i64 0, .int .i64 0, .int .i64 0, .int .i64 0, .int .u64 0]) (blk_put (cs := #[.int .i64 0, .int .i64 0, .int .i64 0, .int .i64 0, .int .i64 0, .int .u64 0]) (bt_ BK796) 0 _ rfl) 1 _ rfl) 2 _ rfl) 3 _ rfl) 4 _ rfl) 5 _ rfl) Try.underlying30 rfl (by kernel_rfl)) rfl ?_
    exact fi_
  ·rw [if_neg c14] at H
   have c14b0 : (t811 == 0) = false := beq_eq_false_iff_ne.mpr c14
   have c14b1 : (t811 != 0) = true := bne_iff_ne.mpr c14
   simp only [Option.some.injEq, Prod.mk.injEq] at H
   obtain ⟨rfl, rfl, rfl, rfl, rfl, rfl⟩ := H
   go_enter Try.func53, Try.ntmps53
   try go_wp2_with (first | ((with_reducible refine gate_dst (N := 2) rfl ?_); refine bx_ #[.int .i64 a0_0, .int .i64 a0_1, .int .i64 a0_2, .int .i64 a0_3, .int .i64 a0_4, .int .u64 a0_5] 30 ?_; intro gb795 hg w68 BK795 hb; have GW795 := bz_ w hg; have GE795 := GW795; replace HB := bs_ w hb; clear hb hg) | ((with_reducible refine gate_dst (N := 4) rfl ?_); refine bx_ #[.int .i64 0, .int .i64 0, .int .i64 0, .int .i64 0, .int .i64 0, .int .u64 0] 30 ?_; intro gb796 hg w69 BK796 hb; have GW796 := bz_ w hg; have GE796 := GW796; have NB795_796 := bn_ BK795 hg; have NB796_795 := bm_ BK795 hg; replace BK795 := bb_ BK795 hb; replace HB := bs_ w hb; clear hb hg; have hnb70 := NB795_796.out; have hnc70 := NB796_795.out; obtain ⟨_, _, _, _, _, _, _, _, _, _, _, _⟩ := ce6_ BK795))
   replace BK795 := Aside0.mk (blk_drew BK795.out)
   replace BK796 := Aside0.mk (blk_drew BK796.out)
   replace HB := Aside0.mk (below_drew1 HB.out)
   refine start_ (n := 20) (S := fun w' => w'.cell? ⟨gb795, 0, none⟩ = some (.int .i64 a0_0) ∧ w'.cell? ⟨gb795, 1, none⟩ = some (.int .i64 a0_1) ∧ w'.cell? ⟨gb795, 2, none⟩ = some (.int .i64 a0_2) ∧ w'.cell? ⟨gb795, 3, none⟩ = some (.int .i64 a0_3) ∧ w'.cell? ⟨gb795, 4, none⟩ = some (.int .i64 a0_4) ∧ w'.cell? ⟨gb795, 5, none⟩ = some (.int .u64 a0_5)) (ds := []) (bl_ 20 0) (by kernel_rfl) rfl (by kernel_rfl) (cc6_ BK795) (fun hHeld => ?_); refine with_tabW bucket_fill.tab3 bucket_fill.bits3 (fun HT_ HW_ => ?_)
   generalize w69.drew = w72 at BK795 BK796 HB hHeld ⊢
   refine pa_ 0 (some 18) (bl_ 20 1) HT_ ?_
   refine pa_ 1 (some 19) (bl_ 20 3) HT_ ?_
   refine pa_ 4 (some 22) (bl_ 20 19) HT_ ?_
   refine pa_ 5 (some 23) (bl_ 20 51) HT_ ?_
   refine pa_ 9 (some 27) (bl_ 20 563) HT_ ?_
   refine ta_ 2 (some 20) (bl_ 20 567) HT_ HW_ hHeld ?_
   refine pa_ 3 (some 21) (bl_ 20 575) HT_ ?_
   refine ta_ 6 (some 24) (bl_ 20 639) HT_ HW_ hHeld ?_
   refine pa_ 7 (some 25) (bl_ 20 767) HT_ ?_
   refine ta_ 10 (some 28) (bl_ 20 1791) HT_ HW_ hHeld ?_
   refine pa_ 11 (some 29) (bl_ 20 3839) HT_ ?_
   refine join_ (σ := Nat) 2 (bl_ 20 262143) (fun s_ => [(26, .agg #[.int .u64 t797, .int .u64 t798]), (30, .agg #[.int .u64 t799, .int .u64 t800]), (31, .tuple #[.agg #[.int .u64 t801, .int .u64 t802], .int .i64 t803]), (5, .pointer (some ⟨s_, 0, none⟩)), (17, .tuple #[.agg #[.int .u64 t801, .int .u64 t802], .int .i64 t803]), (32, .agg #[.int .u64 t801, .int .u64 t802]), (33, .int .i64 t803)]) (fun s_ w' => (w'.cell? ⟨gb795, 0, none⟩ = some (.int .i64 a0_0) ∧ w'.cell? ⟨gb795, 1, none⟩ = some (.int .i64 a0_1) ∧ w'.cell? ⟨gb795, 2, none⟩ = some (.int .i64 a0_2) ∧ w'.cell? ⟨gb795, 3, none⟩ = some (.int .i64 a0_3) ∧ w'.cell? ⟨gb795, 4, none⟩ = some (.int .i64 a0_4) ∧ w'.cell? ⟨gb795, 5, none⟩ = some (.int .u64 a0_5)) ∧ (w'.heap[gb795]? = some (.cells #[.int .i64 a0_0, .int .i64 a0_1, .int .i64 a0_2, .int .i64 a0_3, .int .i64 a0_4, .int .u64 a0_5] 30 (0, 0))) ∧ (w'.heap[gb796]? = some (.cells #[.int .i64 0, .int .i64 0, .int .i64 0, .int .i64 0, .int .i64 0, .int .u64 0] 30 (0, 0))) ∧ (w'.heap[s_]? = some (.cells #[.int .u64 0, .int .u64 0] 26 (0, 0))) ∧ (w.heap.size ≤ s_) ∧ (w.heap.size ≤ s_) ∧ (gb795 ≠ s_) ∧ (s_ ≠ gb795) ∧ (gb796 ≠ s_) ∧ (s_ ≠ gb796) ∧ (Below w.heap.size w w')) ?_ ?_
   rotate_left
   ·intro hCont
    refine tw_ 8 17 (some 26) (some 5) (bl_ 20 4095) (bl_ 20 134911) HT_ (fun K hK => ?_) fun K hK => ?_
    ·refine goesB_ Try.func54 #[.int .u64 (IntKind.u64.wrap (a1 - a0_5)), .int .u64 (IntKind.u64.wrap (a0_1))] ?_
     with_reducible refine (wide_Mul.calls (IntKind.u64.wrap (a1 - a0_5)) (IntKind.u64.wrap (a0_1)) t797 t798 _ A9.out).mono ?_
     rintro e w73 ⟨rfl, hb⟩
     refine ⟨_, rfl, ?_⟩
     replace BK795 := bb_ BK795 hb
     replace BK796 := bb_ BK796 hb
     replace HB := bs_ w hb
     clear hb
     refine hK.out _ _ (cc6_ BK795) (fun hHeld => ?_)
     clear hK K
     refine nm_ (some 26) ?_
     refine tw_ 12 17 (some 30) (some 5) (bl_ 20 8191) (bl_ 20 135167) HT_ (fun K hK => ?_) fun K hK => ?_
     ·refine goesB_ Try.func37 #[.int .u64 (IntKind.u64.wrap (a0_4))] ?_
      with_reducible refine (wide_Of.calls (IntKind.u64.wrap (a0_4)) t799 t800 _ A10.out).mono ?_
      rintro e w74 ⟨rfl, hb⟩
      refine ⟨_, rfl, ?_⟩
      replace BK795 := bb_ BK795 hb
      replace BK796 := bb_ BK796 hb
      replace HB := bs_ w hb
      clear hb
      refine hK.out _ _ (cc6_ BK795) (fun hHeld => ?_)
      clear hK K
      refine nm_ (some 30) ?_
      refine tw_ 13 17 (some 31) (some 5) (bl_ 20 16383) (bl_ 20 139263) HT_ (fun K hK => ?_) fun K hK => ?_
      ·refine goesB_ Try.func48 #[.agg #[.int .u64 t797, .int .u64 t798], .agg #[.int .u64 t799, .int .u64 t800]] ?_
       with_reducible refine (wide_Add.calls t797 t798 t799 t800 t801 t802 t803 _ A11.out).mono ?_
       rintro e w75 ⟨rfl, hb⟩
       refine ⟨_, rfl, ?_⟩
       replace BK795 := bb_ BK795 hb
       replace BK796 := bb_ BK796 hb
       replace HB := bs_ w hb
       clear hb
       refine hK.out _ _ (cc6_ BK795) (fun hHeld => ?_)
       clear hK K
       refine nm_ (some 31) ?_
       refine pa_ 14 (some 17) (bl_ 20 32767) HT_ ?_
       refine pa_ 15 (some 32) (bl_ 20 65535) HT_ ?_
       refine pa_ 16 (some 33) (bl_ 20 131071) HT_ ?_
       refine oa_ 17 (some 5) (bl_ 20 262143) HT_ fun K hK => ?_
       refine bs2_ #[.int .u64 0, .int .u64 0] 26 ?_
       intro gb804 hg w76 BK804 hb
       have GW804 := bz_ w hg
       have GE804 := GW804
       have NB795_804 := bn_ BK795 hg
       have NB804_795 := bm_ BK795 hg
       have NB796_804 := bn_ BK796 hg
       have NB804_796 := bm_ BK796 hg
       replace BK795 := bb_ BK795 hb
       replace BK796 := bb_ BK796 hb
       replace HB := bs_ w hb
       clear hb hg
       refine hK.out _ _ (cc6_ BK795) (fun hHeld => ?_)
       clear hK K
       refine nm_ (some 5) ?_
       exact no_ (hCont (gb804) _ ⟨hHeld, (bq_ BK795), (bq_ BK796), (bq_ BK804), GW804.out, GE804.out, NB795_804.out, NB804_795.out, NB796_804.out, NB804_796.out, bh_⟩)
      ·refine bs2_ #[.int .u64 0, .int .u64 0] 26 ?_
       intro gb804 hg w75 BK804 hb
       have GW804 := bz_ w hg
       have GE804 := GW804
       have NB795_804 := bn_ BK795 hg
       have NB804_795 := bm_ BK795 hg
       have NB796_804 := bn_ BK796 hg
       have NB804_796 := bm_ BK796 hg
       replace BK795 := bb_ BK795 hb
       replace BK796 := bb_ BK796 hb
       replace HB := bs_ w hb
       clear hb hg
       refine hK.out _ _ (cc6_ BK795) (fun hHeld => ?_)
       clear hK K
       refine nm_ (some 5) ?_
       refine oa_ 13 (some 31) (bl_ 20 147455) HT_ fun K hK => ?_
       refine goesB_ Try.func48 #[.agg #[.int .u64 t797, .int .u64 t798], .agg #[.int .u64 t799, .int .u64 t800]] ?_
       with_reducible refine (wide_Add.calls t797 t798 t799 t800 t801 t802 t803 _ A11.out).mono ?_
       rintro e w76 ⟨rfl, hb⟩
       refine ⟨_, rfl, ?_⟩
       replace BK795 := bb_ BK795 hb
       replace BK796 := bb_ BK796 hb
       replace BK804 := bb_ BK804 hb
       replace HB := bs_ w hb
       clear hb
       refine hK.out _ _ (cc6_ BK795) (fun hHeld => ?_)
       clear hK K
       refine nm_ (some 31) ?_
       refine pa_ 14 (some 17) (bl_ 20 163839) HT_ ?_
       refine pa_ 15 (some 32) (bl_ 20 196607) HT_ ?_
       refine pa_ 16 (some 33) (bl_ 20 262143) HT_ ?_
       exact no_ (hCont (gb804) _ ⟨hHeld, (bq_ BK795), (bq_ BK796), (bq_ BK804), GW804.out, GE804.out, NB795_804.out, NB804_795.out, NB796_804.out, NB804_796.out, bh_⟩)
     ·refine bs2_ #[.int .u64 0, .int .u64 0] 26 ?_
      intro gb804 hg w74 BK804 hb
      have GW804 := bz_ w hg
      have GE804 := GW804
      have NB795_804 := bn_ BK795 hg
      have NB804_795 := bm_ BK795 hg
      have NB796_804 := bn_ BK796 hg
      have NB804_796 := bm_ BK796 hg
      replace BK795 := bb_ BK795 hb
      replace BK796 := bb_ BK796 hb
      replace HB := bs_ w hb
      clear hb hg
      refine hK.out _ _ (cc6_ BK795) (fun hHeld => ?_)
      clear hK K
      refine nm_ (some 5) ?_
      refine oa_ 12 (some 30) (bl_ 20 139263) HT_ fun K hK => ?_
      refine goesB_ Try.func37 #[.int .u64 (IntKind.u64.wrap (a0_4))] ?_
      with_reducible refine (wide_Of.calls (IntKind.u64.wrap (a0_4)) t799 t800 _ A10.out).mono ?_
      rintro e w75 ⟨rfl, hb⟩
      refine ⟨_, rfl, ?_⟩
      replace BK795 := bb_ BK795 hb
      replace BK796 := bb_ BK796 hb
      replace BK804 := bb_ BK804 hb
      replace HB := bs_ w hb
      clear hb
      refine hK.out _ _ (cc6_ BK795) (fun hHeld => ?_)
      clear hK K
      refine nm_ (some 30) ?_
      refine oa_ 13 (some 31) (bl_ 20 147455) HT_ fun K hK => ?_
      refine goesB_ Try.func48 #[.agg #[.int .u64 t797, .int .u64 t798], .agg #[.int .u64 t799, .int .u64 t800]] ?_
      with_reducible refine (wide_Add.calls t797 t798 t799 t800 t801 t802 t803 _ A11.out).mono ?_
      rintro e w76 ⟨rfl, hb⟩
      refine ⟨_, rfl, ?_⟩
      replace BK795 := bb_ BK795 hb
      replace BK796 := bb_ BK796 hb
      replace BK804 := bb_ BK804 hb
      replace HB := bs_ w hb
      clear hb
      refine hK.out _ _ (cc6_ BK795) (fun hHeld => ?_)
      clear hK K
      refine nm_ (some 31) ?_
      refine pa_ 14 (some 17) (bl_ 20 163839) HT_ ?_
      refine pa_ 15 (some 32) (bl_ 20 196607) HT_ ?_
      refine pa_ 16 (some 33) (bl_ 20 262143) HT_ ?_
      exact no_ (hCont (gb804) _ ⟨hHeld, (bq_ BK795), (bq_ BK796), (bq_ BK804), GW804.out, GE804.out, NB795_804.out, NB804_795.out, NB796_804.out, NB804_796.out, bh_⟩)
    ·refine bs2_ #[.int .u64 0, .int .u64 0] 26 ?_
     intro gb804 hg w73 BK804 hb
     have GW804 := bz_ w hg
     have GE804 := GW804
     have NB795_804 := bn_ BK795 hg
     have NB804_795 := bm_ BK795 hg
     have NB796_804 := bn_ BK796 hg
     have NB804_796 := bm_ BK796 hg
     replace BK795 := bb_ BK795 hb
     replace BK796 := bb_ BK796 hb
     replace HB := bs_ w hb
     clear hb hg
     refine hK.out _ _ (cc6_ BK795) (fun hHeld => ?_)
     clear hK K
     refine nm_ (some 5) ?_
     refine oa_ 8 (some 26) (bl_ 20 135167) HT_ fun K hK => ?_
     refine goesB_ Try.func54 #[.int .u64 (IntKind.u64.wrap (a1 - a0_5)), .int .u64 (IntKind.u64.wrap (a0_1))] ?_
     with_reducible refine (wide_Mul.calls (IntKind.u64.wrap (a1 - a0_5)) (IntKind.u64.wrap (a0_1)) t797 t798 _ A9.out).mono ?_
     rintro e w74 ⟨rfl, hb⟩
     refine ⟨_, rfl, ?_⟩
     replace BK795 := bb_ BK795 hb
     replace BK796 := bb_ BK796 hb
     replace BK804 := bb_ BK804 hb
     replace HB := bs_ w hb
     clear hb
     refine hK.out _ _ (cc6_ BK795) (fun hHeld => ?_)
     clear hK K
     refine nm_ (some 26) ?_
     refine oa_ 12 (some 30) (bl_ 20 139263) HT_ fun K hK => ?_
     refine goesB_ Try.func37 #[.int .u64 (IntKind.u64.wrap (a0_4))] ?_
     with_reducible refine (wide_Of.calls (IntKind.u64.wrap (a0_4)) t799 t800 _ A10.out).mono ?_
     rintro e w75 ⟨rfl, hb⟩
     refine ⟨_, rfl, ?_⟩
     replace BK795 := bb_ BK795 hb
     replace BK796 := bb_ BK796 hb
     replace BK804 := bb_ BK804 hb
     replace HB := bs_ w hb
     clear hb
     refine hK.out _ _ (cc6_ BK795) (fun hHeld => ?_)
     clear hK K
     refine nm_ (some 30) ?_
     refine oa_ 13 (some 31) (bl_ 20 147455) HT_ fun K hK => ?_
     refine goesB_ Try.func48 #[.agg #[.int .u64 t797, .int .u64 t798], .agg #[.int .u64 t799, .int .u64 t800]] ?_
     with_reducible refine (wide_Add.calls t797 t798 t799 t800 t801 t802 t803 _ A11.out).mono ?_
     rintro e w76 ⟨rfl, hb⟩
     refine ⟨_, rfl, ?_⟩
     replace BK795 := bb_ BK795 hb
     replace BK796 := bb_ BK796 hb
     replace BK804 := bb_ BK804 hb
     replace HB := bs_ w hb
     clear hb
     refine hK.out _ _ (cc6_ BK795) (fun hHeld => ?_)
     clear hK K
     refine nm_ (some 31) ?_
     refine pa_ 14 (some 17) (bl_ 20 163839) HT_ ?_
     refine pa_ 15 (some 32) (bl_ 20 196607) HT_ ?_
     refine pa_ 16 (some 33) (bl_ 20 262143) HT_ ?_
     exact no_ (hCont (gb804) _ ⟨hHeld, (bq_ BK795), (bq_ BK796), (bq_ BK804), GW804.out, GE804.out, NB795_804.out, NB804_795.out, NB796_804.out, NB804_796.out, bh_⟩)
   rintro gb804 w77 ⟨hS_, h0_, h1_, h2_, h3_, h4_, h5_, h6_, h7_, h8_, h9_⟩
   have BK804 := Aside0.mk h2_
   have GW804 := Aside0.mk h3_
   have GE804 := Aside0.mk h4_
   have NB795_804 := Aside0.mk h5_
   have NB804_795 := Aside0.mk h6_
   have NB796_804 := Aside0.mk h7_
   have NB804_796 := Aside0.mk h8_
   replace BK795 := Aside0.mk h0_
   replace BK796 := Aside0.mk h1_
   replace HB := Aside0.mk h9_
   clear h0_ h1_ h2_ h3_ h4_ h5_ h6_ h7_ h8_ h9_
   have hHeld := hS_
   refine nq_ ?_
   refine oa_ 18 none (bl_ 20 524287) HT_ fun K hK => ?_
   have hs78 : w77.cell? ⟨gb804, 0, none⟩ = some (.int .u64 0) := (blk_cell BK804.out 0).trans rfl
   have hfs78 := blk_frozen BK804.out 0
   have hns78_0 := NB795_804.out
   have hns78_1 := NB796_804.out
   have hms78_0 := NB804_795.out
   have hms78_1 := NB804_796.out
   have hs79 : w77.cell? ⟨gb804, 1, none⟩ = some (.int .u64 0) := (blk_cell BK804.out 1).trans rfl
   have hfs79 := blk_frozen BK804.out 1
   have hns79_0 := NB795_804.out
   have hns79_1 := NB796_804.out
   have hms79_0 := NB804_795.out
   have hms79_1 := NB804_796.out
   refine sk_ ?_
   refine hK.out _ _ (cf6_ hHeld) (fun hHeld => ?_)
   clear hK K
   refine pa_ 19 (some 6) (bl_ 20 1048575) HT_ ?_
   refine done_ (done_of HT_.out (by kernel_rfl)) ?_
   have hnb80 := NB804_795.out
   have hnc80 := NB795_804.out
   have hnb81 := NB804_796.out
   have hnc81 := NB796_804.out
   obtain ⟨_, _, _, _⟩ := ce2_ BK804
   obtain ⟨_, _, _, _, _, _, _, _, _, _, _, _⟩ := ce6_ BK795
   try go_wp2_with (first | ((with_reducible refine gate_callee (f := 60) rfl ?_); refine goesA_ (some 40) Try.func60 #[.agg #[.int .u64 t801, .int .u64 t802], .int .u64 (IntKind.u64.wrap (a0_2))] ?_; (with_reducible refine (wide_Div.calls k t801 t802 (IntKind.u64.wrap (a0_2)) t805 t806 t807 t808 _ A12.out).mono ?_); rintro e w84 ⟨rfl, hb⟩; refine ⟨_, rfl, ?_⟩; replace BK795 := bf_ BK795 hb; replace BK796 := bf_ BK796 hb; replace BK804 := Aside0.mk (blk_below (g := gb804) (o := .cells #[.int .u64 t801, .int .u64 t802] 26 (0, 0)) (bp2_ (bq_ BK804)) hb); replace HB := bs_ w hb; clear hb) | ((with_reducible refine gate_dst (N := 7) rfl ?_); refine bx_ #[.int .u64 0, .int .u64 0] 26 ?_; intro gb809 hg w85 BK809 hb; have GW809 := bz_ w hg; have GE809 := GW809; have NB795_809 := bn_ BK795 hg; have NB809_795 := bm_ BK795 hg; have NB796_809 := bn_ BK796 hg; have NB809_796 := bm_ BK796 hg; have NB804_809 := bn_ BK804 hg; have NB809_804 := bm_ BK804 hg; replace BK795 := bb_ BK795 hb; replace BK796 := bb_ BK796 hb; replace BK804 := bb_ BK804 hb; replace HB := bs_ w hb; clear hb hg; have hnb86 := NB809_795.out; have hnc86 := NB795_809.out; have hnb87 := NB809_796.out; have hnc87 := NB796_809.out; have hnb88 := NB809_804.out; have hnc88 := NB804_809.out; obtain ⟨_, _, _, _⟩ := ce2_ BK809; obtain ⟨_, _, _, _, _, _, _, _, _, _, _, _⟩ := ce6_ BK795) | ((with_reducible refine gate_callee (f := 55) rfl ?_); refine goesA_ (some 48) Try.func55 #[.agg #[.int .u64 t805, .int .u64 t806]] ?_; (with_reducible refine (wide_Small.calls t805 t806 t810 t811 _ A13.out).mono ?_); rintro e w91 ⟨rfl, hb⟩; refine ⟨_, rfl, ?_⟩; replace BK795 := Aside0.mk (blk_below (g := gb795) (o := .cells #[.int .i64 a0_0, .int .i64 a0_1, .int .i64 a0_2, .int .i64 a0_3, .int .i64 a0_4, .int .u64 a1] 30 (0, 0)) (blk_put (cs := #[.int .i64 a0_0, .int .i64 a0_1, .int .i64 a0_2, .int .i64 a0_3, .int .i64 a0_4, .int .u64 a0_5]) (bt_ BK795) 5 _ rfl) hb); replace BK796 := bf_ BK796 hb; replace BK804 := bf_ BK804 hb; replace BK809 := Aside0.mk (blk_below (g := gb809) (o := .cells #[.int .u64 t805, .int .u64 t806] 26 (0, 0)) (blk_far (bp2_ (bq_ BK809)) NB809_795.out _) hb); replace HB := bs_ w hb; clear hb; obtain ⟨_, _, _, _, _, _, _, _, _, _, _, _⟩ := ce6_ BK795; obtain ⟨_, _, _, _, _, _, _, _, _, _, _, _⟩ := ce6_ BK796))
   refine bodyPost_ret (results_cell_row rfl _ _ gb796 30 #[.int .i64 a0_0, .int .i64 a0_1, .int .i64 a0_2, .int .i64 a0_0, .int .i64 0, .int .u64 a1] (0, 0) _ rfl (blk_put (cs := #[.int .i64 a0_0, .int .i64 a0_1, .int .i64 a0_2, .int .i64 a0_0, .int .i64 0, .int .u64 0]) (blk_put (cs := #[.int .i64 a0_0, .int .i64 a0_1, .int .i64 a0_2, .int .i64 a0_0, .int .i64 0, .int .u64 0]) (blk_put (cs := #[.int .i64 a0_0, .int .i64 a0_1, .int .i64 a0_2, .int .i64 0, .int .i64 0, .int .u64 0]) (blk_put (cs := #[.int .i64 a0_0, .int .i64 a0_1, .int .i64 0, .int .i64 0, .int .i64 0, .int .u64 0]) (blk_put (cs := #[.int .i64 a0_0, .int .i64 0, .int .i64 0, .int .i64 0, .int .i64 0, .int .u64 0]) (blk_put (cs := #[.int .i64 0, .int .i64 0, .int .i64 0, .int .i64 0, .int .i64 0, .int .u64 0]) (bt_ BK796) 0 _ rfl) 1 _ rfl) 2 _ rfl) 3 _ rfl) 4 _ rfl) 5 _ rfl) Try.underlying30 rfl (by kernel_rfl)) rfl ?_
   exact fi_

end Go.Proofs.Ytnijohomnajngaa.X
