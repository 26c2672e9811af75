-- written by xprint.py, a program of this session over the kit's print
import Derived.Test.YtbfdpodlnijeoaaX0
import Derived.Test.YtbfdpodlnijeoaaX6
import Derived.Test.YtbfdpodlnijeoaaX9
namespace Go.Proofs.Ytbfdpodlnijeoaa.X
open Go.RowKit Go.Proofs.YtbfdpodlnijeoaaW.PrintWords Go.Proofs.YtbfdpodlnijeoaaW.PrintLast Go.Proofs.YtbfdpodlnijeoaaW.PrintMore
attribute [local go_sem] max2_int min2_int max_two min_two max_three min_three max_four min_four   -- for this text's walks alone
set_option linter.unusedVariables false
set_option linter.unusedSimpArgs false

/-! ### bucket_fill: function 46 -/
def bucket_fill.f (k : Nat) (a0_0 : Int) (a0_1 : Int) (a0_2 : Int) (a0_3 : Int) (a0_4 : Int) (a0_5 : Int) (a1 : Int) : Option (Int × Int × Int × Int × Int × Int) := if a1 ≤ a0_5 then (some (a0_0, a0_1, a0_2, a0_3, a0_4, a0_5)) else ((wide_Mul.f (IntKind.u64.wrap (a1 - a0_5)) (IntKind.u64.wrap (a0_1))).bind fun bt133 => ((wide_Of.f (IntKind.u64.wrap (a0_4))).bind fun bt135 => ((wide_Add.f bt133.1 bt133.2 bt135.1 bt135.2).bind fun bt137 => ((wide_Div.f k bt137.1 bt137.2.1 (IntKind.u64.wrap (a0_2))).bind fun bt141 => ((wide_Small.f bt141.1 bt141.2.1).bind fun bt146 => (if bt146.2 = 0 then (if bt146.1 ≥ (IntKind.u64.wrap (wrap64 (a0_0 - a0_3))) then (some (a0_0, a0_1, a0_2, a0_0, 0, a1)) else (some (a0_0, a0_1, a0_2, wrap64 (a0_3 + (wrap64 (bt146.1))), wrap64 (bt141.2.2.1), a1))) else (some (a0_0, a0_1, a0_2, a0_0, 0, a1))))))))
theorem bucket_fill.mono : ∀ a0 a1 a2 a3 a4 a5 a6 k, LeO (bucket_fill.f k a0 a1 a2 a3 a4 a5 a6) (bucket_fill.f (k + 1) a0 a1 a2 a3 a4 a5 a6) := by
  intro a0 a1 a2 a3 a4 a5 a6 k
  unfold bucket_fill.f
  repeat' first
      | (with_reducible exact wide_Div.mono _ _ _ _)
      | (with_reducible exact LeO.refl _)
      | (with_reducible exact LeO.none _)
      | (with_reducible refine LeO.ite ?_ ?_)
      | (with_reducible refine LeO.bind ?_ (fun _ => ?_))
      | exact wide_Div.mono _ _ _ _
      | exact LeO.none _
      | refine LeO.ite ?_ ?_
      | refine LeO.bind ?_ (fun _ => ?_)
def bucket_fill.T3 : Bool × List (List Nat × List Nat) := (true, [([], []), ([], []), ([1], [1]), ([0, 2], [0, 2]), ([], []), ([4], [4]), ([5], [5]), ([6], [6]), ([3, 7], [3, 7]), ([], []), ([9], [9]), ([10], [10]), ([11, 8], [11]), ([8, 12, 12], [8, 12]), ([13], [13]), ([14], [14]), ([14], [14]), ([], []), ([17, 15, 13, 0, 1, 2, 3, 4, 5, 6, 7, 8, 9, 10, 11, 12, 13, 14, 15, 17], [15, 17]), ([16, 18, 0, 1, 2, 3, 4, 5, 6, 7, 8, 9, 10, 11, 12, 13, 14, 15, 16, 17, 18], [16])])
def bucket_fill.B3 : List Nat := [0, 0, 2, 7, 0, 16, 48, 112, 255, 0, 512, 1536, 4095, 8191, 16383, 32767, 32767, 0, 196607, 524287]
theorem bucket_fill.tab3 : rtab .any (opsOf Try.f46 3) = bucket_fill.T3 := by kernel_rfl
theorem bucket_fill.bits3 : waitsOk bucket_fill.T3.2 bucket_fill.B3 = true := by kernel_rfl
set_option maxHeartbeats 8000000 in
set_option maxRecDepth 100000 in
theorem bucket_fill.calls (k : Nat) (a0_0 : Int) (a0_1 : Int) (a0_2 : Int) (a0_3 : Int) (a0_4 : Int) (a0_5 : Int) (a1 : Int) (r1 : Int) (r2 : Int) (r3 : Int) (r4 : Int) (r5 : Int) (r6 : Int) (w : World) (h : bucket_fill.f k a0_0 a0_1 a0_2 a0_3 a0_4 a0_5 a1 = some (r1, r2, r3, r4, r5, r6)) :
  Calls Try.prog 46 #[.agg #[.int .i64 a0_0, .int .i64 a0_1, .int .i64 a0_2, .int .i64 a0_3, .int .i64 a0_4, .int .u64 a0_5], .int .u64 a1] w fun e w' => e = .returned (.agg #[.int .i64 r1, .int .i64 r2, .int .i64 r3, .int .i64 r4, .int .i64 r5, .int .u64 r6]) ∧ Below w.heap.size w w' := by
 have hu26 := Try.underlying26
 have hu82 := Try.underlying82
 have HB := Aside0.mk (Below.refl w.heap.size w)
 have H : (if a1 ≤ a0_5 then (some (a0_0, a0_1, a0_2, a0_3, a0_4, a0_5)) else ((wide_Mul.f (IntKind.u64.wrap (a1 - a0_5)) (IntKind.u64.wrap (a0_1))).bind fun bt133 => ((wide_Of.f (IntKind.u64.wrap (a0_4))).bind fun bt135 => ((wide_Add.f bt133.1 bt133.2 bt135.1 bt135.2).bind fun bt137 => ((wide_Div.f k bt137.1 bt137.2.1 (IntKind.u64.wrap (a0_2))).bind fun bt141 => ((wide_Small.f bt141.1 bt141.2.1).bind fun bt146 => (if bt146.2 = 0 then (if bt146.1 ≥ (IntKind.u64.wrap (wrap64 (a0_0 - a0_3))) then (some (a0_0, a0_1, a0_2, a0_0, 0, a1)) else (some (a0_0, a0_1, a0_2, wrap64 (a0_3 + (wrap64 (bt146.1))), wrap64 (bt141.2.2.1), a1))) else (some (a0_0, a0_1, a0_2, a0_0, 0, a1))))))))) = some (r1, r2, r3, r4, r5, r6) := h
 clear h
 by_cases c3 : a1 ≤ a0_5
 ·rw [if_pos c3] at H
  have c3b0 : decide (a1 ≤ a0_5) = true := decide_eq_true c3
  clear c3
  simp only [Option.some.injEq, Prod.mk.injEq] at H
  obtain ⟨rfl, rfl, rfl, rfl, rfl, rfl⟩ := H
  go_enter Try.func46, Try.ntmps46
  go_wp2_with (first | ((with_reducible refine gate_dst (N := 2) rfl ?_); (try refine ug_ (by rfl) ?_); refine bx_ #[.int .i64 a0_0, .int .i64 a0_1, .int .i64 a0_2, .int .i64 a0_3, .int .i64 a0_4, .int .u64 a0_5] 26 ?_; intro gb131 hg w4 BK131 hb; have GW131 := bz_ w hg; have GE131 := GW131; replace HB := bs_ w hb; clear hb hg) | ((with_reducible refine gate_dst (N := 4) rfl ?_); (try refine ug_ (by rfl) ?_); refine bx_ #[.int .i64 0, .int .i64 0, .int .i64 0, .int .i64 0, .int .i64 0, .int .u64 0] 26 ?_; intro gb132 hg w5 BK132 hb; have GW132 := bz_ w hg; have GE132 := GW132; have NB131_132 := bn_ BK131 hg; have NB132_131 := bm_ BK131 hg; replace BK131 := bb_ BK131 hb; replace HB := bs_ w hb; clear hb hg; replace hn131_132 := NB131_132.out; replace hn132_131 := NB132_131.out; replace hc131 := ce6_ BK131; replace hc132 := ce6_ BK132))
  refine bodyPost_ret (results_cell_row rfl _ _ gb132 26 #[.int .i64 a0_0, .int .i64 a0_1, .int .i64 a0_2, .int .i64 a0_3, .int .i64 a0_4, .int .u64 a0_5] (0, 0) _ rfl (bp6_ (bq_ BK132)) Try.underlying26 rfl (by kernel_rfl)) rfl ?_
  exact fi_
 ·rw [if_neg c3] at H
  have c3b0 : decide (a1 ≤ a0_5) = false := decide_eq_false c3
  clear c3
  have H0_ := bo_ H; clear H; obtain ⟨⟨t133, t134⟩, A9, H⟩ := H0_
  try dsimp only at H
  have H0_ := bo_ H; clear H; obtain ⟨⟨t135, t136⟩, A10, H⟩ := H0_
  try dsimp only at H
  have H0_ := bo_ H; clear H; obtain ⟨⟨t137, t138, t139⟩, A11, H⟩ := H0_
  try dsimp only at H
  have H0_ := bo_ H; clear H; obtain ⟨⟨t141, t142, t143, t144⟩, A12, H⟩ := H0_
  try dsimp only at H
  have H0_ := bo_ H; clear H; obtain ⟨⟨t146, t147⟩, A13, H⟩ := H0_
  try dsimp only at H
  by_cases c14 : t147 = 0
  ·rw [if_pos c14] at H
   have c14b0 : (t147 == 0) = true := beq_iff_eq.mpr c14
   have c14b1 : (t147 != 0) = false := bne_eq_false_iff_eq.mpr c14
   clear c14
   by_cases c15 : t146 ≥ (IntKind.u64.wrap (wrap64 (a0_0 - a0_3)))
   ·rw [if_pos c15] at H
    have c15b0 : decide ((IntKind.u64.wrap (wrap64 (a0_0 - a0_3))) ≤ t146) = true := decide_eq_true c15
    clear c15
    simp only [Option.some.injEq, Prod.mk.injEq] at H
    obtain ⟨rfl, rfl, rfl, rfl, rfl, rfl⟩ := H
    go_enter Try.func46, Try.ntmps46
    try go_wp2_with (first | ((with_reducible refine gate_dst (N := 2) rfl ?_); (try refine ug_ (by rfl) ?_); refine bx_ #[.int .i64 a0_0, .int .i64 a0_1, .int .i64 a0_2, .int .i64 a0_3, .int .i64 a0_4, .int .u64 a0_5] 26 ?_; intro gb131 hg w16 BK131 hb; have GW131 := bz_ w hg; have GE131 := GW131; replace HB := bs_ w hb; clear hb hg) | ((with_reducible refine gate_dst (N := 4) rfl ?_); (try refine ug_ (by rfl) ?_); refine bx_ #[.int .i64 0, .int .i64 0, .int .i64 0, .int .i64 0, .int .i64 0, .int .u64 0] 26 ?_; intro gb132 hg w17 BK132 hb; have GW132 := bz_ w hg; have GE132 := GW132; have NB131_132 := bn_ BK131 hg; have NB132_131 := bm_ BK131 hg; replace BK131 := bb_ BK131 hb; replace HB := bs_ w hb; clear hb hg; replace hn131_132 := NB131_132.out; replace hn132_131 := NB132_131.out; replace hc131 := ce6_ BK131))
    replace BK131 := Aside0.mk (blk_drew BK131.out)
    replace BK132 := Aside0.mk (blk_drew BK132.out)
    replace HB := Aside0.mk (below_drew1 HB.out)
    refine start_ (n := 20) (S := fun w' => w'.cell? ⟨gb131, 0, none⟩ = some (.int .i64 a0_0) ∧ w'.cell? ⟨gb131, 1, none⟩ = some (.int .i64 a0_1) ∧ w'.cell? ⟨gb131, 2, none⟩ = some (.int .i64 a0_2) ∧ w'.cell? ⟨gb131, 3, none⟩ = some (.int .i64 a0_3) ∧ w'.cell? ⟨gb131, 4, none⟩ = some (.int .i64 a0_4) ∧ w'.cell? ⟨gb131, 5, none⟩ = some (.int .u64 a0_5)) (ds := []) (bl_ 20 0) (by kernel_rfl) rfl (by kernel_rfl) (cc6_ BK131) (fun hHeld => ?_); refine with_tabW bucket_fill.tab3 bucket_fill.bits3 (fun HT_ HW_ => ?_)
    generalize w17.drew = w20 at BK131 BK132 HB hHeld ⊢
    refine pa_ 0 (some 18) (bl_ 20 1) HT_ ?_
    refine pa_ 1 (some 19) (bl_ 20 3) HT_ ?_
    refine pa_ 4 (some 22) (bl_ 20 19) HT_ ?_
    refine pa_ 5 (some 23) (bl_ 20 51) HT_ ?_
    refine pa_ 9 (some 27) (bl_ 20 563) HT_ ?_
    refine ta_ 2 (some 20) (bl_ 20 567) HT_ HW_ hHeld ?_
    refine pa_ 3 (some 21) (bl_ 20 575) HT_ ?_
    refine ta_ 6 (some 24) (bl_ 20 639) HT_ HW_ hHeld ?_
    refine pa_ 7 (some 25) (bl_ 20 767) HT_ ?_
    refine ta_ 10 (some 28) (bl_ 20 1791) HT_ HW_ hHeld ?_
    refine pa_ 11 (some 29) (bl_ 20 3839) HT_ ?_
    refine join_ (σ := Nat) 2 (bl_ 20 262143) (fun s_ => [(26, .agg #[.int .u64 t133, .int .u64 t134]), (30, .agg #[.int .u64 t135, .int .u64 t136]), (31, .tuple #[.agg #[.int .u64 t137, .int .u64 t138], .int .i64 t139]), (5, .pointer (some ⟨s_, 0, none⟩)), (17, .tuple #[.agg #[.int .u64 t137, .int .u64 t138], .int .i64 t139]), (32, .agg #[.int .u64 t137, .int .u64 t138]), (33, .int .i64 t139)]) (fun s_ w' => (w'.cell? ⟨gb131, 0, none⟩ = some (.int .i64 a0_0) ∧ w'.cell? ⟨gb131, 1, none⟩ = some (.int .i64 a0_1) ∧ w'.cell? ⟨gb131, 2, none⟩ = some (.int .i64 a0_2) ∧ w'.cell? ⟨gb131, 3, none⟩ = some (.int .i64 a0_3) ∧ w'.cell? ⟨gb131, 4, none⟩ = some (.int .i64 a0_4) ∧ w'.cell? ⟨gb131, 5, none⟩ = some (.int .u64 a0_5)) ∧ (w'.heap[gb131]? = some (.cells #[.int .i64 a0_0, .int .i64 a0_1, .int .i64 a0_2, .int .i64 a0_3, .int .i64 a0_4, .int .u64 a0_5] 26 (0, 0))) ∧ (w'.heap[gb132]? = some (.cells #[.int .i64 0, .int .i64 0, .int .i64 0, .int .i64 0, .int .i64 0, .int .u64 0] 26 (0, 0))) ∧ (w'.heap[s_]? = some (.cells #[.int .u64 0, .int .u64 0] 82 (0, 0))) ∧ (w.heap.size ≤ s_) ∧ (w.heap.size ≤ s_) ∧ (gb131 ≠ s_) ∧ (s_ ≠ gb131) ∧ (gb132 ≠ s_) ∧ (s_ ≠ gb132) ∧ (Below w.heap.size w w')) ?_ ?_
    rotate_left
    ·intro hCont
     refine tw_ 8 17 (some 26) (some 5) (bl_ 20 4095) (bl_ 20 134911) HT_ (fun K hK => ?_) fun K hK => ?_
     ·refine goesB_ Try.func35 #[.int .u64 (IntKind.u64.wrap (a1 - a0_5)), .int .u64 (IntKind.u64.wrap (a0_1))] ?_
      with_reducible refine (wide_Mul.calls (IntKind.u64.wrap (a1 - a0_5)) (IntKind.u64.wrap (a0_1)) t133 t134 _ A9.out).mono ?_
      rintro e w21 ⟨rfl, hb⟩
      refine ⟨_, rfl, ?_⟩
      replace BK131 := bb_ BK131 hb
      replace BK132 := bb_ BK132 hb
      replace HB := bs_ w hb
      clear hb
      refine hK.out _ _ (cc6_ BK131) (fun hHeld => ?_)
      clear hK K
      refine nm_ (some 26) ?_
      refine tw_ 12 17 (some 30) (some 5) (bl_ 20 8191) (bl_ 20 135167) HT_ (fun K hK => ?_) fun K hK => ?_
      ·refine goesB_ Try.func36 #[.int .u64 (IntKind.u64.wrap (a0_4))] ?_
       with_reducible refine (wide_Of.calls (IntKind.u64.wrap (a0_4)) t135 t136 _ A10.out).mono ?_
       rintro e w22 ⟨rfl, hb⟩
       refine ⟨_, rfl, ?_⟩
       replace BK131 := bb_ BK131 hb
       replace BK132 := bb_ BK132 hb
       replace HB := bs_ w hb
       clear hb
       refine hK.out _ _ (cc6_ BK131) (fun hHeld => ?_)
       clear hK K
       refine nm_ (some 30) ?_
       refine tw_ 13 17 (some 31) (some 5) (bl_ 20 16383) (bl_ 20 139263) HT_ (fun K hK => ?_) fun K hK => ?_
       ·refine goesB_ Try.func34 #[.agg #[.int .u64 t133, .int .u64 t134], .agg #[.int .u64 t135, .int .u64 t136]] ?_
        with_reducible refine (wide_Add.calls t133 t134 t135 t136 t137 t138 t139 _ A11.out).mono ?_
        rintro e w23 ⟨rfl, hb⟩
        refine ⟨_, rfl, ?_⟩
        replace BK131 := bb_ BK131 hb
        replace BK132 := bb_ BK132 hb
        replace HB := bs_ w hb
        clear hb
        refine hK.out _ _ (cc6_ BK131) (fun hHeld => ?_)
        clear hK K
        refine nm_ (some 31) ?_
        refine pa_ 14 (some 17) (bl_ 20 32767) HT_ ?_
        refine pa_ 15 (some 32) (bl_ 20 65535) HT_ ?_
        refine pa_ 16 (some 33) (bl_ 20 131071) HT_ ?_
        refine oa_ 17 (some 5) (bl_ 20 262143) HT_ fun K hK => ?_
        refine bs2_ #[.int .u64 0, .int .u64 0] 82 ?_
        intro gb140 hg w24 BK140 hb
        have GW140 := bz_ w hg
        have GE140 := GW140
        have NB131_140 := bn_ BK131 hg
        have NB140_131 := bm_ BK131 hg
        have NB132_140 := bn_ BK132 hg
        have NB140_132 := bm_ BK132 hg
        replace BK131 := bb_ BK131 hb
        replace BK132 := bb_ BK132 hb
        replace HB := bs_ w hb
        clear hb hg
        refine hK.out _ _ (cc6_ BK131) (fun hHeld => ?_)
        clear hK K
        refine nm_ (some 5) ?_
        exact no_ (hCont (gb140) _ ⟨hHeld, (bq_ BK131), (bq_ BK132), (bq_ BK140), GW140.out, GE140.out, NB131_140.out, NB140_131.out, NB132_140.out, NB140_132.out, bh_⟩)
       ·refine bs2_ #[.int .u64 0, .int .u64 0] 82 ?_
        intro gb140 hg w23 BK140 hb
        have GW140 := bz_ w hg
        have GE140 := GW140
        have NB131_140 := bn_ BK131 hg
        have NB140_131 := bm_ BK131 hg
        have NB132_140 := bn_ BK132 hg
        have NB140_132 := bm_ BK132 hg
        replace BK131 := bb_ BK131 hb
        replace BK132 := bb_ BK132 hb
        replace HB := bs_ w hb
        clear hb hg
        refine hK.out _ _ (cc6_ BK131) (fun hHeld => ?_)
        clear hK K
        refine nm_ (some 5) ?_
        refine oa_ 13 (some 31) (bl_ 20 147455) HT_ fun K hK => ?_
        refine goesB_ Try.func34 #[.agg #[.int .u64 t133, .int .u64 t134], .agg #[.int .u64 t135, .int .u64 t136]] ?_
        with_reducible refine (wide_Add.calls t133 t134 t135 t136 t137 t138 t139 _ A11.out).mono ?_
        rintro e w24 ⟨rfl, hb⟩
        refine ⟨_, rfl, ?_⟩
        replace BK131 := bb_ BK131 hb
        replace BK132 := bb_ BK132 hb
        replace BK140 := bb_ BK140 hb
        replace HB := bs_ w hb
        clear hb
        refine hK.out _ _ (cc6_ BK131) (fun hHeld => ?_)
        clear hK K
        refine nm_ (some 31) ?_
        refine pa_ 14 (some 17) (bl_ 20 163839) HT_ ?_
        refine pa_ 15 (some 32) (bl_ 20 196607) HT_ ?_
        refine pa_ 16 (some 33) (bl_ 20 262143) HT_ ?_
        exact no_ (hCont (gb140) _ ⟨hHeld, (bq_ BK131), (bq_ BK132), (bq_ BK140), GW140.out, GE140.out, NB131_140.out, NB140_131.out, NB132_140.out, NB140_132.out, bh_⟩)
      ·refine bs2_ #[.int .u64 0, .int .u64 0] 82 ?_
       intro gb140 hg w22 BK140 hb
       have GW140 := bz_ w hg
       have GE140 := GW140
       have NB131_140 := bn_ BK131 hg
       have NB140_131 := bm_ BK131 hg
       have NB132_140 := bn_ BK132 hg
       have NB140_132 := bm_ BK132 hg
       replace BK131 := bb_ BK131 hb
       replace BK132 := bb_ BK132 hb
       replace HB := bs_ w hb
       clear hb hg
       refine hK.out _ _ (cc6_ BK131) (fun hHeld => ?_)
       clear hK K
       refine nm_ (some 5) ?_
       refine oa_ 12 (some 30) (bl_ 20 139263) HT_ fun K hK => ?_
       refine goesB_ Try.func36 #[.int .u64 (IntKind.u64.wrap (a0_4))] ?_
       with_reducible refine (wide_Of.calls (IntKind.u64.wrap (a0_4)) t135 t136 _ A10.out).mono ?_
       rintro e w23 ⟨rfl, hb⟩
       refine ⟨_, rfl, ?_⟩
       replace BK131 := bb_ BK131 hb
       replace BK132 := bb_ BK132 hb
       replace BK140 := bb_ BK140 hb
       replace HB := bs_ w hb
       clear hb
       refine hK.out _ _ (cc6_ BK131) (fun hHeld => ?_)
       clear hK K
       refine nm_ (some 30) ?_
       refine oa_ 13 (some 31) (bl_ 20 147455) HT_ fun K hK => ?_
       refine goesB_ Try.func34 #[.agg #[.int .u64 t133, .int .u64 t134], .agg #[.int .u64 t135, .int .u64 t136]] ?_
       with_reducible refine (wide_Add.calls t133 t134 t135 t136 t137 t138 t139 _ A11.out).mono ?_
       rintro e w24 ⟨rfl, hb⟩
       refine ⟨_, rfl, ?_⟩
       replace BK131 := bb_ BK131 hb
       replace BK132 := bb_ BK132 hb
       replace BK140 := bb_ BK140 hb
       replace HB := bs_ w hb
       clear hb
       refine hK.out _ _ (cc6_ BK131) (fun hHeld => ?_)
       clear hK K
       refine nm_ (some 31) ?_
       refine pa_ 14 (some 17) (bl_ 20 163839) HT_ ?_
       refine pa_ 15 (some 32) (bl_ 20 196607) HT_ ?_
       refine pa_ 16 (some 33) (bl_ 20 262143) HT_ ?_
       exact no_ (hCont (gb140) _ ⟨hHeld, (bq_ BK131), (bq_ BK132), (bq_ BK140), GW140.out, GE140.out, NB131_140.out, NB140_131.out, NB132_140.out, NB140_132.out, bh_⟩)
     ·refine bs2_ #[.int .u64 0, .int .u64 0] 82 ?_
      intro gb140 hg w21 BK140 hb
      have GW140 := bz_ w hg
      have GE140 := GW140
      have NB131_140 := bn_ BK131 hg
      have NB140_131 := bm_ BK131 hg
      have NB132_140 := bn_ BK132 hg
      have NB140_132 := bm_ BK132 hg
      replace BK131 := bb_ BK131 hb
      replace BK132 := bb_ BK132 hb
      replace HB := bs_ w hb
      clear hb hg
      refine hK.out _ _ (cc6_ BK131) (fun hHeld => ?_)
      clear hK K
      refine nm_ (some 5) ?_
      refine oa_ 8 (some 26) (bl_ 20 135167) HT_ fun K hK => ?_
      refine goesB_ Try.func35 #[.int .u64 (IntKind.u64.wrap (a1 - a0_5)), .int .u64 (IntKind.u64.wrap (a0_1))] ?_
      with_reducible refine (wide_Mul.calls (IntKind.u64.wrap (a1 - a0_5)) (IntKind.u64.wrap (a0_1)) t133 t134 _ A9.out).mono ?_
      rintro e w22 ⟨rfl, hb⟩
      refine ⟨_, rfl, ?_⟩
      replace BK131 := bb_ BK131 hb
      replace BK132 := bb_ BK132 hb
      replace BK140 := bb_ BK140 hb
      replace HB := bs_ w hb
      clear hb
      refine hK.out _ _ (cc6_ BK131) (fun hHeld => ?_)
      clear hK K
      refine nm_ (some 26) ?_
      refine oa_ 12 (some 30) (bl_ 20 139263) HT_ fun K hK => ?_
      refine goesB_ Try.func36 #[.int .u64 (IntKind.u64.wrap (a0_4))] ?_
      with_reducible refine (wide_Of.calls (IntKind.u64.wrap (a0_4)) t135 t136 _ A10.out).mono ?_
      rintro e w23 ⟨rfl, hb⟩
      refine ⟨_, rfl, ?_⟩
      replace BK131 := bb_ BK131 hb
      replace BK132 := bb_ BK132 hb
      replace BK140 := bb_ BK140 hb
      replace HB := bs_ w hb
      clear hb
      refine hK.out _ _ (cc6_ BK131) (fun hHeld => ?_)
      clear hK K
      refine nm_ (some 30) ?_
      refine oa_ 13 (some 31) (bl_ 20 147455) HT_ fun K hK => ?_
      refine goesB_ Try.func34 #[.agg #[.int .u64 t133, .int .u64 t134], .agg #[.int .u64 t135, .int .u64 t136]] ?_
      with_reducible refine (wide_Add.calls t133 t134 t135 t136 t137 t138 t139 _ A11.out).mono ?_
      rintro e w24 ⟨rfl, hb⟩
      refine ⟨_, rfl, ?_⟩
      replace BK131 := bb_ BK131 hb
      replace BK132 := bb_ BK132 hb
      replace BK140 := bb_ BK140 hb
      replace HB := bs_ w hb
      clear hb
      refine hK.out _ _ (cc6_ BK131) (fun hHeld => ?_)
      clear hK K
      refine nm_ (some 31) ?_
      refine pa_ 14 (some 17) (bl_ 20 163839) HT_ ?_
      refine pa_ 15 (some 32) (bl_ 20 196607) HT_ ?_
      refine pa_ 16 (some 33) (bl_ 20 262143) HT_ ?_
      exact no_ (hCont (gb140) _ ⟨hHeld, (bq_ BK131), (bq_ BK132), (bq_ BK140), GW140.out, GE140.out, NB131_140.out, NB140_131.out, NB132_140.out, NB140_132.out, bh_⟩)
    rintro gb140 w25 ⟨hS_, h0_, h1_, h2_, h3_, h4_, h5_, h6_, h7_, h8_, h9_⟩
    have BK140 := Aside0.mk h2_
    have GW140 := Aside0.mk h3_
    have GE140 := Aside0.mk h4_
    have NB131_140 := Aside0.mk h5_
    have NB140_131 := Aside0.mk h6_
    have NB132_140 := Aside0.mk h7_
    have NB140_132 := Aside0.mk h8_
    replace BK131 := Aside0.mk h0_
    replace BK132 := Aside0.mk h1_
    replace HB := Aside0.mk h9_
    clear h0_ h1_ h2_ h3_ h4_ h5_ h6_ h7_ h8_ h9_
    have hHeld := hS_
    refine nq_ ?_
    refine oa_ 18 none (bl_ 20 524287) HT_ fun K hK => ?_
    have hs26 : w25.cell? ⟨gb140, 0, none⟩ = some (.int .u64 0) := (blk_cell BK140.out 0).trans rfl
    have hfs26 := blk_frozen BK140.out 0
    have hns26_0 := NB131_140.out
    have hns26_1 := NB132_140.out
    have hms26_0 := NB140_131.out
    have hms26_1 := NB140_132.out
    have hs27 : w25.cell? ⟨gb140, 1, none⟩ = some (.int .u64 0) := (blk_cell BK140.out 1).trans rfl
    have hfs27 := blk_frozen BK140.out 1
    have hns27_0 := NB131_140.out
    have hns27_1 := NB132_140.out
    have hms27_0 := NB140_131.out
    have hms27_1 := NB140_132.out
    refine sk_ ?_
    refine hK.out _ _ (cf6_ hHeld) (fun hHeld => ?_)
    clear hK K
    refine pa_ 19 (some 6) (bl_ 20 1048575) HT_ ?_
    refine done_ (done_of HT_.out (by kernel_rfl)) ?_
    replace hn140_131 := NB140_131.out
    replace hn131_140 := NB131_140.out
    replace hn140_132 := NB140_132.out
    replace hn132_140 := NB132_140.out
    replace hc140 := ce2_ BK140
    replace hc131 := ce6_ BK131
    try go_wp2_with (first | ((with_reducible refine gate_callee (f := 37) rfl ?_); (try refine ug_ (by rfl) ?_); refine goesA_ (some 40) Try.func37 #[.agg #[.int .u64 t137, .int .u64 t138], .int .u64 (IntKind.u64.wrap (a0_2))] ?_; (with_reducible refine (wide_Div.calls k t137 t138 (IntKind.u64.wrap (a0_2)) t141 t142 t143 t144 _ A12.out).mono ?_); rintro e w32 ⟨rfl, hb⟩; refine ⟨_, rfl, ?_⟩; replace BK131 := bf_ BK131 hb; replace BK132 := bf_ BK132 hb; replace BK140 := Aside0.mk (blk_below (g := gb140) (o := .cells #[.int .u64 t137, .int .u64 t138] 82 (0, 0)) (bp2_ (bq_ BK140)) hb); replace HB := bs_ w hb; clear hb) | ((with_reducible refine gate_dst (N := 7) rfl ?_); (try refine ug_ (by rfl) ?_); refine bx_ #[.int .u64 0, .int .u64 0] 82 ?_; intro gb145 hg w33 BK145 hb; have GW145 := bz_ w hg; have GE145 := GW145; have NB131_145 := bn_ BK131 hg; have NB145_131 := bm_ BK131 hg; have NB132_145 := bn_ BK132 hg; have NB145_132 := bm_ BK132 hg; have NB140_145 := bn_ BK140 hg; have NB145_140 := bm_ BK140 hg; replace BK131 := bb_ BK131 hb; replace BK132 := bb_ BK132 hb; replace BK140 := bb_ BK140 hb; replace HB := bs_ w hb; clear hb hg; replace hn145_131 := NB145_131.out; replace hn131_145 := NB131_145.out; replace hn145_132 := NB145_132.out; replace hn132_145 := NB132_145.out; replace hn145_140 := NB145_140.out; replace hn140_145 := NB140_145.out; replace hc145 := ce2_ BK145; replace hc131 := ce6_ BK131) | ((with_reducible refine gate_callee (f := 56) rfl ?_); (try refine ug_ (by rfl) ?_); refine goesA_ (some 48) Try.func56 #[.agg #[.int .u64 t141, .int .u64 t142]] ?_; (with_reducible refine (wide_Small.calls t141 t142 t146 t147 _ A13.out).mono ?_); rintro e w39 ⟨rfl, hb⟩; refine ⟨_, rfl, ?_⟩; replace BK131 := Aside0.mk (blk_below (g := gb131) (o := .cells #[.int .i64 a0_0, .int .i64 a0_1, .int .i64 a0_2, .int .i64 a0_3, .int .i64 a0_4, .int .u64 a1] 26 (0, 0)) (blk_put (cs := #[.int .i64 a0_0, .int .i64 a0_1, .int .i64 a0_2, .int .i64 a0_3, .int .i64 a0_4, .int .u64 a0_5]) (bt_ BK131) 5 _ rfl) hb); replace BK132 := bf_ BK132 hb; replace BK140 := bf_ BK140 hb; replace BK145 := Aside0.mk (blk_below (g := gb145) (o := .cells #[.int .u64 t141, .int .u64 t142] 82 (0, 0)) (blk_far (bp2_ (bq_ BK145)) NB145_131.out _) hb); replace HB := bs_ w hb; clear hb; replace hc131 := ce6_ BK131; replace hc132 := ce6_ BK132))
    refine bodyPost_ret (results_cell_row rfl _ _ gb132 26 #[.int .i64 a0_0, .int .i64 a0_1, .int .i64 a0_2, .int .i64 a0_0, .int .i64 0, .int .u64 a1] (0, 0) _ rfl (bp6_ (bt_ BK132)) Try.underlying26 rfl (by kernel_rfl)) rfl ?_
    exact fi_
   ·rw [if_neg c15] at H
    have c15b0 : decide ((IntKind.u64.wrap (wrap64 (a0_0 - a0_3))) ≤ t146) = false := decide_eq_false c15
    clear c15
    simp only [Option.some.injEq, Prod.mk.injEq] at H
    obtain ⟨rfl, rfl, rfl, rfl, rfl, rfl⟩ := H
    go_enter Try.func46, Try.ntmps46
    try go_wp2_with (first | ((with_reducible refine gate_dst (N := 2) rfl ?_); (try refine ug_ (by rfl) ?_); refine bx_ #[.int .i64 a0_0, .int .i64 a0_1, .int .i64 a0_2, .int .i64 a0_3, .int .i64 a0_4, .int .u64 a0_5] 26 ?_; intro gb131 hg w42 BK131 hb; have GW131 := bz_ w hg; have GE131 := GW131; replace HB := bs_ w hb; clear hb hg) | ((with_reducible refine gate_dst (N := 4) rfl ?_); (try refine ug_ (by rfl) ?_); refine bx_ #[.int .i64 0, .int .i64 0, .int .i64 0, .int .i64 0, .int .i64 0, .int .u64 0] 26 ?_; intro gb132 hg w43 BK132 hb; have GW132 := bz_ w hg; have GE132 := GW132; have NB131_132 := bn_ BK131 hg; have NB132_131 := bm_ BK131 hg; replace BK131 := bb_ BK131 hb; replace HB := bs_ w hb; clear hb hg; replace hn131_132 := NB131_132.out; replace hn132_131 := NB132_131.out; replace hc131 := ce6_ BK131))
    replace BK131 := Aside0.mk (blk_drew BK131.out)
    replace BK132 := Aside0.mk (blk_drew BK132.out)
    replace HB := Aside0.mk (below_drew1 HB.out)
    refine start_ (n := 20) (S := fun w' => w'.cell? ⟨gb131, 0, none⟩ = some (.int .i64 a0_0) ∧ w'.cell? ⟨gb131, 1, none⟩ = some (.int .i64 a0_1) ∧ w'.cell? ⟨gb131, 2, none⟩ = some (.int .i64 a0_2) ∧ w'.cell? ⟨gb131, 3, none⟩ = some (.int .i64 a0_3) ∧ w'.cell? ⟨gb131, 4, none⟩ = some (.int .i64 a0_4) ∧ w'.cell? ⟨gb131, 5, none⟩ = some (.int .u64 a0_5)) (ds := []) (bl_ 20 0) (by kernel_rfl) rfl (by kernel_rfl) (cc6_ BK131) (fun hHeld => ?_); refine with_tabW bucket_fill.tab3 bucket_fill.bits3 (fun HT_ HW_ => ?_)
    generalize w43.drew = w46 at BK131 BK132 HB hHeld ⊢
    refine pa_ 0 (some 18) (bl_ 20 1) HT_ ?_
    refine pa_ 1 (some 19) (bl_ 20 3) HT_ ?_
    refine pa_ 4 (some 22) (bl_ 20 19) HT_ ?_
    refine pa_ 5 (some 23) (bl_ 20 51) HT_ ?_
    refine pa_ 9 (some 27) (bl_ 20 563) HT_ ?_
    refine ta_ 2 (some 20) (bl_ 20 567) HT_ HW_ hHeld ?_
    refine pa_ 3 (some 21) (bl_ 20 575) HT_ ?_
    refine ta_ 6 (some 24) (bl_ 20 639) HT_ HW_ hHeld ?_
    refine pa_ 7 (some 25) (bl_ 20 767) HT_ ?_
    refine ta_ 10 (some 28) (bl_ 20 1791) HT_ HW_ hHeld ?_
    refine pa_ 11 (some 29) (bl_ 20 3839) HT_ ?_
    refine join_ (σ := Nat) 2 (bl_ 20 262143) (fun s_ => [(26, .agg #[.int .u64 t133, .int .u64 t134]), (30, .agg #[.int .u64 t135, .int .u64 t136]), (31, .tuple #[.agg #[.int .u64 t137, .int .u64 t138], .int .i64 t139]), (5, .pointer (some ⟨s_, 0, none⟩)), (17, .tuple #[.agg #[.int .u64 t137, .int .u64 t138], .int .i64 t139]), (32, .agg #[.int .u64 t137, .int .u64 t138]), (33, .int .i64 t139)]) (fun s_ w' => (w'.cell? ⟨gb131, 0, none⟩ = some (.int .i64 a0_0) ∧ w'.cell? ⟨gb131, 1, none⟩ = some (.int .i64 a0_1) ∧ w'.cell? ⟨gb131, 2, none⟩ = some (.int .i64 a0_2) ∧ w'.cell? ⟨gb131, 3, none⟩ = some (.int .i64 a0_3) ∧ w'.cell? ⟨gb131, 4, none⟩ = some (.int .i64 a0_4) ∧ w'.cell? ⟨gb131, 5, none⟩ = some (.int .u64 a0_5)) ∧ (w'.heap[gb131]? = some (.cells #[.int .i64 a0_0, .int .i64 a0_1, .int .i64 a0_2, .int .i64 a0_3, .int .i64 a0_4, .int .u64 a0_5] 26 (0, 0))) ∧ (w'.heap[gb132]? = some (.cells #[.int .i64 0, .int .i64 0, .int .i64 0, .int .i64 0, .int .i64 0, .int .u64 0] 26 (0, 0))) ∧ (w'.heap[s_]? = some (.cells #[.int .u64 0, .int .u64 0] 82 (0, 0))) ∧ (w.heap.size ≤ s_) ∧ (w.heap.size ≤ s_) ∧ (gb131 ≠ s_) ∧ (s_ ≠ gb131) ∧ (gb132 ≠ s_) ∧ (s_ ≠ gb132) ∧ (Below w.heap.size w w')) ?_ ?_
    rotate_left
    ·intro hCont
     refine tw_ 8 17 (some 26) (some 5) (bl_ 20 4095) (bl_ 20 134911) HT_ (fun K hK => ?_) fun K hK => ?_
     ·refine goesB_ Try.func35 #[.int .u64 (IntKind.u64.wrap (a1 - a0_5)), .int .u64 (IntKind.u64.wrap (a0_1))] ?_
      with_reducible refine (wide_Mul.calls (IntKind.u64.wrap (a1 - a0_5)) (IntKind.u64.wrap (a0_1)) t133 t134 _ A9.out).mono ?_
      rintro e w47 ⟨rfl, hb⟩
      refine ⟨_, rfl, ?_⟩
      replace BK131 := bb_ BK131 hb
      replace BK132 := bb_ BK132 hb
      replace HB := bs_ w hb
      clear hb
      refine hK.out _ _ (cc6_ BK131) (fun hHeld => ?_)
      clear hK K
      refine nm_ (some 26) ?_
      refine tw_ 12 17 (some 30) (some 5) (bl_ 20 8191) (bl_ 20 135167) HT_ (fun K hK => ?_) fun K hK => ?_
      ·refine goesB_ Try.func36 #[.int .u64 (IntKind.u64.wrap (a0_4))] ?_
       with_reducible refine (wide_Of.calls (IntKind.u64.wrap (a0_4)) t135 t136 _ A10.out).mono ?_
       rintro e w48 ⟨rfl, hb⟩
       refine ⟨_, rfl, ?_⟩
       replace BK131 := bb_ BK131 hb
       replace BK132 := bb_ BK132 hb
       replace HB := bs_ w hb
       clear hb
       refine hK.out _ _ (cc6_ BK131) (fun hHeld => ?_)
       clear hK K
       refine nm_ (some 30) ?_
       refine tw_ 13 17 (some 31) (some 5) (bl_ 20 16383) (bl_ 20 139263) HT_ (fun K hK => ?_) fun K hK => ?_
       ·refine goesB_ Try.func34 #[.agg #[.int .u64 t133, .int .u64 t134], .agg #[.int .u64 t135, .int .u64 t136]] ?_
        with_reducible refine (wide_Add.calls t133 t134 t135 t136 t137 t138 t139 _ A11.out).mono ?_
        rintro e w49 ⟨rfl, hb⟩
        refine ⟨_, rfl, ?_⟩
        replace BK131 := bb_ BK131 hb
        replace BK132 := bb_ BK132 hb
        replace HB := bs_ w hb
        clear hb
        refine hK.out _ _ (cc6_ BK131) (fun hHeld => ?_)
        clear hK K
        refine nm_ (some 31) ?_
        refine pa_ 14 (some 17) (bl_ 20 32767) HT_ ?_
        refine pa_ 15 (some 32) (bl_ 20 65535) HT_ ?_
        refine pa_ 16 (some 33) (bl_ 20 131071) HT_ ?_
        refine oa_ 17 (some 5) (bl_ 20 262143) HT_ fun K hK => ?_
        refine bs2_ #[.int .u64 0, .int .u64 0] 82 ?_
        intro gb140 hg w50 BK140 hb
        have GW140 := bz_ w hg
        have GE140 := GW140
        have NB131_140 := bn_ BK131 hg
        have NB140_131 := bm_ BK131 hg
        have NB132_140 := bn_ BK132 hg
        have NB140_132 := bm_ BK132 hg
        replace BK131 := bb_ BK131 hb
        replace BK132 := bb_ BK132 hb
        replace HB := bs_ w hb
        clear hb hg
        refine hK.out _ _ (cc6_ BK131) (fun hHeld => ?_)
        clear hK K
        refine nm_ (some 5) ?_
        exact no_ (hCont (gb140) _ ⟨hHeld, (bq_ BK131), (bq_ BK132), (bq_ BK140), GW140.out, GE140.out, NB131_140.out, NB140_131.out, NB132_140.out, NB140_132.out, bh_⟩)
       ·refine bs2_ #[.int .u64 0, .int .u64 0] 82 ?_
        intro gb140 hg w49 BK140 hb
        have GW140 := bz_ w hg
        have GE140 := GW140
        have NB131_140 := bn_ BK131 hg
        have NB140_131 := bm_ BK131 hg
        have NB132_140 := bn_ BK132 hg
        have NB140_132 := bm_ BK132 hg
        replace BK131 := bb_ BK131 hb
        replace BK132 := bb_ BK132 hb
        replace HB := bs_ w hb
        clear hb hg
        refine hK.out _ _ (cc6_ BK131) (fun hHeld => ?_)
        clear hK K
        refine nm_ (some 5) ?_
        refine oa_ 13 (some 31) (bl_ 20 147455) HT_ fun K hK => ?_
        refine goesB_ Try.func34 #[.agg #[.int .u64 t133, .int .u64 t134], .agg #[.int .u64 t135, .int .u64 t136]] ?_
        with_reducible refine (wide_Add.calls t133 t134 t135 t136 t137 t138 t139 _ A11.out).mono ?_
        rintro e w50 ⟨rfl, hb⟩
        refine ⟨_, rfl, ?_⟩
        replace BK131 := bb_ BK131 hb
        replace BK132 := bb_ BK132 hb
        replace BK140 := bb_ BK140 hb
        replace HB := bs_ w hb
        clear hb
        refine hK.out _ _ (cc6_ BK131) (fun hHeld => ?_)
        clear hK K
        refine nm_ (some 31) ?_
        refine pa_ 14 (some 17) (bl_ 20 163839) HT_ ?_
        refine pa_ 15 (some 32) (bl_ 20 196607) HT_ ?_
        refine pa_ 16 (some 33) (bl_ 20 262143) HT_ ?_
        exact no_ (hCont (gb140) _ ⟨hHeld, (bq_ BK131), (bq_ BK132), (bq_ BK140), GW140.out, GE140.out, NB131_140.out, NB140_131.out, NB132_140.out, NB140_132.out, bh_⟩)
      ·refine bs2_ #[.int .u64 0, .int .u64 0] 82 ?_
       intro gb140 hg w48 BK140 hb
       have GW140 := bz_ w hg
       have GE140 := GW140
       have NB131_140 := bn_ BK131 hg
       have NB140_131 := bm_ BK131 hg
       have NB132_140 := bn_ BK132 hg
       have NB140_132 := bm_ BK132 hg
       replace BK131 := bb_ BK131 hb
       replace BK132 := bb_ BK132 hb
       replace HB := bs_ w hb
       clear hb hg
       refine hK.out _ _ (cc6_ BK131) (fun hHeld => ?_)
       clear hK K
       refine nm_ (some 5) ?_
       refine oa_ 12 (some 30) (bl_ 20 139263) HT_ fun K hK => ?_
       refine goesB_ Try.func36 #[.int .u64 (IntKind.u64.wrap (a0_4))] ?_
       with_reducible refine (wide_Of.calls (IntKind.u64.wrap (a0_4)) t135 t136 _ A10.out).mono ?_
       rintro e w49 ⟨rfl, hb⟩
       refine ⟨_, rfl, ?_⟩
       replace BK131 := bb_ BK131 hb
       replace BK132 := bb_ BK132 hb
       replace BK140 := bb_ BK140 hb
       replace HB := bs_ w hb
       clear hb
       refine hK.out _ _ (cc6_ BK131) (fun hHeld => ?_)
       clear hK K
       refine nm_ (some 30) ?_
       refine oa_ 13 (some 31) (bl_ 20 147455) HT_ fun K hK => ?_
       refine goesB_ Try.func34 #[.agg #[.int .u64 t133, .int .u64 t134], .agg #[.int .u64 t135, .int .u64 t136]] ?_
       with_reducible refine (wide_Add.calls t133 t134 t135 t136 t137 t138 t139 _ A11.out).mono ?_
       rintro e w50 ⟨rfl, hb⟩
       refine ⟨_, rfl, ?_⟩
       replace BK131 := bb_ BK131 hb
       replace BK132 := bb_ BK132 hb
       replace BK140 := bb_ BK140 hb
       replace HB := bs_ w hb
       clear hb
       refine hK.out _ _ (cc6_ BK131) (fun hHeld => ?_)
       clear hK K
       refine nm_ (some 31) ?_
       refine pa_ 14 (some 17) (bl_ 20 163839) HT_ ?_
       refine pa_ 15 (some 32) (bl_ 20 196607) HT_ ?_
       refine pa_ 16 (some 33) (bl_ 20 262143) HT_ ?_
       exact no_ (hCont (gb140) _ ⟨hHeld, (bq_ BK131), (bq_ BK132), (bq_ BK140), GW140.out, GE140.out, NB131_140.out, NB140_131.out, NB132_140.out, NB140_132.out, bh_⟩)
     ·refine bs2_ #[.int .u64 0, .int .u64 0] 82 ?_
      intro gb140 hg w47 BK140 hb
      have GW140 := bz_ w hg
      have GE140 := GW140
      have NB131_140 := bn_ BK131 hg
      have NB140_131 := bm_ BK131 hg
      have NB132_140 := bn_ BK132 hg
      have NB140_132 := bm_ BK132 hg
      replace BK131 := bb_ BK131 hb
      replace BK132 := bb_ BK132 hb
      replace HB := bs_ w hb
      clear hb hg
      refine hK.out _ _ (cc6_ BK131) (fun hHeld => ?_)
      clear hK K
      refine nm_ (some 5) ?_
      refine oa_ 8 (some 26) (bl_ 20 135167) HT_ fun K hK => ?_
      refine goesB_ Try.func35 #[.int .u64 (IntKind.u64.wrap (a1 - a0_5)), .int .u64 (IntKind.u64.wrap (a0_1))] ?_
      with_reducible refine (wide_Mul.calls (IntKind.u64.wrap (a1 - a0_5)) (IntKind.u64.wrap (a0_1)) t133 t134 _ A9.out).mono ?_
      rintro e w48 ⟨rfl, hb⟩
      refine ⟨_, rfl, ?_⟩
      replace BK131 := bb_ BK131 hb
      replace BK132 := bb_ BK132 hb
      replace BK140 := bb_ BK140 hb
      replace HB := bs_ w hb
      clear hb
      refine hK.out _ _ (cc6_ BK131) (fun hHeld => ?_)
      clear hK K
      refine nm_ (some 26) ?_
      refine oa_ 12 (some 30) (bl_ 20 139263) HT_ fun K hK => ?_
      refine goesB_ Try.func36 #[.int .u64 (IntKind.u64.wrap (a0_4))] ?_
      with_reducible refine (wide_Of.calls (IntKind.u64.wrap (a0_4)) t135 t136 _ A10.out).mono ?_
      rintro e w49 ⟨rfl, hb⟩
      refine ⟨_, rfl, ?_⟩
      replace BK131 := bb_ BK131 hb
      replace BK132 := bb_ BK132 hb
      replace BK140 := bb_ BK140 hb
      replace HB := bs_ w hb
      clear hb
      refine hK.out _ _ (cc6_ BK131) (fun hHeld => ?_)
      clear hK K
      refine nm_ (some 30) ?_
      refine oa_ 13 (some 31) (bl_ 20 147455) HT_ fun K hK => ?_
      refine goesB_ Try.func34 #[.agg #[.int .u64 t133, .int .u64 t134], .agg #[.int .u64 t135, .int .u64 t136]] ?_
      with_reducible refine (wide_Add.calls t133 t134 t135 t136 t137 t138 t139 _ A11.out).mono ?_
      rintro e w50 ⟨rfl, hb⟩
      refine ⟨_, rfl, ?_⟩
      replace BK131 := bb_ BK131 hb
      replace BK132 := bb_ BK132 hb
      replace BK140 := bb_ BK140 hb
      replace HB := bs_ w hb
      clear hb
      refine hK.out _ _ (cc6_ BK131) (fun hHeld => ?_)
      clear hK K
      refine nm_ (some 31) ?_
      refine pa_ 14 (some 17) (bl_ 20 163839) HT_ ?_
      refine pa_ 15 (some 32) (bl_ 20 196607) HT_ ?_
      refine pa_ 16 (some 33) (bl_ 20 262143) HT_ ?_
      exact no_ (hCont (gb140) _ ⟨hHeld, (bq_ BK131), (bq_ BK132), (bq_ BK140), GW140.out, GE140.out, NB131_140.out, NB140_131.out, NB132_140.out, NB140_132.out, bh_⟩)
    rintro gb140 w51 ⟨hS_, h0_, h1_, h2_, h3_, h4_, h5_, h6_, h7_, h8_, h9_⟩
    have BK140 := Aside0.mk h2_
    have GW140 := Aside0.mk h3_
    have GE140 := Aside0.mk h4_
    have NB131_140 := Aside0.mk h5_
    have NB140_131 := Aside0.mk h6_
    have NB132_140 := Aside0.mk h7_
    have NB140_132 := Aside0.mk h8_
    replace BK131 := Aside0.mk h0_
    replace BK132 := Aside0.mk h1_
    replace HB := Aside0.mk h9_
    clear h0_ h1_ h2_ h3_ h4_ h5_ h6_ h7_ h8_ h9_
    have hHeld := hS_
    refine nq_ ?_
    refine oa_ 18 none (bl_ 20 524287) HT_ fun K hK => ?_
    have hs52 : w51.cell? ⟨gb140, 0, none⟩ = some (.int .u64 0) := (blk_cell BK140.out 0).trans rfl
    have hfs52 := blk_frozen BK140.out 0
    have hns52_0 := NB131_140.out
    have hns52_1 := NB132_140.out
    have hms52_0 := NB140_131.out
    have hms52_1 := NB140_132.out
    have hs53 : w51.cell? ⟨gb140, 1, none⟩ = some (.int .u64 0) := (blk_cell BK140.out 1).trans rfl
    have hfs53 := blk_frozen BK140.out 1
    have hns53_0 := NB131_140.out
    have hns53_1 := NB132_140.out
    have hms53_0 := NB140_131.out
    have hms53_1 := NB140_132.out
    refine sk_ ?_
    refine hK.out _ _ (cf6_ hHeld) (fun hHeld => ?_)
    clear hK K
    refine pa_ 19 (some 6) (bl_ 20 1048575) HT_ ?_
    refine done_ (done_of HT_.out (by kernel_rfl)) ?_
    replace hn140_131 := NB140_131.out
    replace hn131_140 := NB131_140.out
    replace hn140_132 := NB140_132.out
    replace hn132_140 := NB132_140.out
    replace hc140 := ce2_ BK140
    replace hc131 := ce6_ BK131
    try go_wp2_with (first | ((with_reducible refine gate_callee (f := 37) rfl ?_); (try refine ug_ (by rfl) ?_); refine goesA_ (some 40) Try.func37 #[.agg #[.int .u64 t137, .int .u64 t138], .int .u64 (IntKind.u64.wrap (a0_2))] ?_; (with_reducible refine (wide_Div.calls k t137 t138 (IntKind.u64.wrap (a0_2)) t141 t142 t143 t144 _ A12.out).mono ?_); rintro e w58 ⟨rfl, hb⟩; refine ⟨_, rfl, ?_⟩; replace BK131 := bf_ BK131 hb; replace BK132 := bf_ BK132 hb; replace BK140 := Aside0.mk (blk_below (g := gb140) (o := .cells #[.int .u64 t137, .int .u64 t138] 82 (0, 0)) (bp2_ (bq_ BK140)) hb); replace HB := bs_ w hb; clear hb) | ((with_reducible refine gate_dst (N := 7) rfl ?_); (try refine ug_ (by rfl) ?_); refine bx_ #[.int .u64 0, .int .u64 0] 82 ?_; intro gb145 hg w59 BK145 hb; have GW145 := bz_ w hg; have GE145 := GW145; have NB131_145 := bn_ BK131 hg; have NB145_131 := bm_ BK131 hg; have NB132_145 := bn_ BK132 hg; have NB145_132 := bm_ BK132 hg; have NB140_145 := bn_ BK140 hg; have NB145_140 := bm_ BK140 hg; replace BK131 := bb_ BK131 hb; replace BK132 := bb_ BK132 hb; replace BK140 := bb_ BK140 hb; replace HB := bs_ w hb; clear hb hg; replace hn145_131 := NB145_131.out; replace hn131_145 := NB131_145.out; replace hn145_132 := NB145_132.out; replace hn132_145 := NB132_145.out; replace hn145_140 := NB145_140.out; replace hn140_145 := NB140_145.out; replace hc145 := ce2_ BK145; replace hc131 := ce6_ BK131) | ((with_reducible refine gate_callee (f := 56) rfl ?_); (try refine ug_ (by rfl) ?_); refine goesA_ (some 48) Try.func56 #[.agg #[.int .u64 t141, .int .u64 t142]] ?_; (with_reducible refine (wide_Small.calls t141 t142 t146 t147 _ A13.out).mono ?_); rintro e w65 ⟨rfl, hb⟩; refine ⟨_, rfl, ?_⟩; replace BK131 := Aside0.mk (blk_below (g := gb131) (o := .cells #[.int .i64 a0_0, .int .i64 a0_1, .int .i64 a0_2, .int .i64 a0_3, .int .i64 a0_4, .int .u64 a1] 26 (0, 0)) (blk_put (cs := #[.int .i64 a0_0, .int .i64 a0_1, .int .i64 a0_2, .int .i64 a0_3, .int .i64 a0_4, .int .u64 a0_5]) (bt_ BK131) 5 _ rfl) hb); replace BK132 := bf_ BK132 hb; replace BK140 := bf_ BK140 hb; replace BK145 := Aside0.mk (blk_below (g := gb145) (o := .cells #[.int .u64 t141, .int .u64 t142] 82 (0, 0)) (blk_far (bp2_ (bq_ BK145)) NB145_131.out _) hb); replace HB := bs_ w hb; clear hb; replace hc131 := ce6_ BK131; replace hc132 := ce6_ BK132))
    refine bodyPost_ret (results_cell_row rfl _ _ gb132 26 #[.int .i64 a0_0, .int .i64 a0_1, .int .i64 a0_2, .int .i64 (wrap64 (a0_3 + (wrap64 (t146)))), .int .i64 (wrap64 (t143)), .int .u64 a1] (0, 0) _ rfl (bp6_ (bt_ BK132)) Try.underlying26 rfl (by kernel_rfl)) rfl ?_
    exact fi_
  ·rw [if_neg c14] at H
   have c14b0 : (t147 == 0) = false := beq_eq_false_iff_ne.mpr c14
   have c14b1 : (t147 != 0) = true := bne_iff_ne.mpr c14
   simp only [Option.some.injEq, Prod.mk.injEq] at H
   obtain ⟨rfl, rfl, rfl, rfl, rfl, rfl⟩ := H
   go_enter Try.func46, Try.ntmps46
   try go_wp2_with (first | ((with_reducible refine gate_dst (N := 2) rfl ?_); (try refine ug_ (by rfl) ?_); refine bx_ #[.int .i64 a0_0, .int .i64 a0_1, .int .i64 a0_2, .int .i64 a0_3, .int .i64 a0_4, .int .u64 a0_5] 26 ?_; intro gb131 hg w68 BK131 hb; have GW131 := bz_ w hg; have GE131 := GW131; replace HB := bs_ w hb; clear hb hg) | ((with_reducible refine gate_dst (N := 4) rfl ?_); (try refine ug_ (by rfl) ?_); refine bx_ #[.int .i64 0, .int .i64 0, .int .i64 0, .int .i64 0, .int .i64 0, .int .u64 0] 26 ?_; intro gb132 hg w69 BK132 hb; have GW132 := bz_ w hg; have GE132 := GW132; have NB131_132 := bn_ BK131 hg; have NB132_131 := bm_ BK131 hg; replace BK131 := bb_ BK131 hb; replace HB := bs_ w hb; clear hb hg; replace hn131_132 := NB131_132.out; replace hn132_131 := NB132_131.out; replace hc131 := ce6_ BK131))
   replace BK131 := Aside0.mk (blk_drew BK131.out)
   replace BK132 := Aside0.mk (blk_drew BK132.out)
   replace HB := Aside0.mk (below_drew1 HB.out)
   refine start_ (n := 20) (S := fun w' => w'.cell? ⟨gb131, 0, none⟩ = some (.int .i64 a0_0) ∧ w'.cell? ⟨gb131, 1, none⟩ = some (.int .i64 a0_1) ∧ w'.cell? ⟨gb131, 2, none⟩ = some (.int .i64 a0_2) ∧ w'.cell? ⟨gb131, 3, none⟩ = some (.int .i64 a0_3) ∧ w'.cell? ⟨gb131, 4, none⟩ = some (.int .i64 a0_4) ∧ w'.cell? ⟨gb131, 5, none⟩ = some (.int .u64 a0_5)) (ds := []) (bl_ 20 0) (by kernel_rfl) rfl (by kernel_rfl) (cc6_ BK131) (fun hHeld => ?_); refine with_tabW bucket_fill.tab3 bucket_fill.bits3 (fun HT_ HW_ => ?_)
   generalize w69.drew = w72 at BK131 BK132 HB hHeld ⊢
   refine pa_ 0 (some 18) (bl_ 20 1) HT_ ?_
   refine pa_ 1 (some 19) (bl_ 20 3) HT_ ?_
   refine pa_ 4 (some 22) (bl_ 20 19) HT_ ?_
   refine pa_ 5 (some 23) (bl_ 20 51) HT_ ?_
   refine pa_ 9 (some 27) (bl_ 20 563) HT_ ?_
   refine ta_ 2 (some 20) (bl_ 20 567) HT_ HW_ hHeld ?_
   refine pa_ 3 (some 21) (bl_ 20 575) HT_ ?_
   refine ta_ 6 (some 24) (bl_ 20 639) HT_ HW_ hHeld ?_
   refine pa_ 7 (some 25) (bl_ 20 767) HT_ ?_
   refine ta_ 10 (some 28) (bl_ 20 1791) HT_ HW_ hHeld ?_
   refine pa_ 11 (some 29) (bl_ 20 3839) HT_ ?_
   refine join_ (σ := Nat) 2 (bl_ 20 262143) (fun s_ => [(26, .agg #[.int .u64 t133, .int .u64 t134]), (30, .agg #[.int .u64 t135, .int .u64 t136]), (31, .tuple #[.agg #[.int .u64 t137, .int .u64 t138], .int .i64 t139]), (5, .pointer (some ⟨s_, 0, none⟩)), (17, .tuple #[.agg #[.int .u64 t137, .int .u64 t138], .int .i64 t139]), (32, .agg #[.int .u64 t137, .int .u64 t138]), (33, .int .i64 t139)]) (fun s_ w' => (w'.cell? ⟨gb131, 0, none⟩ = some (.int .i64 a0_0) ∧ w'.cell? ⟨gb131, 1, none⟩ = some (.int .i64 a0_1) ∧ w'.cell? ⟨gb131, 2, none⟩ = some (.int .i64 a0_2) ∧ w'.cell? ⟨gb131, 3, none⟩ = some (.int .i64 a0_3) ∧ w'.cell? ⟨gb131, 4, none⟩ = some (.int .i64 a0_4) ∧ w'.cell? ⟨gb131, 5, none⟩ = some (.int .u64 a0_5)) ∧ (w'.heap[gb131]? = some (.cells #[.int .i64 a0_0, .int .i64 a0_1, .int .i64 a0_2, .int .i64 a0_3, .int .i64 a0_4, .int .u64 a0_5] 26 (0, 0))) ∧ (w'.heap[gb132]? = some (.cells #[.int .i64 0, .int .i64 0, .int .i64 0, .int .i64 0, .int .i64 0, .int .u64 0] 26 (0, 0))) ∧ (w'.heap[s_]? = some (.cells #[.int .u64 0, .int .u64 0] 82 (0, 0))) ∧ (w.heap.size ≤ s_) ∧ (w.heap.size ≤ s_) ∧ (gb131 ≠ s_) ∧ (s_ ≠ gb131) ∧ (gb132 ≠ s_) ∧ (s_ ≠ gb132) ∧ (Below w.heap.size w w')) ?_ ?_
   rotate_left
   ·intro hCont
    refine tw_ 8 17 (some 26) (some 5) (bl_ 20 4095) (bl_ 20 134911) HT_ (fun K hK => ?_) fun K hK => ?_
    ·refine goesB_ Try.func35 #[.int .u64 (IntKind.u64.wrap (a1 - a0_5)), .int .u64 (IntKind.u64.wrap (a0_1))] ?_
     with_reducible refine (wide_Mul.calls (IntKind.u64.wrap (a1 - a0_5)) (IntKind.u64.wrap (a0_1)) t133 t134 _ A9.out).mono ?_
     rintro e w73 ⟨rfl, hb⟩
     refine ⟨_, rfl, ?_⟩
     replace BK131 := bb_ BK131 hb
     replace BK132 := bb_ BK132 hb
     replace HB := bs_ w hb
     clear hb
     refine hK.out _ _ (cc6_ BK131) (fun hHeld => ?_)
     clear hK K
     refine nm_ (some 26) ?_
     refine tw_ 12 17 (some 30) (some 5) (bl_ 20 8191) (bl_ 20 135167) HT_ (fun K hK => ?_) fun K hK => ?_
     ·refine goesB_ Try.func36 #[.int .u64 (IntKind.u64.wrap (a0_4))] ?_
      with_reducible refine (wide_Of.calls (IntKind.u64.wrap (a0_4)) t135 t136 _ A10.out).mono ?_
      rintro e w74 ⟨rfl, hb⟩
      refine ⟨_, rfl, ?_⟩
      replace BK131 := bb_ BK131 hb
      replace BK132 := bb_ BK132 hb
      replace HB := bs_ w hb
      clear hb
      refine hK.out _ _ (cc6_ BK131) (fun hHeld => ?_)
      clear hK K
      refine nm_ (some 30) ?_
      refine tw_ 13 17 (some 31) (some 5) (bl_ 20 16383) (bl_ 20 139263) HT_ (fun K hK => ?_) fun K hK => ?_
      ·refine goesB_ Try.func34 #[.agg #[.int .u64 t133, .int .u64 t134], .agg #[.int .u64 t135, .int .u64 t136]] ?_
       with_reducible refine (wide_Add.calls t133 t134 t135 t136 t137 t138 t139 _ A11.out).mono ?_
       rintro e w75 ⟨rfl, hb⟩
       refine ⟨_, rfl, ?_⟩
       replace BK131 := bb_ BK131 hb
       replace BK132 := bb_ BK132 hb
       replace HB := bs_ w hb
       clear hb
       refine hK.out _ _ (cc6_ BK131) (fun hHeld => ?_)
       clear hK K
       refine nm_ (some 31) ?_
       refine pa_ 14 (some 17) (bl_ 20 32767) HT_ ?_
       refine pa_ 15 (some 32) (bl_ 20 65535) HT_ ?_
       refine pa_ 16 (some 33) (bl_ 20 131071) HT_ ?_
       refine oa_ 17 (some 5) (bl_ 20 262143) HT_ fun K hK => ?_
       refine bs2_ #[.int .u64 0, .int .u64 0] 82 ?_
       intro gb140 hg w76 BK140 hb
       have GW140 := bz_ w hg
       have GE140 := GW140
       have NB131_140 := bn_ BK131 hg
       have NB140_131 := bm_ BK131 hg
       have NB132_140 := bn_ BK132 hg
       have NB140_132 := bm_ BK132 hg
       replace BK131 := bb_ BK131 hb
       replace BK132 := bb_ BK132 hb
       replace HB := bs_ w hb
       clear hb hg
       refine hK.out _ _ (cc6_ BK131) (fun hHeld => ?_)
       clear hK K
       refine nm_ (some 5) ?_
       exact no_ (hCont (gb140) _ ⟨hHeld, (bq_ BK131), (bq_ BK132), (bq_ BK140), GW140.out, GE140.out, NB131_140.out, NB140_131.out, NB132_140.out, NB140_132.out, bh_⟩)
      ·refine bs2_ #[.int .u64 0, .int .u64 0] 82 ?_
       intro gb140 hg w75 BK140 hb
       have GW140 := bz_ w hg
       have GE140 := GW140
       have NB131_140 := bn_ BK131 hg
       have NB140_131 := bm_ BK131 hg
       have NB132_140 := bn_ BK132 hg
       have NB140_132 := bm_ BK132 hg
       replace BK131 := bb_ BK131 hb
       replace BK132 := bb_ BK132 hb
       replace HB := bs_ w hb
       clear hb hg
       refine hK.out _ _ (cc6_ BK131) (fun hHeld => ?_)
       clear hK K
       refine nm_ (some 5) ?_
       refine oa_ 13 (some 31) (bl_ 20 147455) HT_ fun K hK => ?_
       refine goesB_ Try.func34 #[.agg #[.int .u64 t133, .int .u64 t134], .agg #[.int .u64 t135, .int .u64 t136]] ?_
       with_reducible refine (wide_Add.calls t133 t134 t135 t136 t137 t138 t139 _ A11.out).mono ?_
       rintro e w76 ⟨rfl, hb⟩
       refine ⟨_, rfl, ?_⟩
       replace BK131 := bb_ BK131 hb
       replace BK132 := bb_ BK132 hb
       replace BK140 := bb_ BK140 hb
       replace HB := bs_ w hb
       clear hb
       refine hK.out _ _ (cc6_ BK131) (fun hHeld => ?_)
       clear hK K
       refine nm_ (some 31) ?_
       refine pa_ 14 (some 17) (bl_ 20 163839) HT_ ?_
       refine pa_ 15 (some 32) (bl_ 20 196607) HT_ ?_
       refine pa_ 16 (some 33) (bl_ 20 262143) HT_ ?_
       exact no_ (hCont (gb140) _ ⟨hHeld, (bq_ BK131), (bq_ BK132), (bq_ BK140), GW140.out, GE140.out, NB131_140.out, NB140_131.out, NB132_140.out, NB140_132.out, bh_⟩)
     ·refine bs2_ #[.int .u64 0, .int .u64 0] 82 ?_
      intro gb140 hg w74 BK140 hb
      have GW140 := bz_ w hg
      have GE140 := GW140
      have NB131_140 := bn_ BK131 hg
      have NB140_131 := bm_ BK131 hg
      have NB132_140 := bn_ BK132 hg
      have NB140_132 := bm_ BK132 hg
      replace BK131 := bb_ BK131 hb
      replace BK132 := bb_ BK132 hb
      replace HB := bs_ w hb
      clear hb hg
      refine hK.out _ _ (cc6_ BK131) (fun hHeld => ?_)
      clear hK K
      refine nm_ (some 5) ?_
      refine oa_ 12 (some 30) (bl_ 20 139263) HT_ fun K hK => ?_
      refine goesB_ Try.func36 #[.int .u64 (IntKind.u64.wrap (a0_4))] ?_
      with_reducible refine (wide_Of.calls (IntKind.u64.wrap (a0_4)) t135 t136 _ A10.out).mono ?_
      rintro e w75 ⟨rfl, hb⟩
      refine ⟨_, rfl, ?_⟩
      replace BK131 := bb_ BK131 hb
      replace BK132 := bb_ BK132 hb
      replace BK140 := bb_ BK140 hb
      replace HB := bs_ w hb
      clear hb
      refine hK.out _ _ (cc6_ BK131) (fun hHeld => ?_)
      clear hK K
      refine nm_ (some 30) ?_
      refine oa_ 13 (some 31) (bl_ 20 147455) HT_ fun K hK => ?_
      refine goesB_ Try.func34 #[.agg #[.int .u64 t133, .int .u64 t134], .agg #[.int .u64 t135, .int .u64 t136]] ?_
      with_reducible refine (wide_Add.calls t133 t134 t135 t136 t137 t138 t139 _ A11.out).mono ?_
      rintro e w76 ⟨rfl, hb⟩
      refine ⟨_, rfl, ?_⟩
      replace BK131 := bb_ BK131 hb
      replace BK132 := bb_ BK132 hb
      replace BK140 := bb_ BK140 hb
      replace HB := bs_ w hb
      clear hb
      refine hK.out _ _ (cc6_ BK131) (fun hHeld => ?_)
      clear hK K
      refine nm_ (some 31) ?_
      refine pa_ 14 (some 17) (bl_ 20 163839) HT_ ?_
      refine pa_ 15 (some 32) (bl_ 20 196607) HT_ ?_
      refine pa_ 16 (some 33) (bl_ 20 262143) HT_ ?_
      exact no_ (hCont (gb140) _ ⟨hHeld, (bq_ BK131), (bq_ BK132), (bq_ BK140), GW140.out, GE140.out, NB131_140.out, NB140_131.out, NB132_140.out, NB140_132.out, bh_⟩)
    ·refine bs2_ #[.int .u64 0, .int .u64 0] 82 ?_
     intro gb140 hg w73 BK140 hb
     have GW140 := bz_ w hg
     have GE140 := GW140
     have NB131_140 := bn_ BK131 hg
     have NB140_131 := bm_ BK131 hg
     have NB132_140 := bn_ BK132 hg
     have NB140_132 := bm_ BK132 hg
     replace BK131 := bb_ BK131 hb
     replace BK132 := bb_ BK132 hb
     replace HB := bs_ w hb
     clear hb hg
     refine hK.out _ _ (cc6_ BK131) (fun hHeld => ?_)
     clear hK K
     refine nm_ (some 5) ?_
     refine oa_ 8 (some 26) (bl_ 20 135167) HT_ fun K hK => ?_
     refine goesB_ Try.func35 #[.int .u64 (IntKind.u64.wrap (a1 - a0_5)), .int .u64 (IntKind.u64.wrap (a0_1))] ?_
     with_reducible refine (wide_Mul.calls (IntKind.u64.wrap (a1 - a0_5)) (IntKind.u64.wrap (a0_1)) t133 t134 _ A9.out).mono ?_
     rintro e w74 ⟨rfl, hb⟩
     refine ⟨_, rfl, ?_⟩
     replace BK131 := bb_ BK131 hb
     replace BK132 := bb_ BK132 hb
     replace BK140 := bb_ BK140 hb
     replace HB := bs_ w hb
     clear hb
     refine hK.out _ _ (cc6_ BK131) (fun hHeld => ?_)
     clear hK K
     refine nm_ (some 26) ?_
     refine oa_ 12 (some 30) (bl_ 20 139263) HT_ fun K hK => ?_
     refine goesB_ Try.func36 #[.int .u64 (IntKind.u64.wrap (a0_4))] ?_
     with_reducible refine (wide_Of.calls (IntKind.u64.wrap (a0_4)) t135 t136 _ A10.out).mono ?_
     rintro e w75 ⟨rfl, hb⟩
     refine ⟨_, rfl, ?_⟩
     replace BK131 := bb_ BK131 hb
     replace BK132 := bb_ BK132 hb
     replace BK140 := bb_ BK140 hb
     replace HB := bs_ w hb
     clear hb
     refine hK.out _ _ (cc6_ BK131) (fun hHeld => ?_)
     clear hK K
     refine nm_ (some 30) ?_
     refine oa_ 13 (some 31) (bl_ 20 147455) HT_ fun K hK => ?_
     refine goesB_ Try.func34 #[.agg #[.int .u64 t133, .int .u64 t134], .agg #[.int .u64 t135, .int .u64 t136]] ?_
     with_reducible refine (wide_Add.calls t133 t134 t135 t136 t137 t138 t139 _ A11.out).mono ?_
     rintro e w76 ⟨rfl, hb⟩
     refine ⟨_, rfl, ?_⟩
     replace BK131 := bb_ BK131 hb
     replace BK132 := bb_ BK132 hb
     replace BK140 := bb_ BK140 hb
     replace HB := bs_ w hb
     clear hb
     refine hK.out _ _ (cc6_ BK131) (fun hHeld => ?_)
     clear hK K
     refine nm_ (some 31) ?_
     refine pa_ 14 (some 17) (bl_ 20 163839) HT_ ?_
     refine pa_ 15 (some 32) (bl_ 20 196607) HT_ ?_
     refine pa_ 16 (some 33) (bl_ 20 262143) HT_ ?_
     exact no_ (hCont (gb140) _ ⟨hHeld, (bq_ BK131), (bq_ BK132), (bq_ BK140), GW140.out, GE140.out, NB131_140.out, NB140_131.out, NB132_140.out, NB140_132.out, bh_⟩)
   rintro gb140 w77 ⟨hS_, h0_, h1_, h2_, h3_, h4_, h5_, h6_, h7_, h8_, h9_⟩
   have BK140 := Aside0.mk h2_
   have GW140 := Aside0.mk h3_
   have GE140 := Aside0.mk h4_
   have NB131_140 := Aside0.mk h5_
   have NB140_131 := Aside0.mk h6_
   have NB132_140 := Aside0.mk h7_
   have NB140_132 := Aside0.mk h8_
   replace BK131 := Aside0.mk h0_
   replace BK132 := Aside0.mk h1_
   replace HB := Aside0.mk h9_
   clear h0_ h1_ h2_ h3_ h4_ h5_ h6_ h7_ h8_ h9_
   have hHeld := hS_
   refine nq_ ?_
   refine oa_ 18 none (bl_ 20 524287) HT_ fun K hK => ?_
   have hs78 : w77.cell? ⟨gb140, 0, none⟩ = some (.int .u64 0) := (blk_cell BK140.out 0).trans rfl
   have hfs78 := blk_frozen BK140.out 0
   have hns78_0 := NB131_140.out
   have hns78_1 := NB132_140.out
   have hms78_0 := NB140_131.out
   have hms78_1 := NB140_132.out
   have hs79 : w77.cell? ⟨gb140, 1, none⟩ = some (.int .u64 0) := (blk_cell BK140.out 1).trans rfl
   have hfs79 := blk_frozen BK140.out 1
   have hns79_0 := NB131_140.out
   have hns79_1 := NB132_140.out
   have hms79_0 := NB140_131.out
   have hms79_1 := NB140_132.out
   refine sk_ ?_
   refine hK.out _ _ (cf6_ hHeld) (fun hHeld => ?_)
   clear hK K
   refine pa_ 19 (some 6) (bl_ 20 1048575) HT_ ?_
   refine done_ (done_of HT_.out (by kernel_rfl)) ?_
   replace hn140_131 := NB140_131.out
   replace hn131_140 := NB131_140.out
   replace hn140_132 := NB140_132.out
   replace hn132_140 := NB132_140.out
   replace hc140 := ce2_ BK140
   replace hc131 := ce6_ BK131
   try go_wp2_with (first | ((with_reducible refine gate_callee (f := 37) rfl ?_); (try refine ug_ (by rfl) ?_); refine goesA_ (some 40) Try.func37 #[.agg #[.int .u64 t137, .int .u64 t138], .int .u64 (IntKind.u64.wrap (a0_2))] ?_; (with_reducible refine (wide_Div.calls k t137 t138 (IntKind.u64.wrap (a0_2)) t141 t142 t143 t144 _ A12.out).mono ?_); rintro e w84 ⟨rfl, hb⟩; refine ⟨_, rfl, ?_⟩; replace BK131 := bf_ BK131 hb; replace BK132 := bf_ BK132 hb; replace BK140 := Aside0.mk (blk_below (g := gb140) (o := .cells #[.int .u64 t137, .int .u64 t138] 82 (0, 0)) (bp2_ (bq_ BK140)) hb); replace HB := bs_ w hb; clear hb) | ((with_reducible refine gate_dst (N := 7) rfl ?_); (try refine ug_ (by rfl) ?_); refine bx_ #[.int .u64 0, .int .u64 0] 82 ?_; intro gb145 hg w85 BK145 hb; have GW145 := bz_ w hg; have GE145 := GW145; have NB131_145 := bn_ BK131 hg; have NB145_131 := bm_ BK131 hg; have NB132_145 := bn_ BK132 hg; have NB145_132 := bm_ BK132 hg; have NB140_145 := bn_ BK140 hg; have NB145_140 := bm_ BK140 hg; replace BK131 := bb_ BK131 hb; replace BK132 := bb_ BK132 hb; replace BK140 := bb_ BK140 hb; replace HB := bs_ w hb; clear hb hg; replace hn145_131 := NB145_131.out; replace hn131_145 := NB131_145.out; replace hn145_132 := NB145_132.out; replace hn132_145 := NB132_145.out; replace hn145_140 := NB145_140.out; replace hn140_145 := NB140_145.out; replace hc145 := ce2_ BK145; replace hc131 := ce6_ BK131) | ((with_reducible refine gate_callee (f := 56) rfl ?_); (try refine ug_ (by rfl) ?_); refine goesA_ (some 48) Try.func56 #[.agg #[.int .u64 t141, .int .u64 t142]] ?_; (with_reducible refine (wide_Small.calls t141 t142 t146 t147 _ A13.out).mono ?_); rintro e w91 ⟨rfl, hb⟩; refine ⟨_, rfl, ?_⟩; replace BK131 := Aside0.mk (blk_below (g := gb131) (o := .cells #[.int .i64 a0_0, .int .i64 a0_1, .int .i64 a0_2, .int .i64 a0_3, .int .i64 a0_4, .int .u64 a1] 26 (0, 0)) (blk_put (cs := #[.int .i64 a0_0, .int .i64 a0_1, .int .i64 a0_2, .int .i64 a0_3, .int .i64 a0_4, .int .u64 a0_5]) (bt_ BK131) 5 _ rfl) hb); replace BK132 := bf_ BK132 hb; replace BK140 := bf_ BK140 hb; replace BK145 := Aside0.mk (blk_below (g := gb145) (o := .cells #[.int .u64 t141, .int .u64 t142] 82 (0, 0)) (blk_far (bp2_ (bq_ BK145)) NB145_131.out _) hb); replace HB := bs_ w hb; clear hb; replace hc131 := ce6_ BK131; replace hc132 := ce6_ BK132))
   refine bodyPost_ret (results_cell_row rfl _ _ gb132 26 #[.int .i64 a0_0, .int .i64 a0_1, .int .i64 a0_2, .int .i64 a0_0, .int .i64 0, .int .u64 a1] (0, 0) _ rfl (bp6_ (bt_ BK132)) Try.underlying26 rfl (by kernel_rfl)) rfl ?_
   exact fi_

end Go.Proofs.Ytbfdpodlnijeoaa.X
