-- written by xprint.py, a program of this session over the kit's print
import Derived.Test.YtiifhbaabnpkeaaX0
import Derived.Test.YtiifhbaabnpkeaaX5
import Derived.Test.YtiifhbaabnpkeaaX8
namespace Go.Proofs.Ytiifhbaabnpkeaa.X
open Go.RowKit Go.Proofs.YtiifhbaabnpkeaaW.PrintWords Go.Proofs.YtiifhbaabnpkeaaW.PrintLast Go.Proofs.YtiifhbaabnpkeaaW.PrintMore
attribute [local go_sem] max2_int min2_int max_two min_two max_three min_three max_four min_four   -- for this text's walks alone
set_option linter.unusedVariables false
set_option linter.unusedSimpArgs false

/-! ### bucket_fill: function 49 -/
def bucket_fill.f (k : Nat) (a0_0 : Int) (a0_1 : Int) (a0_2 : Int) (a0_3 : Int) (a0_4 : Int) (a0_5 : Int) (a1 : Int) : Option (Int × Int × Int × Int × Int × Int) := if a1 ≤ a0_5 then (some (a0_0, a0_1, a0_2, a0_3, a0_4, a0_5)) else ((wide_Mul.f (IntKind.u64.wrap (a1 - a0_5)) (IntKind.u64.wrap (a0_1))).bind fun bt142 => ((wide_Of.f (IntKind.u64.wrap (a0_4))).bind fun bt144 => ((wide_Add.f bt142.1 bt142.2 bt144.1 bt144.2).bind fun bt146 => ((wide_Div.f k bt146.1 bt146.2.1 (IntKind.u64.wrap (a0_2))).bind fun bt150 => ((wide_Small.f bt150.1 bt150.2.1).bind fun bt155 => (if bt155.2 = 0 then (if bt155.1 ≥ (IntKind.u64.wrap (wrap64 (a0_0 - a0_3))) then (some (a0_0, a0_1, a0_2, a0_0, 0, a1)) else (some (a0_0, a0_1, a0_2, wrap64 (a0_3 + (wrap64 (bt155.1))), wrap64 (bt150.2.2.1), a1))) else (some (a0_0, a0_1, a0_2, a0_0, 0, a1))))))))
theorem bucket_fill.mono : ∀ a0 a1 a2 a3 a4 a5 a6 k, LeO (bucket_fill.f k a0 a1 a2 a3 a4 a5 a6) (bucket_fill.f (k + 1) a0 a1 a2 a3 a4 a5 a6) := by
  intro a0 a1 a2 a3 a4 a5 a6 k
  unfold bucket_fill.f
  repeat' first
      | (with_reducible exact wide_Div.mono _ _ _ _)
      | (with_reducible exact LeO.refl _)
      | (with_reducible exact LeO.none _)
      | (with_reducible refine LeO.ite ?_ ?_)
      | (with_reducible refine LeO.bind ?_ (fun _ => ?_))
      | exact wide_Div.mono _ _ _ _
      | exact LeO.none _
      | refine LeO.ite ?_ ?_
      | refine LeO.bind ?_ (fun _ => ?_)
def bucket_fill.T3 : Bool × List (List Nat × List Nat) := (true, [([], []), ([], []), ([1], [1]), ([0, 2], [0, 2]), ([], []), ([4], [4]), ([5], [5]), ([6], [6]), ([3, 7], [3, 7]), ([], []), ([9], [9]), ([10], [10]), ([11, 8], [11]), ([8, 12, 12], [8, 12]), ([13], [13]), ([14], [14]), ([14], [14]), ([], []), ([17, 15, 13, 0, 1, 2, 3, 4, 5, 6, 7, 8, 9, 10, 11, 12, 13, 14, 15, 17], [15, 17]), ([16, 18, 0, 1, 2, 3, 4, 5, 6, 7, 8, 9, 10, 11, 12, 13, 14, 15, 16, 17, 18], [16])])
def bucket_fill.B3 : List Nat := [0, 0, 2, 7, 0, 16, 48, 112, 255, 0, 512, 1536, 4095, 8191, 16383, 32767, 32767, 0, 196607, 524287]
theorem bucket_fill.tab3 : rtab .any (opsOf Try.f49 3) = bucket_fill.T3 := by kernel_rfl
theorem bucket_fill.bits3 : waitsOk bucket_fill.T3.2 bucket_fill.B3 = true := by kernel_rfl
set_option maxHeartbeats 8000000 in
set_option maxRecDepth 100000 in
theorem bucket_fill.calls (k : Nat) (a0_0 : Int) (a0_1 : Int) (a0_2 : Int) (a0_3 : Int) (a0_4 : Int) (a0_5 : Int) (a1 : Int) (r1 : Int) (r2 : Int) (r3 : Int) (r4 : Int) (r5 : Int) (r6 : Int) (w : World) (h : bucket_fill.f k a0_0 a0_1 a0_2 a0_3 a0_4 a0_5 a1 = some (r1, r2, r3, r4, r5, r6)) :
  Calls Try.prog 49 #[.agg #[.int .i64 a0_0, .int .i64 a0_1, .int .i64 a0_2, .int .i64 a0_3, .int .i64 a0_4, .int .u64 a0_5], .int .u64 a1] w fun e w' => e = .returned (.agg #[.int .i64 r1, .int .i64 r2, .int .i64 r3, .int .i64 r4, .int .i64 r5, .int .u64 r6]) ∧ Below w.heap.size w w' := by
 have hu32 := Try.underlying32
 have hu59 := Try.underlying59
 have HB := Aside0.mk (Below.refl w.heap.size w)
 have H : (if a1 ≤ a0_5 then (some (a0_0, a0_1, a0_2, a0_3, a0_4, a0_5)) else ((wide_Mul.f (IntKind.u64.wrap (a1 - a0_5)) (IntKind.u64.wrap (a0_1))).bind fun bt142 => ((wide_Of.f (IntKind.u64.wrap (a0_4))).bind fun bt144 => ((wide_Add.f bt142.1 bt142.2 bt144.1 bt144.2).bind fun bt146 => ((wide_Div.f k bt146.1 bt146.2.1 (IntKind.u64.wrap (a0_2))).bind fun bt150 => ((wide_Small.f bt150.1 bt150.2.1).bind fun bt155 => (if bt155.2 = 0 then (if bt155.1 ≥ (IntKind.u64.wrap (wrap64 (a0_0 - a0_3))) then (some (a0_0, a0_1, a0_2, a0_0, 0, a1)) else (some (a0_0, a0_1, a0_2, wrap64 (a0_3 + (wrap64 (bt155.1))), wrap64 (bt150.2.2.1), a1))) else (some (a0_0, a0_1, a0_2, a0_0, 0, a1))))))))) = some (r1, r2, r3, r4, r5, r6) := h
 clear h
 by_cases c3 : a1 ≤ a0_5
 ·rw [if_pos c3] at H
  have c3b0 : decide (a1 ≤ a0_5) = true := decide_eq_true c3
  clear c3
  simp only [Option.some.injEq, Prod.mk.injEq] at H
  obtain ⟨rfl, rfl, rfl, rfl, rfl, rfl⟩ := H
  go_enter Try.func49, Try.ntmps49
  go_wp2_with (first | ((with_reducible refine gate_dst (N := 2) rfl ?_); (try refine ug_ (by rfl) ?_); refine bx_ #[.int .i64 a0_0, .int .i64 a0_1, .int .i64 a0_2, .int .i64 a0_3, .int .i64 a0_4, .int .u64 a0_5] 32 ?_; intro gb140 hg w4 BK140 hb; have GW140 := bz_ w hg; have GE140 := GW140; replace HB := bs_ w hb; clear hb hg) | ((with_reducible refine gate_dst (N := 4) rfl ?_); (try refine ug_ (by rfl) ?_); refine bx_ #[.int .i64 0, .int .i64 0, .int .i64 0, .int .i64 0, .int .i64 0, .int .u64 0] 32 ?_; intro gb141 hg w5 BK141 hb; have GW141 := bz_ w hg; have GE141 := GW141; have NB140_141 := bn_ BK140 hg; have NB141_140 := bm_ BK140 hg; replace BK140 := bb_ BK140 hb; replace HB := bs_ w hb; clear hb hg; replace hn140_141 := NB140_141.out; replace hn141_140 := NB141_140.out; replace hc140 := ce6_ BK140; replace hc141 := ce6_ BK141))
  refine bodyPost_ret (results_cell_row rfl _ _ gb141 32 #[.int .i64 a0_0, .int .i64 a0_1, .int .i64 a0_2, .int .i64 a0_3, .int .i64 a0_4, .int .u64 a0_5] (0, 0) _ rfl (bp6_ (bq_ BK141)) Try.underlying32 rfl (by kernel_rfl)) rfl ?_
  exact fi_
 ·rw [if_neg c3] at H
  have c3b0 : decide (a1 ≤ a0_5) = false := decide_eq_false c3
  clear c3
  have H0_ := bo_ H; clear H; obtain ⟨⟨t142, t143⟩, A9, H⟩ := H0_
  try dsimp only at H
  have H0_ := bo_ H; clear H; obtain ⟨⟨t144, t145⟩, A10, H⟩ := H0_
  try dsimp only at H
  have H0_ := bo_ H; clear H; obtain ⟨⟨t146, t147, t148⟩, A11, H⟩ := H0_
  try dsimp only at H
  have H0_ := bo_ H; clear H; obtain ⟨⟨t150, t151, t152, t153⟩, A12, H⟩ := H0_
  try dsimp only at H
  have H0_ := bo_ H; clear H; obtain ⟨⟨t155, t156⟩, A13, H⟩ := H0_
  try dsimp only at H
  by_cases c14 : t156 = 0
  ·rw [if_pos c14] at H
   have c14b0 : (t156 == 0) = true := beq_iff_eq.mpr c14
   have c14b1 : (t156 != 0) = false := bne_eq_false_iff_eq.mpr c14
   clear c14
   by_cases c15 : t155 ≥ (IntKind.u64.wrap (wrap64 (a0_0 - a0_3)))
   ·rw [if_pos c15] at H
    have c15b0 : decide ((IntKind.u64.wrap (wrap64 (a0_0 - a0_3))) ≤ t155) = true := decide_eq_true c15
    clear c15
    simp only [Option.some.injEq, Prod.mk.injEq] at H
    obtain ⟨rfl, rfl, rfl, rfl, rfl, rfl⟩ := H
    go_enter Try.func49, Try.ntmps49
    try go_wp2_with (first | ((with_reducible refine gate_dst (N := 2) rfl ?_); (try refine ug_ (by rfl) ?_); refine bx_ #[.int .i64 a0_0, .int .i64 a0_1, .int .i64 a0_2, .int .i64 a0_3, .int .i64 a0_4, .int .u64 a0_5] 32 ?_; intro gb140 hg w16 BK140 hb; have GW140 := bz_ w hg; have GE140 := GW140; replace HB := bs_ w hb; clear hb hg) | ((with_reducible refine gate_dst (N := 4) rfl ?_); (try refine ug_ (by rfl) ?_); refine bx_ #[.int .i64 0, .int .i64 0, .int .i64 0, .int .i64 0, .int .i64 0, .int .u64 0] 32 ?_; intro gb141 hg w17 BK141 hb; have GW141 := bz_ w hg; have GE141 := GW141; have NB140_141 := bn_ BK140 hg; have NB141_140 := bm_ BK140 hg; replace BK140 := bb_ BK140 hb; replace HB := bs_ w hb; clear hb hg; replace hn140_141 := NB140_141.out; replace hn141_140 := NB141_140.out; replace hc140 := ce6_ BK140))
    replace BK140 := Aside0.mk (blk_drew BK140.out)
    replace BK141 := Aside0.mk (blk_drew BK141.out)
    replace HB := Aside0.mk (below_drew1 HB.out)
    refine start_ (n := 20) (S := fun w' => w'.cell? ⟨gb140, 0, none⟩ = some (.int .i64 a0_0) ∧ w'.cell? ⟨gb140, 1, none⟩ = some (.int .i64 a0_1) ∧ w'.cell? ⟨gb140, 2, none⟩ = some (.int .i64 a0_2) ∧ w'.cell? ⟨gb140, 3, none⟩ = some (.int .i64 a0_3) ∧ w'.cell? ⟨gb140, 4, none⟩ = some (.int .i64 a0_4) ∧ w'.cell? ⟨gb140, 5, none⟩ = some (.int .u64 a0_5)) (ds := []) (bl_ 20 0) (by kernel_rfl) rfl (by kernel_rfl) (cc6_ BK140) (fun hHeld => ?_); refine with_tabW bucket_fill.tab3 bucket_fill.bits3 (fun HT_ HW_ => ?_)
    generalize w17.drew = w20 at BK140 BK141 HB hHeld ⊢
    refine pa_ 0 (some 18) (bl_ 20 1) HT_ ?_
    refine pa_ 1 (some 19) (bl_ 20 3) HT_ ?_
    refine pa_ 4 (some 22) (bl_ 20 19) HT_ ?_
    refine pa_ 5 (some 23) (bl_ 20 51) HT_ ?_
    refine pa_ 9 (some 27) (bl_ 20 563) HT_ ?_
    refine ta_ 2 (some 20) (bl_ 20 567) HT_ HW_ hHeld ?_
    refine pa_ 3 (some 21) (bl_ 20 575) HT_ ?_
    refine ta_ 6 (some 24) (bl_ 20 639) HT_ HW_ hHeld ?_
    refine pa_ 7 (some 25) (bl_ 20 767) HT_ ?_
    refine ta_ 10 (some 28) (bl_ 20 1791) HT_ HW_ hHeld ?_
    refine pa_ 11 (some 29) (bl_ 20 3839) HT_ ?_
    refine join_ (σ := Nat) 2 (bl_ 20 262143) (fun s_ => [(26, .agg #[.int .u64 t142, .int .u64 t143]), (30, .agg #[.int .u64 t144, .int .u64 t145]), (31, .tuple #[.agg #[.int .u64 t146, .int .u64 t147], .int .i64 t148]), (5, .pointer (some ⟨s_, 0, none⟩)), (17, .tuple #[.agg #[.int .u64 t146, .int .u64 t147], .int .i64 t148]), (32, .agg #[.int .u64 t146, .int .u64 t147]), (33, .int .i64 t148)]) (fun s_ w' => (w'.cell? ⟨gb140, 0, none⟩ = some (.int .i64 a0_0) ∧ w'.cell? ⟨gb140, 1, none⟩ = some (.int .i64 a0_1) ∧ w'.cell? ⟨gb140, 2, none⟩ = some (.int .i64 a0_2) ∧ w'.cell? ⟨gb140, 3, none⟩ = some (.int .i64 a0_3) ∧ w'.cell? ⟨gb140, 4, none⟩ = some (.int .i64 a0_4) ∧ w'.cell? ⟨gb140, 5, none⟩ = some (.int .u64 a0_5)) ∧ (w'.heap[gb140]? = some (.cells #[.int .i64 a0_0, .int .i64 a0_1, .int .i64 a0_2, .int .i64 a0_3, .int .i64 a0_4, .int .u64 a0_5] 32 (0, 0))) ∧ (w'.heap[gb141]? = some (.cells #[.int .i64 0, .int .i64 0, .int .i64 0, .int .i64 0, .int .i64 0, .int .u64 0] 32 (0, 0))) ∧ (w'.heap[s_]? = some (.cells #[.int .u64 0, .int .u64 0] 59 (0, 0))) ∧ (w.heap.size ≤ s_) ∧ (w.heap.size ≤ s_) ∧ (gb140 ≠ s_) ∧ (s_ ≠ gb140) ∧ (gb141 ≠ s_) ∧ (s_ ≠ gb141) ∧ (Below w.heap.size w w')) ?_ ?_
    rotate_left
    ·intro hCont
     refine tw_ 8 17 (some 26) (some 5) (bl_ 20 4095) (bl_ 20 134911) HT_ (fun K hK => ?_) fun K hK => ?_
     ·refine goesB_ Try.func21 #[.int .u64 (IntKind.u64.wrap (a1 - a0_5)), .int .u64 (IntKind.u64.wrap (a0_1))] ?_
      with_reducible refine (wide_Mul.calls (IntKind.u64.wrap (a1 - a0_5)) (IntKind.u64.wrap (a0_1)) t142 t143 _ A9.out).mono ?_
      rintro e w21 ⟨rfl, hb⟩
      refine ⟨_, rfl, ?_⟩
      replace BK140 := bb_ BK140 hb
      replace BK141 := bb_ BK141 hb
      replace HB := bs_ w hb
      clear hb
      refine hK.out _ _ (cc6_ BK140) (fun hHeld => ?_)
      clear hK K
      refine nm_ (some 26) ?_
      refine tw_ 12 17 (some 30) (some 5) (bl_ 20 8191) (bl_ 20 135167) HT_ (fun K hK => ?_) fun K hK => ?_
      ·refine goesB_ Try.func23 #[.int .u64 (IntKind.u64.wrap (a0_4))] ?_
       with_reducible refine (wide_Of.calls (IntKind.u64.wrap (a0_4)) t144 t145 _ A10.out).mono ?_
       rintro e w22 ⟨rfl, hb⟩
       refine ⟨_, rfl, ?_⟩
       replace BK140 := bb_ BK140 hb
       replace BK141 := bb_ BK141 hb
       replace HB := bs_ w hb
       clear hb
       refine hK.out _ _ (cc6_ BK140) (fun hHeld => ?_)
       clear hK K
       refine nm_ (some 30) ?_
       refine tw_ 13 17 (some 31) (some 5) (bl_ 20 16383) (bl_ 20 139263) HT_ (fun K hK => ?_) fun K hK => ?_
       ·refine goesB_ Try.func22 #[.agg #[.int .u64 t142, .int .u64 t143], .agg #[.int .u64 t144, .int .u64 t145]] ?_
        with_reducible refine (wide_Add.calls t142 t143 t144 t145 t146 t147 t148 _ A11.out).mono ?_
        rintro e w23 ⟨rfl, hb⟩
        refine ⟨_, rfl, ?_⟩
        replace BK140 := bb_ BK140 hb
        replace BK141 := bb_ BK141 hb
        replace HB := bs_ w hb
        clear hb
        refine hK.out _ _ (cc6_ BK140) (fun hHeld => ?_)
        clear hK K
        refine nm_ (some 31) ?_
        refine pa_ 14 (some 17) (bl_ 20 32767) HT_ ?_
        refine pa_ 15 (some 32) (bl_ 20 65535) HT_ ?_
        refine pa_ 16 (some 33) (bl_ 20 131071) HT_ ?_
        refine oa_ 17 (some 5) (bl_ 20 262143) HT_ fun K hK => ?_
        refine bs2_ #[.int .u64 0, .int .u64 0] 59 ?_
        intro gb149 hg w24 BK149 hb
        have GW149 := bz_ w hg
        have GE149 := GW149
        have NB140_149 := bn_ BK140 hg
        have NB149_140 := bm_ BK140 hg
        have NB141_149 := bn_ BK141 hg
        have NB149_141 := bm_ BK141 hg
        replace BK140 := bb_ BK140 hb
        replace BK141 := bb_ BK141 hb
        replace HB := bs_ w hb
        clear hb hg
        refine hK.out _ _ (cc6_ BK140) (fun hHeld => ?_)
        clear hK K
        refine nm_ (some 5) ?_
        exact no_ (hCont (gb149) _ ⟨hHeld, (bq_ BK140), (bq_ BK141), (bq_ BK149), GW149.out, GE149.out, NB140_149.out, NB149_140.out, NB141_149.out, NB149_141.out, bh_⟩)
       ·refine bs2_ #[.int .u64 0, .int .u64 0] 59 ?_
        intro gb149 hg w23 BK149 hb
        have GW149 := bz_ w hg
        have GE149 := GW149
        have NB140_149 := bn_ BK140 hg
        have NB149_140 := bm_ BK140 hg
        have NB141_149 := bn_ BK141 hg
        have NB149_141 := bm_ BK141 hg
        replace BK140 := bb_ BK140 hb
        replace BK141 := bb_ BK141 hb
        replace HB := bs_ w hb
        clear hb hg
        refine hK.out _ _ (cc6_ BK140) (fun hHeld => ?_)
        clear hK K
        refine nm_ (some 5) ?_
        refine oa_ 13 (some 31) (bl_ 20 147455) HT_ fun K hK => ?_
        refine goesB_ Try.func22 #[.agg #[.int .u64 t142, .int .u64 t143], .agg #[.int .u64 t144, .int .u64 t145]] ?_
        with_reducible refine (wide_Add.calls t142 t143 t144 t145 t146 t147 t148 _ A11.out).mono ?_
        rintro e w24 ⟨rfl, hb⟩
        refine ⟨_, rfl, ?_⟩
        replace BK140 := bb_ BK140 hb
        replace BK141 := bb_ BK141 hb
        replace BK149 := bb_ BK149 hb
        replace HB := bs_ w hb
        clear hb
        refine hK.out _ _ (cc6_ BK140) (fun hHeld => ?_)
        clear hK K
        refine nm_ (some 31) ?_
        refine pa_ 14 (some 17) (bl_ 20 163839) HT_ ?_
        refine pa_ 15 (some 32) (bl_ 20 196607) HT_ ?_
        refine pa_ 16 (some 33) (bl_ 20 262143) HT_ ?_
        exact no_ (hCont (gb149) _ ⟨hHeld, (bq_ BK140), (bq_ BK141), (bq_ BK149), GW149.out, GE149.out, NB140_149.out, NB149_140.out, NB141_149.out, NB149_141.out, bh_⟩)
      ·refine bs2_ #[.int .u64 0, .int .u64 0] 59 ?_
       intro gb149 hg w22 BK149 hb
       have GW149 := bz_ w hg
       have GE149 := GW149
       have NB140_149 := bn_ BK140 hg
       have NB149_140 := bm_ BK140 hg
       have NB141_149 := bn_ BK141 hg
       have NB149_141 := bm_ BK141 hg
       replace BK140 := bb_ BK140 hb
       replace BK141 := bb_ BK141 hb
       replace HB := bs_ w hb
       clear hb hg
       refine hK.out _ _ (cc6_ BK140) (fun hHeld => ?_)
       clear hK K
       refine nm_ (some 5) ?_
       refine oa_ 12 (some 30) (bl_ 20 139263) HT_ fun K hK => ?_
       refine goesB_ Try.func23 #[.int .u64 (IntKind.u64.wrap (a0_4))] ?_
       with_reducible refine (wide_Of.calls (IntKind.u64.wrap (a0_4)) t144 t145 _ A10.out).mono ?_
       rintro e w23 ⟨rfl, hb⟩
       refine ⟨_, rfl, ?_⟩
       replace BK140 := bb_ BK140 hb
       replace BK141 := bb_ BK141 hb
       replace BK149 := bb_ BK149 hb
       replace HB := bs_ w hb
       clear hb
       refine hK.out _ _ (cc6_ BK140) (fun hHeld => ?_)
       clear hK K
       refine nm_ (some 30) ?_
       refine oa_ 13 (some 31) (bl_ 20 147455) HT_ fun K hK => ?_
       refine goesB_ Try.func22 #[.agg #[.int .u64 t142, .int .u64 t143], .agg #[.int .u64 t144, .int .u64 t145]] ?_
       with_reducible refine (wide_Add.calls t142 t143 t144 t145 t146 t147 t148 _ A11.out).mono ?_
       rintro e w24 ⟨rfl, hb⟩
       refine ⟨_, rfl, ?_⟩
       replace BK140 := bb_ BK140 hb
       replace BK141 := bb_ BK141 hb
       replace BK149 := bb_ BK149 hb
       replace HB := bs_ w hb
       clear hb
       refine hK.out _ _ (cc6_ BK140) (fun hHeld => ?_)
       clear hK K
       refine nm_ (some 31) ?_
       refine pa_ 14 (some 17) (bl_ 20 163839) HT_ ?_
       refine pa_ 15 (some 32) (bl_ 20 196607) HT_ ?_
       refine pa_ 16 (some 33) (bl_ 20 262143) HT_ ?_
       exact no_ (hCont (gb149) _ ⟨hHeld, (bq_ BK140), (bq_ BK141), (bq_ BK149), GW149.out, GE149.out, NB140_149.out, NB149_140.out, NB141_149.out, NB149_141.out, bh_⟩)
     ·refine bs2_ #[.int .u64 0, .int .u64 0] 59 ?_
      intro gb149 hg w21 BK149 hb
      have GW149 := bz_ w hg
      have GE149 := GW149
      have NB140_149 := bn_ BK140 hg
      have NB149_140 := bm_ BK140 hg
      have NB141_149 := bn_ BK141 hg
      have NB149_141 := bm_ BK141 hg
      replace BK140 := bb_ BK140 hb
      replace BK141 := bb_ BK141 hb
      replace HB := bs_ w hb
      clear hb hg
      refine hK.out _ _ (cc6_ BK140) (fun hHeld => ?_)
      clear hK K
      refine nm_ (some 5) ?_
      refine oa_ 8 (some 26) (bl_ 20 135167) HT_ fun K hK => ?_
      refine goesB_ Try.func21 #[.int .u64 (IntKind.u64.wrap (a1 - a0_5)), .int .u64 (IntKind.u64.wrap (a0_1))] ?_
      with_reducible refine (wide_Mul.calls (IntKind.u64.wrap (a1 - a0_5)) (IntKind.u64.wrap (a0_1)) t142 t143 _ A9.out).mono ?_
      rintro e w22 ⟨rfl, hb⟩
      refine ⟨_, rfl, ?_⟩
      replace BK140 := bb_ BK140 hb
      replace BK141 := bb_ BK141 hb
      replace BK149 := bb_ BK149 hb
      replace HB := bs_ w hb
      clear hb
      refine hK.out _ _ (cc6_ BK140) (fun hHeld => ?_)
      clear hK K
      refine nm_ (some 26) ?_
      refine oa_ 12 (some 30) (bl_ 20 139263) HT_ fun K hK => ?_
      refine goesB_ Try.func23 #[.int .u64 (IntKind.u64.wrap (a0_4))] ?_
      with_reducible refine (wide_Of.calls (IntKind.u64.wrap (a0_4)) t144 t145 _ A10.out).mono ?_
      rintro e w23 ⟨rfl, hb⟩
      refine ⟨_, rfl, ?_⟩
      replace BK140 := bb_ BK140 hb
      replace BK141 := bb_ BK141 hb
      replace BK149 := bb_ BK149 hb
      replace HB := bs_ w hb
      clear hb
      refine hK.out _ _ (cc6_ BK140) (fun hHeld => ?_)
      clear hK K
      refine nm_ (some 30) ?_
      refine oa_ 13 (some 31) (bl_ 20 147455) HT_ fun K hK => ?_
      refine goesB_ Try.func22 #[.agg #[.int .u64 t142, .int .u64 t143], .agg #[.int .u64 t144, .int .u64 t145]] ?_
      with_reducible refine (wide_Add.calls t142 t143 t144 t145 t146 t147 t148 _ A11.out).mono ?_
      rintro e w24 ⟨rfl, hb⟩
      refine ⟨_, rfl, ?_⟩
      replace BK140 := bb_ BK140 hb
      replace BK141 := bb_ BK141 hb
      replace BK149 := bb_ BK149 hb
      replace HB := bs_ w hb
      clear hb
      refine hK.out _ _ (cc6_ BK140) (fun hHeld => ?_)
      clear hK K
      refine nm_ (some 31) ?_
      refine pa_ 14 (some 17) (bl_ 20 163839) HT_ ?_
      refine pa_ 15 (some 32) (bl_ 20 196607) HT_ ?_
      refine pa_ 16 (some 33) (bl_ 20 262143) HT_ ?_
      exact no_ (hCont (gb149) _ ⟨hHeld, (bq_ BK140), (bq_ BK141), (bq_ BK149), GW149.out, GE149.out, NB140_149.out, NB149_140.out, NB141_149.out, NB149_141.out, bh_⟩)
    rintro gb149 w25 ⟨hS_, h0_, h1_, h2_, h3_, h4_, h5_, h6_, h7_, h8_, h9_⟩
    have BK149 := Aside0.mk h2_
    have GW149 := Aside0.mk h3_
    have GE149 := Aside0.mk h4_
    have NB140_149 := Aside0.mk h5_
    have NB149_140 := Aside0.mk h6_
    have NB141_149 := Aside0.mk h7_
    have NB149_141 := Aside0.mk h8_
    replace BK140 := Aside0.mk h0_
    replace BK141 := Aside0.mk h1_
    replace HB := Aside0.mk h9_
    clear h0_ h1_ h2_ h3_ h4_ h5_ h6_ h7_ h8_ h9_
    have hHeld := hS_
    refine nq_ ?_
    refine oa_ 18 none (bl_ 20 524287) HT_ fun K hK => ?_
    have hs26 : w25.cell? ⟨gb149, 0, none⟩ = some (.int .u64 0) := (blk_cell BK149.out 0).trans rfl
    have hfs26 := blk_frozen BK149.out 0
    have hns26_0 := NB140_149.out
    have hns26_1 := NB141_149.out
    have hms26_0 := NB149_140.out
    have hms26_1 := NB149_141.out
    have hs27 : w25.cell? ⟨gb149, 1, none⟩ = some (.int .u64 0) := (blk_cell BK149.out 1).trans rfl
    have hfs27 := blk_frozen BK149.out 1
    have hns27_0 := NB140_149.out
    have hns27_1 := NB141_149.out
    have hms27_0 := NB149_140.out
    have hms27_1 := NB149_141.out
    refine sk_ ?_
    refine hK.out _ _ (cf6_ hHeld) (fun hHeld => ?_)
    clear hK K
    refine pa_ 19 (some 6) (bl_ 20 1048575) HT_ ?_
    refine done_ (done_of HT_.out (by kernel_rfl)) ?_
    replace hn149_140 := NB149_140.out
    replace hn140_149 := NB140_149.out
    replace hn149_141 := NB149_141.out
    replace hn141_149 := NB141_149.out
    replace hc149 := ce2_ BK149
    replace hc140 := ce6_ BK140
    try go_wp2_with (first | ((with_reducible refine gate_callee (f := 52) rfl ?_); (try refine ug_ (by rfl) ?_); refine goesA_ (some 40) Try.func52 #[.agg #[.int .u64 t146, .int .u64 t147], .int .u64 (IntKind.u64.wrap (a0_2))] ?_; (with_reducible refine (wide_Div.calls k t146 t147 (IntKind.u64.wrap (a0_2)) t150 t151 t152 t153 _ A12.out).mono ?_); rintro e w32 ⟨rfl, hb⟩; refine ⟨_, rfl, ?_⟩; replace BK140 := bf_ BK140 hb; replace BK141 := bf_ BK141 hb; replace BK149 := Aside0.mk (blk_below (g := gb149) (o := .cells #[.int .u64 t146, .int .u64 t147] 59 (0, 0)) (bp2_ (bq_ BK149)) hb); replace HB := bs_ w hb; clear hb) | ((with_reducible refine gate_dst (N := 7) rfl ?_); (try refine ug_ (by rfl) ?_); refine bx_ #[.int .u64 0, .int .u64 0] 59 ?_; intro gb154 hg w33 BK154 hb; have GW154 := bz_ w hg; have GE154 := GW154; have NB140_154 := bn_ BK140 hg; have NB154_140 := bm_ BK140 hg; have NB141_154 := bn_ BK141 hg; have NB154_141 := bm_ BK141 hg; have NB149_154 := bn_ BK149 hg; have NB154_149 := bm_ BK149 hg; replace BK140 := bb_ BK140 hb; replace BK141 := bb_ BK141 hb; replace BK149 := bb_ BK149 hb; replace HB := bs_ w hb; clear hb hg; replace hn154_140 := NB154_140.out; replace hn140_154 := NB140_154.out; replace hn154_141 := NB154_141.out; replace hn141_154 := NB141_154.out; replace hn154_149 := NB154_149.out; replace hn149_154 := NB149_154.out; replace hc154 := ce2_ BK154; replace hc140 := ce6_ BK140) | ((with_reducible refine gate_callee (f := 48) rfl ?_); (try refine ug_ (by rfl) ?_); refine goesA_ (some 48) Try.func48 #[.agg #[.int .u64 t150, .int .u64 t151]] ?_; (with_reducible refine (wide_Small.calls t150 t151 t155 t156 _ A13.out).mono ?_); rintro e w39 ⟨rfl, hb⟩; refine ⟨_, rfl, ?_⟩; replace BK140 := Aside0.mk (blk_below (g := gb140) (o := .cells #[.int .i64 a0_0, .int .i64 a0_1, .int .i64 a0_2, .int .i64 a0_3, .int .i64 a0_4, .int .u64 a1] 32 (0, 0)) (blk_put (cs := #[.int .i64 a0_0, .int .i64 a0_1, .int .i64 a0_2, .int .i64 a0_3, .int .i64 a0_4, .int .u64 a0_5]) (bt_ BK140) 5 _ rfl) hb); replace BK141 := bf_ BK141 hb; replace BK149 := bf_ BK149 hb; replace BK154 := Aside0.mk (blk_below (g := gb154) (o := .cells #[.int .u64 t150, .int .u64 t151] 59 (0, 0)) (blk_far (bp2_ (bq_ BK154)) NB154_140.out _) hb); replace HB := bs_ w hb; clear hb; replace hc140 := ce6_ BK140; replace hc141 := ce6_ BK141))
    refine bodyPost_ret (results_cell_row rfl _ _ gb141 32 #[.int .i64 a0_0, .int .i64 a0_1, .int .i64 a0_2, .int .i64 a0_0, .int .i64 0, .int .u64 a1] (0, 0) _ rfl (bp6_ (bt_ BK141)) Try.underlying32 rfl (by kernel_rfl)) rfl ?_
    exact fi_
   ·rw [if_neg c15] at H
    have c15b0 : decide ((IntKind.u64.wrap (wrap64 (a0_0 - a0_3))) ≤ t155) = false := decide_eq_false c15
    clear c15
    simp only [Option.some.injEq, Prod.mk.injEq] at H
    obtain ⟨rfl, rfl, rfl, rfl, rfl, rfl⟩ := H
    go_enter Try.func49, Try.ntmps49
    try go_wp2_with (first | ((with_reducible refine gate_dst (N := 2) rfl ?_); (try refine ug_ (by rfl) ?_); refine bx_ #[.int .i64 a0_0, .int .i64 a0_1, .int .i64 a0_2, .int .i64 a0_3, .int .i64 a0_4, .int .u64 a0_5] 32 ?_; intro gb140 hg w42 BK140 hb; have GW140 := bz_ w hg; have GE140 := GW140; replace HB := bs_ w hb; clear hb hg) | ((with_reducible refine gate_dst (N := 4) rfl ?_); (try refine ug_ (by rfl) ?_); refine bx_ #[.int .i64 0, .int .i64 0, .int .i64 0, .int .i64 0, .int .i64 0, .int .u64 0] 32 ?_; intro gb141 hg w43 BK141 hb; have GW141 := bz_ w hg; have GE141 := GW141; have NB140_141 := bn_ BK140 hg; have NB141_140 := bm_ BK140 hg; replace BK140 := bb_ BK140 hb; replace HB := bs_ w hb; clear hb hg; replace hn140_141 := NB140_141.out; replace hn141_140 := NB141_140.out; replace hc140 := ce6_ BK140))
    replace BK140 := Aside0.mk (blk_drew BK140.out)
    replace BK141 := Aside0.mk (blk_drew BK141.out)
    replace HB := Aside0.mk (below_drew1 HB.out)
    refine start_ (n := 20) (S := fun w' => w'.cell? ⟨gb140, 0, none⟩ = some (.int .i64 a0_0) ∧ w'.cell? ⟨gb140, 1, none⟩ = some (.int .i64 a0_1) ∧ w'.cell? ⟨gb140, 2, none⟩ = some (.int .i64 a0_2) ∧ w'.cell? ⟨gb140, 3, none⟩ = some (.int .i64 a0_3) ∧ w'.cell? ⟨gb140, 4, none⟩ = some (.int .i64 a0_4) ∧ w'.cell? ⟨gb140, 5, none⟩ = some (.int .u64 a0_5)) (ds := []) (bl_ 20 0) (by kernel_rfl) rfl (by kernel_rfl) (cc6_ BK140) (fun hHeld => ?_); refine with_tabW bucket_fill.tab3 bucket_fill.bits3 (fun HT_ HW_ => ?_)
    generalize w43.drew = w46 at BK140 BK141 HB hHeld ⊢
    refine pa_ 0 (some 18) (bl_ 20 1) HT_ ?_
    refine pa_ 1 (some 19) (bl_ 20 3) HT_ ?_
    refine pa_ 4 (some 22) (bl_ 20 19) HT_ ?_
    refine pa_ 5 (some 23) (bl_ 20 51) HT_ ?_
    refine pa_ 9 (some 27) (bl_ 20 563) HT_ ?_
    refine ta_ 2 (some 20) (bl_ 20 567) HT_ HW_ hHeld ?_
    refine pa_ 3 (some 21) (bl_ 20 575) HT_ ?_
    refine ta_ 6 (some 24) (bl_ 20 639) HT_ HW_ hHeld ?_
    refine pa_ 7 (some 25) (bl_ 20 767) HT_ ?_
    refine ta_ 10 (some 28) (bl_ 20 1791) HT_ HW_ hHeld ?_
    refine pa_ 11 (some 29) (bl_ 20 3839) HT_ ?_
    refine join_ (σ := Nat) 2 (bl_ 20 262143) (fun s_ => [(26, .agg #[.int .u64 t142, .int .u64 t143]), (30, .agg #[.int .u64 t144, .int .u64 t145]), (31, .tuple #[.agg #[.int .u64 t146, .int .u64 t147], .int .i64 t148]), (5, .pointer (some ⟨s_, 0, none⟩)), (17, .tuple #[.agg #[.int .u64 t146, .int .u64 t147], .int .i64 t148]), (32, .agg #[.int .u64 t146, .int .u64 t147]), (33, .int .i64 t148)]) (fun s_ w' => (w'.cell? ⟨gb140, 0, none⟩ = some (.int .i64 a0_0) ∧ w'.cell? ⟨gb140, 1, none⟩ = some (.int .i64 a0_1) ∧ w'.cell? ⟨gb140, 2, none⟩ = some (.int .i64 a0_2) ∧ w'.cell? ⟨gb140, 3, none⟩ = some (.int .i64 a0_3) ∧ w'.cell? ⟨gb140, 4, none⟩ = some (.int .i64 a0_4) ∧ w'.cell? ⟨gb140, 5, none⟩ = some (.int .u64 a0_5)) ∧ (w'.heap[gb140]? = some (.cells #[.int .i64 a0_0, .int .i64 a0_1, .int .i64 a0_2, .int .i64 a0_3, .int .i64 a0_4, .int .u64 a0_5] 32 (0, 0))) ∧ (w'.heap[gb141]? = some (.cells #[.int .i64 0, .int .i64 0, .int .i64 0, .int .i64 0, .int .i64 0, .int .u64 0] 32 (0, 0))) ∧ (w'.heap[s_]? = some (.cells #[.int .u64 0, .int .u64 0] 59 (0, 0))) ∧ (w.heap.size ≤ s_) ∧ (w.heap.size ≤ s_) ∧ (gb140 ≠ s_) ∧ (s_ ≠ gb140) ∧ (gb141 ≠ s_) ∧ (s_ ≠ gb141) ∧ (Below w.heap.size w w')) ?_ ?_
    rotate_left
    ·intro hCont
     refine tw_ 8 17 (some 26) (some 5) (bl_ 20 4095) (bl_ 20 134911) HT_ (fun K hK => ?_) fun K hK => ?_
     ·refine goesB_ Try.func21 #[.int .u64 (IntKind.u64.wrap (a1 - a0_5)), .int .u64 (IntKind.u64.wrap (a0_1))] ?_
      with_reducible refine (wide_Mul.calls (IntKind.u64.wrap (a1 - a0_5)) (IntKind.u64.wrap (a0_1)) t142 t143 _ A9.out).mono ?_
      rintro e w47 ⟨rfl, hb⟩
      refine ⟨_, rfl, ?_⟩
      replace BK140 := bb_ BK140 hb
      replace BK141 := bb_ BK141 hb
      replace HB := bs_ w hb
      clear hb
      refine hK.out _ _ (cc6_ BK140) (fun hHeld => ?_)
      clear hK K
      refine nm_ (some 26) ?_
      refine tw_ 12 17 (some 30) (some 5) (bl_ 20 8191) (bl_ 20 135167) HT_ (fun K hK => ?_) fun K hK => ?_
      ·refine goesB_ Try.func23 #[.int .u64 (IntKind.u64.wrap (a0_4))] ?_
       with_reducible refine (wide_Of.calls (IntKind.u64.wrap (a0_4)) t144 t145 _ A10.out).mono ?_
       rintro e w48 ⟨rfl, hb⟩
       refine ⟨_, rfl, ?_⟩
       replace BK140 := bb_ BK140 hb
       replace BK141 := bb_ BK141 hb
       replace HB := bs_ w hb
       clear hb
       refine hK.out _ _ (cc6_ BK140) (fun hHeld => ?_)
       clear hK K
       refine nm_ (some 30) ?_
       refine tw_ 13 17 (some 31) (some 5) (bl_ 20 16383) (bl_ 20 139263) HT_ (fun K hK => ?_) fun K hK => ?_
       ·refine goesB_ Try.func22 #[.agg #[.int .u64 t142, .int .u64 t143], .agg #[.int .u64 t144, .int .u64 t145]] ?_
        with_reducible refine (wide_Add.calls t142 t143 t144 t145 t146 t147 t148 _ A11.out).mono ?_
        rintro e w49 ⟨rfl, hb⟩
        refine ⟨_, rfl, ?_⟩
        replace BK140 := bb_ BK140 hb
        replace BK141 := bb_ BK141 hb
        replace HB := bs_ w hb
        clear hb
        refine hK.out _ _ (cc6_ BK140) (fun hHeld => ?_)
        clear hK K
        refine nm_ (some 31) ?_
        refine pa_ 14 (some 17) (bl_ 20 32767) HT_ ?_
        refine pa_ 15 (some 32) (bl_ 20 65535) HT_ ?_
        refine pa_ 16 (some 33) (bl_ 20 131071) HT_ ?_
        refine oa_ 17 (some 5) (bl_ 20 262143) HT_ fun K hK => ?_
        refine bs2_ #[.int .u64 0, .int .u64 0] 59 ?_
        intro gb149 hg w50 BK149 hb
        have GW149 := bz_ w hg
        have GE149 := GW149
        have NB140_149 := bn_ BK140 hg
        have NB149_140 := bm_ BK140 hg
        have NB141_149 := bn_ BK141 hg
        have NB149_141 := bm_ BK141 hg
        replace BK140 := bb_ BK140 hb
        replace BK141 := bb_ BK141 hb
        replace HB := bs_ w hb
        clear hb hg
        refine hK.out _ _ (cc6_ BK140) (fun hHeld => ?_)
        clear hK K
        refine nm_ (some 5) ?_
        exact no_ (hCont (gb149) _ ⟨hHeld, (bq_ BK140), (bq_ BK141), (bq_ BK149), GW149.out, GE149.out, NB140_149.out, NB149_140.out, NB141_149.out, NB149_141.out, bh_⟩)
       ·refine bs2_ #[.int .u64 0, .int .u64 0] 59 ?_
        intro gb149 hg w49 BK149 hb
        have GW149 := bz_ w hg
        have GE149 := GW149
        have NB140_149 := bn_ BK140 hg
        have NB149_140 := bm_ BK140 hg
        have NB141_149 := bn_ BK141 hg
        have NB149_141 := bm_ BK141 hg
        replace BK140 := bb_ BK140 hb
        replace BK141 := bb_ BK141 hb
        replace HB := bs_ w hb
        clear hb hg
        refine hK.out _ _ (cc6_ BK140) (fun hHeld => ?_)
        clear hK K
        refine nm_ (some 5) ?_
        refine oa_ 13 (some 31) (bl_ 20 147455) HT_ fun K hK => ?_
        refine goesB_ Try.func22 #[.agg #[.int .u64 t142, .int .u64 t143], .agg #[.int .u64 t144, .int .u64 t145]] ?_
        with_reducible refine (wide_Add.calls t142 t143 t144 t145 t146 t147 t148 _ A11.out).mono ?_
        rintro e w50 ⟨rfl, hb⟩
        refine ⟨_, rfl, ?_⟩
        replace BK140 := bb_ BK140 hb
        replace BK141 := bb_ BK141 hb
        replace BK149 := bb_ BK149 hb
        replace HB := bs_ w hb
        clear hb
        refine hK.out _ _ (cc6_ BK140) (fun hHeld => ?_)
        clear hK K
        refine nm_ (some 31) ?_
        refine pa_ 14 (some 17) (bl_ 20 163839) HT_ ?_
        refine pa_ 15 (some 32) (bl_ 20 196607) HT_ ?_
        refine pa_ 16 (some 33) (bl_ 20 262143) HT_ ?_
        exact no_ (hCont (gb149) _ ⟨hHeld, (bq_ BK140), (bq_ BK141), (bq_ BK149), GW149.out, GE149.out, NB140_149.out, NB149_140.out, NB141_149.out, NB149_141.out, bh_⟩)
      ·refine bs2_ #[.int .u64 0, .int .u64 0] 59 ?_
       intro gb149 hg w48 BK149 hb
       have GW149 := bz_ w hg
       have GE149 := GW149
       have NB140_149 := bn_ BK140 hg
       have NB149_140 := bm_ BK140 hg
       have NB141_149 := bn_ BK141 hg
       have NB149_141 := bm_ BK141 hg
       replace BK140 := bb_ BK140 hb
       replace BK141 := bb_ BK141 hb
       replace HB := bs_ w hb
       clear hb hg
       refine hK.out _ _ (cc6_ BK140) (fun hHeld => ?_)
       clear hK K
       refine nm_ (some 5) ?_
       refine oa_ 12 (some 30) (bl_ 20 139263) HT_ fun K hK => ?_
       refine goesB_ Try.func23 #[.int .u64 (IntKind.u64.wrap (a0_4))] ?_
       with_reducible refine (wide_Of.calls (IntKind.u64.wrap (a0_4)) t144 t145 _ A10.out).mono ?_
       rintro e w49 ⟨rfl, hb⟩
       refine ⟨_, rfl, ?_⟩
       replace BK140 := bb_ BK140 hb
       replace BK141 := bb_ BK141 hb
       replace BK149 := bb_ BK149 hb
       replace HB := bs_ w hb
       clear hb
       refine hK.out _ _ (cc6_ BK140) (fun hHeld => ?_)
       clear hK K
       refine nm_ (some 30) ?_
       refine oa_ 13 (some 31) (bl_ 20 147455) HT_ fun K hK => ?_
       refine goesB_ Try.func22 #[.agg #[.int .u64 t142, .int .u64 t143], .agg #[.int .u64 t144, .int .u64 t145]] ?_
       with_reducible refine (wide_Add.calls t142 t143 t144 t145 t146 t147 t148 _ A11.out).mono ?_
       rintro e w50 ⟨rfl, hb⟩
       refine ⟨_, rfl, ?_⟩
       replace BK140 := bb_ BK140 hb
       replace BK141 := bb_ BK141 hb
       replace BK149 := bb_ BK149 hb
       replace HB := bs_ w hb
       clear hb
       refine hK.out _ _ (cc6_ BK140) (fun hHeld => ?_)
       clear hK K
       refine nm_ (some 31) ?_
       refine pa_ 14 (some 17) (bl_ 20 163839) HT_ ?_
       refine pa_ 15 (some 32) (bl_ 20 196607) HT_ ?_
       refine pa_ 16 (some 33) (bl_ 20 262143) HT_ ?_
       exact no_ (hCont (gb149) _ ⟨hHeld, (bq_ BK140), (bq_ BK141), (bq_ BK149), GW149.out, GE149.out, NB140_149.out, NB149_140.out, NB141_149.out, NB149_141.out, bh_⟩)
     ·refine bs2_ #[.int .u64 0, .int .u64 0] 59 ?_
      intro gb149 hg w47 BK149 hb
      have GW149 := bz_ w hg
      have GE149 := GW149
      have NB140_149 := bn_ BK140 hg
      have NB149_140 := bm_ BK140 hg
      have NB141_149 := bn_ BK141 hg
      have NB149_141 := bm_ BK141 hg
      replace BK140 := bb_ BK140 hb
      replace BK141 := bb_ BK141 hb
      replace HB := bs_ w hb
      clear hb hg
      refine hK.out _ _ (cc6_ BK140) (fun hHeld => ?_)
      clear hK K
      refine nm_ (some 5) ?_
      refine oa_ 8 (some 26) (bl_ 20 135167) HT_ fun K hK => ?_
      refine goesB_ Try.func21 #[.int .u64 (IntKind.u64.wrap (a1 - a0_5)), .int .u64 (IntKind.u64.wrap (a0_1))] ?_
      with_reducible refine (wide_Mul.calls (IntKind.u64.wrap (a1 - a0_5)) (IntKind.u64.wrap (a0_1)) t142 t143 _ A9.out).mono ?_
      rintro e w48 ⟨rfl, hb⟩
      refine ⟨_, rfl, ?_⟩
      replace BK140 := bb_ BK140 hb
      replace BK141 := bb_ BK141 hb
      replace BK149 := bb_ BK149 hb
      replace HB := bs_ w hb
      clear hb
      refine hK.out _ _ (cc6_ BK140) (fun hHeld => ?_)
      clear hK K
      refine nm_ (some 26) ?_
      refine oa_ 12 (some 30) (bl_ 20 139263) HT_ fun K hK => ?_
      refine goesB_ Try.func23 #[.int .u64 (IntKind.u64.wrap (a0_4))] ?_
      with_reducible refine (wide_Of.calls (IntKind.u64.wrap (a0_4)) t144 t145 _ A10.out).mono ?_
      rintro e w49 ⟨rfl, hb⟩
      refine ⟨_, rfl, ?_⟩
      replace BK140 := bb_ BK140 hb
      replace BK141 := bb_ BK141 hb
      replace BK149 := bb_ BK149 hb
      replace HB := bs_ w hb
      clear hb
      refine hK.out _ _ (cc6_ BK140) (fun hHeld => ?_)
      clear hK K
      refine nm_ (some 30) ?_
      refine oa_ 13 (some 31) (bl_ 20 147455) HT_ fun K hK => ?_
      refine goesB_ Try.func22 #[.agg #[.int .u64 t142, .int .u64 t143], .agg #[.int .u64 t144, .int .u64 t145]] ?_
      with_reducible refine (wide_Add.calls t142 t143 t144 t145 t146 t147 t148 _ A11.out).mono ?_
      rintro e w50 ⟨rfl, hb⟩
      refine ⟨_, rfl, ?_⟩
      replace BK140 := bb_ BK140 hb
      replace BK141 := bb_ BK141 hb
      replace BK149 := bb_ BK149 hb
      replace HB := bs_ w hb
      clear hb
      refine hK.out _ _ (cc6_ BK140) (fun hHeld => ?_)
      clear hK K
      refine nm_ (some 31) ?_
      refine pa_ 14 (some 17) (bl_ 20 163839) HT_ ?_
      refine pa_ 15 (some 32) (bl_ 20 196607) HT_ ?_
      refine pa_ 16 (some 33) (bl_ 20 262143) HT_ ?_
      exact no_ (hCont (gb149) _ ⟨hHeld, (bq_ BK140), (bq_ BK141), (bq_ BK149), GW149.out, GE149.out, NB140_149.out, NB149_140.out, NB141_149.out, NB149_141.out, bh_⟩)
    rintro gb149 w51 ⟨hS_, h0_, h1_, h2_, h3_, h4_, h5_, h6_, h7_, h8_, h9_⟩
    have BK149 := Aside0.mk h2_
    have GW149 := Aside0.mk h3_
    have GE149 := Aside0.mk h4_
    have NB140_149 := Aside0.mk h5_
    have NB149_140 := Aside0.mk h6_
    have NB141_149 := Aside0.mk h7_
    have NB149_141 := Aside0.mk h8_
    replace BK140 := Aside0.mk h0_
    replace BK141 := Aside0.mk h1_
    replace HB := Aside0.mk h9_
    clear h0_ h1_ h2_ h3_ h4_ h5_ h6_ h7_ h8_ h9_
    have hHeld := hS_
    refine nq_ ?_
    refine oa_ 18 none (bl_ 20 524287) HT_ fun K hK => ?_
    have hs52 : w51.cell? ⟨gb149, 0, none⟩ = some (.int .u64 0) := (blk_cell BK149.out 0).trans rfl
    have hfs52 := blk_frozen BK149.out 0
    have hns52_0 := NB140_149.out
    have hns52_1 := NB141_149.out
    have hms52_0 := NB149_140.out
    have hms52_1 := NB149_141.out
    have hs53 : w51.cell? ⟨gb149, 1, none⟩ = some (.int .u64 0) := (blk_cell BK149.out 1).trans rfl
    have hfs53 := blk_frozen BK149.out 1
    have hns53_0 := NB140_149.out
    have hns53_1 := NB141_149.out
    have hms53_0 := NB149_140.out
    have hms53_1 := NB149_141.out
    refine sk_ ?_
    refine hK.out _ _ (cf6_ hHeld) (fun hHeld => ?_)
    clear hK K
    refine pa_ 19 (some 6) (bl_ 20 1048575) HT_ ?_
    refine done_ (done_of HT_.out (by kernel_rfl)) ?_
    replace hn149_140 := NB149_140.out
    replace hn140_149 := NB140_149.out
    replace hn149_141 := NB149_141.out
    replace hn141_149 := NB141_149.out
    replace hc149 := ce2_ BK149
    replace hc140 := ce6_ BK140
    try go_wp2_with (first | ((with_reducible refine gate_callee (f := 52) rfl ?_); (try refine ug_ (by rfl) ?_); refine goesA_ (some 40) Try.func52 #[.agg #[.int .u64 t146, .int .u64 t147], .int .u64 (IntKind.u64.wrap (a0_2))] ?_; (with_reducible refine (wide_Div.calls k t146 t147 (IntKind.u64.wrap (a0_2)) t150 t151 t152 t153 _ A12.out).mono ?_); rintro e w58 ⟨rfl, hb⟩; refine ⟨_, rfl, ?_⟩; replace BK140 := bf_ BK140 hb; replace BK141 := bf_ BK141 hb; replace BK149 := Aside0.mk (blk_below (g := gb149) (o := .cells #[.int .u64 t146, .int .u64 t147] 59 (0, 0)) (bp2_ (bq_ BK149)) hb); replace HB := bs_ w hb; clear hb) | ((with_reducible refine gate_dst (N := 7) rfl ?_); (try refine ug_ (by rfl) ?_); refine bx_ #[.int .u64 0, .int .u64 0] 59 ?_; intro gb154 hg w59 BK154 hb; have GW154 := bz_ w hg; have GE154 := GW154; have NB140_154 := bn_ BK140 hg; have NB154_140 := bm_ BK140 hg; have NB141_154 := bn_ BK141 hg; have NB154_141 := bm_ BK141 hg; have NB149_154 := bn_ BK149 hg; have NB154_149 := bm_ BK149 hg; replace BK140 := bb_ BK140 hb; replace BK141 := bb_ BK141 hb; replace BK149 := bb_ BK149 hb; replace HB := bs_ w hb; clear hb hg; replace hn154_140 := NB154_140.out; replace hn140_154 := NB140_154.out; replace hn154_141 := NB154_141.out; replace hn141_154 := NB141_154.out; replace hn154_149 := NB154_149.out; replace hn149_154 := NB149_154.out; replace hc154 := ce2_ BK154; replace hc140 := ce6_ BK140) | ((with_reducible refine gate_callee (f := 48) rfl ?_); (try refine ug_ (by rfl) ?_); refine goesA_ (some 48) Try.func48 #[.agg #[.int .u64 t150, .int .u64 t151]] ?_; (with_reducible refine (wide_Small.calls t150 t151 t155 t156 _ A13.out).mono ?_); rintro e w65 ⟨rfl, hb⟩; refine ⟨_, rfl, ?_⟩; replace BK140 := Aside0.mk (blk_below (g := gb140) (o := .cells #[.int .i64 a0_0, .int .i64 a0_1, .int .i64 a0_2, .int .i64 a0_3, .int .i64 a0_4, .int .u64 a1] 32 (0, 0)) (blk_put (cs := #[.int .i64 a0_0, .int .i64 a0_1, .int .i64 a0_2, .int .i64 a0_3, .int .i64 a0_4, .int .u64 a0_5]) (bt_ BK140) 5 _ rfl) hb); replace BK141 := bf_ BK141 hb; replace BK149 := bf_ BK149 hb; replace BK154 := Aside0.mk (blk_below (g := gb154) (o := .cells #[.int .u64 t150, .int .u64 t151] 59 (0, 0)) (blk_far (bp2_ (bq_ BK154)) NB154_140.out _) hb); replace HB := bs_ w hb; clear hb; replace hc140 := ce6_ BK140; replace hc141 := ce6_ BK141))
    refine bodyPost_ret (results_cell_row rfl _ _ gb141 32 #[.int .i64 a0_0, .int .i64 a0_1, .int .i64 a0_2, .int .i64 (wrap64 (a0_3 + (wrap64 (t155)))), .int .i64 (wrap64 (t152)), .int .u64 a1] (0, 0) _ rfl (bp6_ (bt_ BK141)) Try.underlying32 rfl (by kernel_rfl)) rfl ?_
    exact fi_
  ·rw [if_neg c14] at H
   have c14b0 : (t156 == 0) = false := beq_eq_false_iff_ne.mpr c14
   have c14b1 : (t156 != 0) = true := bne_iff_ne.mpr c14
   simp only [Option.some.injEq, Prod.mk.injEq] at H
   obtain ⟨rfl, rfl, rfl, rfl, rfl, rfl⟩ := H
   go_enter Try.func49, Try.ntmps49
   try go_wp2_with (first | ((with_reducible refine gate_dst (N := 2) rfl ?_); (try refine ug_ (by rfl) ?_); refine bx_ #[.int .i64 a0_0, .int .i64 a0_1, .int .i64 a0_2, .int .i64 a0_3, .int .i64 a0_4, .int .u64 a0_5] 32 ?_; intro gb140 hg w68 BK140 hb; have GW140 := bz_ w hg; have GE140 := GW140; replace HB := bs_ w hb; clear hb hg) | ((with_reducible refine gate_dst (N := 4) rfl ?_); (try refine ug_ (by rfl) ?_); refine bx_ #[.int .i64 0, .int .i64 0, .int .i64 0, .int .i64 0, .int .i64 0, .int .u64 0] 32 ?_; intro gb141 hg w69 BK141 hb; have GW141 := bz_ w hg; have GE141 := GW141; have NB140_141 := bn_ BK140 hg; have NB141_140 := bm_ BK140 hg; replace BK140 := bb_ BK140 hb; replace HB := bs_ w hb; clear hb hg; replace hn140_141 := NB140_141.out; replace hn141_140 := NB141_140.out; replace hc140 := ce6_ BK140))
   replace BK140 := Aside0.mk (blk_drew BK140.out)
   replace BK141 := Aside0.mk (blk_drew BK141.out)
   replace HB := Aside0.mk (below_drew1 HB.out)
   refine start_ (n := 20) (S := fun w' => w'.cell? ⟨gb140, 0, none⟩ = some (.int .i64 a0_0) ∧ w'.cell? ⟨gb140, 1, none⟩ = some (.int .i64 a0_1) ∧ w'.cell? ⟨gb140, 2, none⟩ = some (.int .i64 a0_2) ∧ w'.cell? ⟨gb140, 3, none⟩ = some (.int .i64 a0_3) ∧ w'.cell? ⟨gb140, 4, none⟩ = some (.int .i64 a0_4) ∧ w'.cell? ⟨gb140, 5, none⟩ = some (.int .u64 a0_5)) (ds := []) (bl_ 20 0) (by kernel_rfl) rfl (by kernel_rfl) (cc6_ BK140) (fun hHeld => ?_); refine with_tabW bucket_fill.tab3 bucket_fill.bits3 (fun HT_ HW_ => ?_)
   generalize w69.drew = w72 at BK140 BK141 HB hHeld ⊢
   refine pa_ 0 (some 18) (bl_ 20 1) HT_ ?_
   refine pa_ 1 (some 19) (bl_ 20 3) HT_ ?_
   refine pa_ 4 (some 22) (bl_ 20 19) HT_ ?_
   refine pa_ 5 (some 23) (bl_ 20 51) HT_ ?_
   refine pa_ 9 (some 27) (bl_ 20 563) HT_ ?_
   refine ta_ 2 (some 20) (bl_ 20 567) HT_ HW_ hHeld ?_
   refine pa_ 3 (some 21) (bl_ 20 575) HT_ ?_
   refine ta_ 6 (some 24) (bl_ 20 639) HT_ HW_ hHeld ?_
   refine pa_ 7 (some 25) (bl_ 20 767) HT_ ?_
   refine ta_ 10 (some 28) (bl_ 20 1791) HT_ HW_ hHeld ?_
   refine pa_ 11 (some 29) (bl_ 20 3839) HT_ ?_
   refine join_ (σ := Nat) 2 (bl_ 20 262143) (fun s_ => [(26, .agg #[.int .u64 t142, .int .u64 t143]), (30, .agg #[.int .u64 t144, .int .u64 t145]), (31, .tuple #[.agg #[.int .u64 t146, .int .u64 t147], .int .i64 t148]), (5, .pointer (some ⟨s_, 0, none⟩)), (17, .tuple #[.agg #[.int .u64 t146, .int .u64 t147], .int .i64 t148]), (32, .agg #[.int .u64 t146, .int .u64 t147]), (33, .int .i64 t148)]) (fun s_ w' => (w'.cell? ⟨gb140, 0, none⟩ = some (.int .i64 a0_0) ∧ w'.cell? ⟨gb140, 1, none⟩ = some (.int .i64 a0_1) ∧ w'.cell? ⟨gb140, 2, none⟩ = some (.int .i64 a0_2) ∧ w'.cell? ⟨gb140, 3, none⟩ = some (.int .i64 a0_3) ∧ w'.cell? ⟨gb140, 4, none⟩ = some (.int .i64 a0_4) ∧ w'.cell? ⟨gb140, 5, none⟩ = some (.int .u64 a0_5)) ∧ (w'.heap[gb140]? = some (.cells #[.int .i64 a0_0, .int .i64 a0_1, .int .i64 a0_2, .int .i64 a0_3, .int .i64 a0_4, .int .u64 a0_5] 32 (0, 0))) ∧ (w'.heap[gb141]? = some (.cells #[.int .i64 0, .int .i64 0, .int .i64 0, .int .i64 0, .int .i64 0, .int .u64 0] 32 (0, 0))) ∧ (w'.heap[s_]? = some (.cells #[.int .u64 0, .int .u64 0] 59 (0, 0))) ∧ (w.heap.size ≤ s_) ∧ (w.heap.size ≤ s_) ∧ (gb140 ≠ s_) ∧ (s_ ≠ gb140) ∧ (gb141 ≠ s_) ∧ (s_ ≠ gb141) ∧ (Below w.heap.size w w')) ?_ ?_
   rotate_left
   ·intro hCont
    refine tw_ 8 17 (some 26) (some 5) (bl_ 20 4095) (bl_ 20 134911) HT_ (fun K hK => ?_) fun K hK => ?_
    ·refine goesB_ Try.func21 #[.int .u64 (IntKind.u64.wrap (a1 - a0_5)), .int .u64 (IntKind.u64.wrap (a0_1))] ?_
     with_reducible refine (wide_Mul.calls (IntKind.u64.wrap (a1 - a0_5)) (IntKind.u64.wrap (a0_1)) t142 t143 _ A9.out).mono ?_
     rintro e w73 ⟨rfl, hb⟩
     refine ⟨_, rfl, ?_⟩
     replace BK140 := bb_ BK140 hb
     replace BK141 := bb_ BK141 hb
     replace HB := bs_ w hb
     clear hb
     refine hK.out _ _ (cc6_ BK140) (fun hHeld => ?_)
     clear hK K
     refine nm_ (some 26) ?_
     refine tw_ 12 17 (some 30) (some 5) (bl_ 20 8191) (bl_ 20 135167) HT_ (fun K hK => ?_) fun K hK => ?_
     ·refine goesB_ Try.func23 #[.int .u64 (IntKind.u64.wrap (a0_4))] ?_
      with_reducible refine (wide_Of.calls (IntKind.u64.wrap (a0_4)) t144 t145 _ A10.out).mono ?_
      rintro e w74 ⟨rfl, hb⟩
      refine ⟨_, rfl, ?_⟩
      replace BK140 := bb_ BK140 hb
      replace BK141 := bb_ BK141 hb
      replace HB := bs_ w hb
      clear hb
      refine hK.out _ _ (cc6_ BK140) (fun hHeld => ?_)
      clear hK K
      refine nm_ (some 30) ?_
      refine tw_ 13 17 (some 31) (some 5) (bl_ 20 16383) (bl_ 20 139263) HT_ (fun K hK => ?_) fun K hK => ?_
      ·refine goesB_ Try.func22 #[.agg #[.int .u64 t142, .int .u64 t143], .agg #[.int .u64 t144, .int .u64 t145]] ?_
       with_reducible refine (wide_Add.calls t142 t143 t144 t145 t146 t147 t148 _ A11.out).mono ?_
       rintro e w75 ⟨rfl, hb⟩
       refine ⟨_, rfl, ?_⟩
       replace BK140 := bb_ BK140 hb
       replace BK141 := bb_ BK141 hb
       replace HB := bs_ w hb
       clear hb
       refine hK.out _ _ (cc6_ BK140) (fun hHeld => ?_)
       clear hK K
       refine nm_ (some 31) ?_
       refine pa_ 14 (some 17) (bl_ 20 32767) HT_ ?_
       refine pa_ 15 (some 32) (bl_ 20 65535) HT_ ?_
       refine pa_ 16 (some 33) (bl_ 20 131071) HT_ ?_
       refine oa_ 17 (some 5) (bl_ 20 262143) HT_ fun K hK => ?_
       refine bs2_ #[.int .u64 0, .int .u64 0] 59 ?_
       intro gb149 hg w76 BK149 hb
       have GW149 := bz_ w hg
       have GE149 := GW149
       have NB140_149 := bn_ BK140 hg
       have NB149_140 := bm_ BK140 hg
       have NB141_149 := bn_ BK141 hg
       have NB149_141 := bm_ BK141 hg
       replace BK140 := bb_ BK140 hb
       replace BK141 := bb_ BK141 hb
       replace HB := bs_ w hb
       clear hb hg
       refine hK.out _ _ (cc6_ BK140) (fun hHeld => ?_)
       clear hK K
       refine nm_ (some 5) ?_
       exact no_ (hCont (gb149) _ ⟨hHeld, (bq_ BK140), (bq_ BK141), (bq_ BK149), GW149.out, GE149.out, NB140_149.out, NB149_140.out, NB141_149.out, NB149_141.out, bh_⟩)
      ·refine bs2_ #[.int .u64 0, .int .u64 0] 59 ?_
       intro gb149 hg w75 BK149 hb
       have GW149 := bz_ w hg
       have GE149 := GW149
       have NB140_149 := bn_ BK140 hg
       have NB149_140 := bm_ BK140 hg
       have NB141_149 := bn_ BK141 hg
       have NB149_141 := bm_ BK141 hg
       replace BK140 := bb_ BK140 hb
       replace BK141 := bb_ BK141 hb
       replace HB := bs_ w hb
       clear hb hg
       refine hK.out _ _ (cc6_ BK140) (fun hHeld => ?_)
       clear hK K
       refine nm_ (some 5) ?_
       refine oa_ 13 (some 31) (bl_ 20 147455) HT_ fun K hK => ?_
       refine goesB_ Try.func22 #[.agg #[.int .u64 t142, .int .u64 t143], .agg #[.int .u64 t144, .int .u64 t145]] ?_
       with_reducible refine (wide_Add.calls t142 t143 t144 t145 t146 t147 t148 _ A11.out).mono ?_
       rintro e w76 ⟨rfl, hb⟩
       refine ⟨_, rfl, ?_⟩
       replace BK140 := bb_ BK140 hb
       replace BK141 := bb_ BK141 hb
       replace BK149 := bb_ BK149 hb
       replace HB := bs_ w hb
       clear hb
       refine hK.out _ _ (cc6_ BK140) (fun hHeld => ?_)
       clear hK K
       refine nm_ (some 31) ?_
       refine pa_ 14 (some 17) (bl_ 20 163839) HT_ ?_
       refine pa_ 15 (some 32) (bl_ 20 196607) HT_ ?_
       refine pa_ 16 (some 33) (bl_ 20 262143) HT_ ?_
       exact no_ (hCont (gb149) _ ⟨hHeld, (bq_ BK140), (bq_ BK141), (bq_ BK149), GW149.out, GE149.out, NB140_149.out, NB149_140.out, NB141_149.out, NB149_141.out, bh_⟩)
     ·refine bs2_ #[.int .u64 0, .int .u64 0] 59 ?_
      intro gb149 hg w74 BK149 hb
      have GW149 := bz_ w hg
      have GE149 := GW149
      have NB140_149 := bn_ BK140 hg
      have NB149_140 := bm_ BK140 hg
      have NB141_149 := bn_ BK141 hg
      have NB149_141 := bm_ BK141 hg
      replace BK140 := bb_ BK140 hb
      replace BK141 := bb_ BK141 hb
      replace HB := bs_ w hb
      clear hb hg
      refine hK.out _ _ (cc6_ BK140) (fun hHeld => ?_)
      clear hK K
      refine nm_ (some 5) ?_
      refine oa_ 12 (some 30) (bl_ 20 139263) HT_ fun K hK => ?_
      refine goesB_ Try.func23 #[.int .u64 (IntKind.u64.wrap (a0_4))] ?_
      with_reducible refine (wide_Of.calls (IntKind.u64.wrap (a0_4)) t144 t145 _ A10.out).mono ?_
      rintro e w75 ⟨rfl, hb⟩
      refine ⟨_, rfl, ?_⟩
      replace BK140 := bb_ BK140 hb
      replace BK141 := bb_ BK141 hb
      replace BK149 := bb_ BK149 hb
      replace HB := bs_ w hb
      clear hb
      refine hK.out _ _ (cc6_ BK140) (fun hHeld => ?_)
      clear hK K
      refine nm_ (some 30) ?_
      refine oa_ 13 (some 31) (bl_ 20 147455) HT_ fun K hK => ?_
      refine goesB_ Try.func22 #[.agg #[.int .u64 t142, .int .u64 t143], .agg #[.int .u64 t144, .int .u64 t145]] ?_
      with_reducible refine (wide_Add.calls t142 t143 t144 t145 t146 t147 t148 _ A11.out).mono ?_
      rintro e w76 ⟨rfl, hb⟩
      refine ⟨_, rfl, ?_⟩
      replace BK140 := bb_ BK140 hb
      replace BK141 := bb_ BK141 hb
      replace BK149 := bb_ BK149 hb
      replace HB := bs_ w hb
      clear hb
      refine hK.out _ _ (cc6_ BK140) (fun hHeld => ?_)
      clear hK K
      refine nm_ (some 31) ?_
      refine pa_ 14 (some 17) (bl_ 20 163839) HT_ ?_
      refine pa_ 15 (some 32) (bl_ 20 196607) HT_ ?_
      refine pa_ 16 (some 33) (bl_ 20 262143) HT_ ?_
      exact no_ (hCont (gb149) _ ⟨hHeld, (bq_ BK140), (bq_ BK141), (bq_ BK149), GW149.out, GE149.out, NB140_149.out, NB149_140.out, NB141_149.out, NB149_141.out, bh_⟩)
    ·refine bs2_ #[.int .u64 0, .int .u64 0] 59 ?_
     intro gb149 hg w73 BK149 hb
     have GW149 := bz_ w hg
     have GE149 := GW149
     have NB140_149 := bn_ BK140 hg
     have NB149_140 := bm_ BK140 hg
     have NB141_149 := bn_ BK141 hg
     have NB149_141 := bm_ BK141 hg
     replace BK140 := bb_ BK140 hb
     replace BK141 := bb_ BK141 hb
     replace HB := bs_ w hb
     clear hb hg
     refine hK.out _ _ (cc6_ BK140) (fun hHeld => ?_)
     clear hK K
     refine nm_ (some 5) ?_
     refine oa_ 8 (some 26) (bl_ 20 135167) HT_ fun K hK => ?_
     refine goesB_ Try.func21 #[.int .u64 (IntKind.u64.wrap (a1 - a0_5)), .int .u64 (IntKind.u64.wrap (a0_1))] ?_
     with_reducible refine (wide_Mul.calls (IntKind.u64.wrap (a1 - a0_5)) (IntKind.u64.wrap (a0_1)) t142 t143 _ A9.out).mono ?_
     rintro e w74 ⟨rfl, hb⟩
     refine ⟨_, rfl, ?_⟩
     replace BK140 := bb_ BK140 hb
     replace BK141 := bb_ BK141 hb
     replace BK149 := bb_ BK149 hb
     replace HB := bs_ w hb
     clear hb
     refine hK.out _ _ (cc6_ BK140) (fun hHeld => ?_)
     clear hK K
     refine nm_ (some 26) ?_
     refine oa_ 12 (some 30) (bl_ 20 139263) HT_ fun K hK => ?_
     refine goesB_ Try.func23 #[.int .u64 (IntKind.u64.wrap (a0_4))] ?_
     with_reducible refine (wide_Of.calls (IntKind.u64.wrap (a0_4)) t144 t145 _ A10.out).mono ?_
     rintro e w75 ⟨rfl, hb⟩
     refine ⟨_, rfl, ?_⟩
     replace BK140 := bb_ BK140 hb
     replace BK141 := bb_ BK141 hb
     replace BK149 := bb_ BK149 hb
     replace HB := bs_ w hb
     clear hb
     refine hK.out _ _ (cc6_ BK140) (fun hHeld => ?_)
     clear hK K
     refine nm_ (some 30) ?_
     refine oa_ 13 (some 31) (bl_ 20 147455) HT_ fun K hK => ?_
     refine goesB_ Try.func22 #[.agg #[.int .u64 t142, .int .u64 t143], .agg #[.int .u64 t144, .int .u64 t145]] ?_
     with_reducible refine (wide_Add.calls t142 t143 t144 t145 t146 t147 t148 _ A11.out).mono ?_
     rintro e w76 ⟨rfl, hb⟩
     refine ⟨_, rfl, ?_⟩
     replace BK140 := bb_ BK140 hb
     replace BK141 := bb_ BK141 hb
     replace BK149 := bb_ BK149 hb
     replace HB := bs_ w hb
     clear hb
     refine hK.out _ _ (cc6_ BK140) (fun hHeld => ?_)
     clear hK K
     refine nm_ (some 31) ?_
     refine pa_ 14 (some 17) (bl_ 20 163839) HT_ ?_
     refine pa_ 15 (some 32) (bl_ 20 196607) HT_ ?_
     refine pa_ 16 (some 33) (bl_ 20 262143) HT_ ?_
     exact no_ (hCont (gb149) _ ⟨hHeld, (bq_ BK140), (bq_ BK141), (bq_ BK149), GW149.out, GE149.out, NB140_149.out, NB149_140.out, NB141_149.out, NB149_141.out, bh_⟩)
   rintro gb149 w77 ⟨hS_, h0_, h1_, h2_, h3_, h4_, h5_, h6_, h7_, h8_, h9_⟩
   have BK149 := Aside0.mk h2_
   have GW149 := Aside0.mk h3_
   have GE149 := Aside0.mk h4_
   have NB140_149 := Aside0.mk h5_
   have NB149_140 := Aside0.mk h6_
   have NB141_149 := Aside0.mk h7_
   have NB149_141 := Aside0.mk h8_
   replace BK140 := Aside0.mk h0_
   replace BK141 := Aside0.mk h1_
   replace HB := Aside0.mk h9_
   clear h0_ h1_ h2_ h3_ h4_ h5_ h6_ h7_ h8_ h9_
   have hHeld := hS_
   refine nq_ ?_
   refine oa_ 18 none (bl_ 20 524287) HT_ fun K hK => ?_
   have hs78 : w77.cell? ⟨gb149, 0, none⟩ = some (.int .u64 0) := (blk_cell BK149.out 0).trans rfl
   have hfs78 := blk_frozen BK149.out 0
   have hns78_0 := NB140_149.out
   have hns78_1 := NB141_149.out
   have hms78_0 := NB149_140.out
   have hms78_1 := NB149_141.out
   have hs79 : w77.cell? ⟨gb149, 1, none⟩ = some (.int .u64 0) := (blk_cell BK149.out 1).trans rfl
   have hfs79 := blk_frozen BK149.out 1
   have hns79_0 := NB140_149.out
   have hns79_1 := NB141_149.out
   have hms79_0 := NB149_140.out
   have hms79_1 := NB149_141.out
   refine sk_ ?_
   refine hK.out _ _ (cf6_ hHeld) (fun hHeld => ?_)
   clear hK K
   refine pa_ 19 (some 6) (bl_ 20 1048575) HT_ ?_
   refine done_ (done_of HT_.out (by kernel_rfl)) ?_
   replace hn149_140 := NB149_140.out
   replace hn140_149 := NB140_149.out
   replace hn149_141 := NB149_141.out
   replace hn141_149 := NB141_149.out
   replace hc149 := ce2_ BK149
   replace hc140 := ce6_ BK140
   try go_wp2_with (first | ((with_reducible refine gate_callee (f := 52) rfl ?_); (try refine ug_ (by rfl) ?_); refine goesA_ (some 40) Try.func52 #[.agg #[.int .u64 t146, .int .u64 t147], .int .u64 (IntKind.u64.wrap (a0_2))] ?_; (with_reducible refine (wide_Div.calls k t146 t147 (IntKind.u64.wrap (a0_2)) t150 t151 t152 t153 _ A12.out).mono ?_); rintro e w84 ⟨rfl, hb⟩; refine ⟨_, rfl, ?_⟩; replace BK140 := bf_ BK140 hb; replace BK141 := bf_ BK141 hb; replace BK149 := Aside0.mk (blk_below (g := gb149) (o := .cells #[.int .u64 t146, .int .u64 t147] 59 (0, 0)) (bp2_ (bq_ BK149)) hb); replace HB := bs_ w hb; clear hb) | ((with_reducible refine gate_dst (N := 7) rfl ?_); (try refine ug_ (by rfl) ?_); refine bx_ #[.int .u64 0, .int .u64 0] 59 ?_; intro gb154 hg w85 BK154 hb; have GW154 := bz_ w hg; have GE154 := GW154; have NB140_154 := bn_ BK140 hg; have NB154_140 := bm_ BK140 hg; have NB141_154 := bn_ BK141 hg; have NB154_141 := bm_ BK141 hg; have NB149_154 := bn_ BK149 hg; have NB154_149 := bm_ BK149 hg; replace BK140 := bb_ BK140 hb; replace BK141 := bb_ BK141 hb; replace BK149 := bb_ BK149 hb; replace HB := bs_ w hb; clear hb hg; replace hn154_140 := NB154_140.out; replace hn140_154 := NB140_154.out; replace hn154_141 := NB154_141.out; replace hn141_154 := NB141_154.out; replace hn154_149 := NB154_149.out; replace hn149_154 := NB149_154.out; replace hc154 := ce2_ BK154; replace hc140 := ce6_ BK140) | ((with_reducible refine gate_callee (f := 48) rfl ?_); (try refine ug_ (by rfl) ?_); refine goesA_ (some 48) Try.func48 #[.agg #[.int .u64 t150, .int .u64 t151]] ?_; (with_reducible refine (wide_Small.calls t150 t151 t155 t156 _ A13.out).mono ?_); rintro e w91 ⟨rfl, hb⟩; refine ⟨_, rfl, ?_⟩; replace BK140 := Aside0.mk (blk_below (g := gb140) (o := .cells #[.int .i64 a0_0, .int .i64 a0_1, .int .i64 a0_2, .int .i64 a0_3, .int .i64 a0_4, .int .u64 a1] 32 (0, 0)) (blk_put (cs := #[.int .i64 a0_0, .int .i64 a0_1, .int .i64 a0_2, .int .i64 a0_3, .int .i64 a0_4, .int .u64 a0_5]) (bt_ BK140) 5 _ rfl) hb); replace BK141 := bf_ BK141 hb; replace BK149 := bf_ BK149 hb; replace BK154 := Aside0.mk (blk_below (g := gb154) (o := .cells #[.int .u64 t150, .int .u64 t151] 59 (0, 0)) (blk_far (bp2_ (bq_ BK154)) NB154_140.out _) hb); replace HB := bs_ w hb; clear hb; replace hc140 := ce6_ BK140; replace hc141 := ce6_ BK141))
   refine bodyPost_ret (results_cell_row rfl _ _ gb141 32 #[.int .i64 a0_0, .int .i64 a0_1, .int .i64 a0_2, .int .i64 a0_0, .int .i64 0, .int .u64 a1] (0, 0) _ rfl (bp6_ (bt_ BK141)) Try.underlying32 rfl (by kernel_rfl)) rfl ?_
   exact fi_

end Go.Proofs.Ytiifhbaabnpkeaa.X
