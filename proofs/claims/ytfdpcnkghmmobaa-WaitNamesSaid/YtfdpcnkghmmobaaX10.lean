-- written by xprint.py, a program of this session over the kit's print
import Derived.Test.YtfdpcnkghmmobaaX0
import Derived.Test.YtfdpcnkghmmobaaX6
import Derived.Test.YtfdpcnkghmmobaaX9
namespace Go.Proofs.Ytfdpcnkghmmobaa.X
open Go.RowKit Go.Proofs.YtfdpcnkghmmobaaW.PrintWords Go.Proofs.YtfdpcnkghmmobaaW.PrintLast Go.Proofs.YtfdpcnkghmmobaaW.PrintMore
attribute [local go_sem] max2_int min2_int max_two min_two max_three min_three max_four min_four   -- for this text's walks alone
set_option linter.unusedVariables false
set_option linter.unusedSimpArgs false

/-! ### bucket_fill: function 55 -/
def bucket_fill.f (k : Nat) (a0_0 : Int) (a0_1 : Int) (a0_2 : Int) (a0_3 : Int) (a0_4 : Int) (a0_5 : Int) (a1 : Int) : Option (Int × Int × Int × Int × Int × Int) := if a1 ≤ a0_5 then (some (a0_0, a0_1, a0_2, a0_3, a0_4, a0_5)) else ((wide_Mul.f (IntKind.u64.wrap (a1 - a0_5)) (IntKind.u64.wrap (a0_1))).bind fun bt139 => ((wide_Of.f (IntKind.u64.wrap (a0_4))).bind fun bt141 => ((wide_Add.f bt139.1 bt139.2 bt141.1 bt141.2).bind fun bt143 => ((wide_Div.f k bt143.1 bt143.2.1 (IntKind.u64.wrap (a0_2))).bind fun bt147 => ((wide_Small.f bt147.1 bt147.2.1).bind fun bt152 => (if bt152.2 = 0 then (if bt152.1 ≥ (IntKind.u64.wrap (wrap64 (a0_0 - a0_3))) then (some (a0_0, a0_1, a0_2, a0_0, 0, a1)) else (some (a0_0, a0_1, a0_2, wrap64 (a0_3 + (wrap64 (bt152.1))), wrap64 (bt147.2.2.1), a1))) else (some (a0_0, a0_1, a0_2, a0_0, 0, a1))))))))
theorem bucket_fill.mono : ∀ a0 a1 a2 a3 a4 a5 a6 k, LeO (bucket_fill.f k a0 a1 a2 a3 a4 a5 a6) (bucket_fill.f (k + 1) a0 a1 a2 a3 a4 a5 a6) := by
  intro a0 a1 a2 a3 a4 a5 a6 k
  unfold bucket_fill.f
  repeat' first
      | (with_reducible exact wide_Div.mono _ _ _ _)
      | (with_reducible exact LeO.refl _)
      | (with_reducible exact LeO.none _)
      | (with_reducible refine LeO.ite ?_ ?_)
      | (with_reducible refine LeO.bind ?_ (fun _ => ?_))
      | exact wide_Div.mono _ _ _ _
      | exact LeO.none _
      | refine LeO.ite ?_ ?_
      | refine LeO.bind ?_ (fun _ => ?_)
def bucket_fill.T3 : Bool × List (List Nat × List Nat) := (true, [([], []), ([], []), ([1], [1]), ([0, 2], [0, 2]), ([], []), ([4], [4]), ([5], [5]), ([6], [6]), ([3, 7], [3, 7]), ([], []), ([9], [9]), ([10], [10]), ([11, 8], [11]), ([8, 12, 12], [8, 12]), ([13], [13]), ([14], [14]), ([14], [14]), ([], []), ([17, 15, 13, 0, 1, 2, 3, 4, 5, 6, 7, 8, 9, 10, 11, 12, 13, 14, 15, 17], [15, 17]), ([16, 18, 0, 1, 2, 3, 4, 5, 6, 7, 8, 9, 10, 11, 12, 13, 14, 15, 16, 17, 18], [16])])
def bucket_fill.B3 : List Nat := [0, 0, 2, 7, 0, 16, 48, 112, 255, 0, 512, 1536, 4095, 8191, 16383, 32767, 32767, 0, 196607, 524287]
theorem bucket_fill.tab3 : rtab .any (opsOf Try.f55 3) = bucket_fill.T3 := by kernel_rfl
theorem bucket_fill.bits3 : waitsOk bucket_fill.T3.2 bucket_fill.B3 = true := by kernel_rfl
set_option maxHeartbeats 8000000 in
set_option maxRecDepth 100000 in
theorem bucket_fill.calls (k : Nat) (a0_0 : Int) (a0_1 : Int) (a0_2 : Int) (a0_3 : Int) (a0_4 : Int) (a0_5 : Int) (a1 : Int) (r1 : Int) (r2 : Int) (r3 : Int) (r4 : Int) (r5 : Int) (r6 : Int) (w : World) (h : bucket_fill.f k a0_0 a0_1 a0_2 a0_3 a0_4 a0_5 a1 = some (r1, r2, r3, r4, r5, r6)) :
  Calls Try.prog 55 #[.agg #[.int .i64 a0_0, .int .i64 a0_1, .int .i64 a0_2, .int .i64 a0_3, .int .i64 a0_4, .int .u64 a0_5], .int .u64 a1] w fun e w' => e = .returned (.agg #[.int .i64 r1, .int .i64 r2, .int .i64 r3, .int .i64 r4, .int .i64 r5, .int .u64 r6]) ∧ Below w.heap.size w w' := by
 have hu63 := Try.underlying63
 have hu97 := Try.underlying97
 have HB := Aside0.mk (Below.refl w.heap.size w)
 have H : (if a1 ≤ a0_5 then (some (a0_0, a0_1, a0_2, a0_3, a0_4, a0_5)) else ((wide_Mul.f (IntKind.u64.wrap (a1 - a0_5)) (IntKind.u64.wrap (a0_1))).bind fun bt139 => ((wide_Of.f (IntKind.u64.wrap (a0_4))).bind fun bt141 => ((wide_Add.f bt139.1 bt139.2 bt141.1 bt141.2).bind fun bt143 => ((wide_Div.f k bt143.1 bt143.2.1 (IntKind.u64.wrap (a0_2))).bind fun bt147 => ((wide_Small.f bt147.1 bt147.2.1).bind fun bt152 => (if bt152.2 = 0 then (if bt152.1 ≥ (IntKind.u64.wrap (wrap64 (a0_0 - a0_3))) then (some (a0_0, a0_1, a0_2, a0_0, 0, a1)) else (some (a0_0, a0_1, a0_2, wrap64 (a0_3 + (wrap64 (bt152.1))), wrap64 (bt147.2.2.1), a1))) else (some (a0_0, a0_1, a0_2, a0_0, 0, a1))))))))) = some (r1, r2, r3, r4, r5, r6) := h
 clear h
 by_cases c3 : a1 ≤ a0_5
 ·rw [if_pos c3] at H
  have c3b0 : decide (a1 ≤ a0_5) = true := decide_eq_true c3
  clear c3
  simp only [Option.some.injEq, Prod.mk.injEq] at H
  obtain ⟨rfl, rfl, rfl, rfl, rfl, rfl⟩ := H
  go_enter Try.func55, Try.ntmps55
  go_wp2_with (first | ((with_reducible refine gate_dst (N := 2) rfl ?_); (try refine ug_ (by rfl) ?_); refine bx_ #[.int .i64 a0_0, .int .i64 a0_1, .int .i64 a0_2, .int .i64 a0_3, .int .i64 a0_4, .int .u64 a0_5] 63 ?_; intro gb137 hg w4 BK137 hb; have GW137 := bz_ w hg; have GE137 := GW137; replace HB := bs_ w hb; clear hb hg) | ((with_reducible refine gate_dst (N := 4) rfl ?_); (try refine ug_ (by rfl) ?_); refine bx_ #[.int .i64 0, .int .i64 0, .int .i64 0, .int .i64 0, .int .i64 0, .int .u64 0] 63 ?_; intro gb138 hg w5 BK138 hb; have GW138 := bz_ w hg; have GE138 := GW138; have NB137_138 := bn_ BK137 hg; have NB138_137 := bm_ BK137 hg; replace BK137 := bb_ BK137 hb; replace HB := bs_ w hb; clear hb hg; replace hn137_138 := NB137_138.out; replace hn138_137 := NB138_137.out; replace hc137 := ce6_ BK137; replace hc138 := ce6_ BK138))
  refine bodyPost_ret (results_cell_row rfl _ _ gb138 63 #[.int .i64 a0_0, .int .i64 a0_1, .int .i64 a0_2, .int .i64 a0_3, .int .i64 a0_4, .int .u64 a0_5] (0, 0) _ rfl (bp6_ (bq_ BK138)) Try.underlying63 rfl (by kernel_rfl)) rfl ?_
  exact fi_
 ·rw [if_neg c3] at H
  have c3b0 : decide (a1 ≤ a0_5) = false := decide_eq_false c3
  clear c3
  have H0_ := bo_ H; clear H; obtain ⟨⟨t139, t140⟩, A9, H⟩ := H0_
  try dsimp only at H
  have H0_ := bo_ H; clear H; obtain ⟨⟨t141, t142⟩, A10, H⟩ := H0_
  try dsimp only at H
  have H0_ := bo_ H; clear H; obtain ⟨⟨t143, t144, t145⟩, A11, H⟩ := H0_
  try dsimp only at H
  have H0_ := bo_ H; clear H; obtain ⟨⟨t147, t148, t149, t150⟩, A12, H⟩ := H0_
  try dsimp only at H
  have H0_ := bo_ H; clear H; obtain ⟨⟨t152, t153⟩, A13, H⟩ := H0_
  try dsimp only at H
  by_cases c14 : t153 = 0
  ·rw [if_pos c14] at H
   have c14b0 : (t153 == 0) = true := beq_iff_eq.mpr c14
   have c14b1 : (t153 != 0) = false := bne_eq_false_iff_eq.mpr c14
   clear c14
   by_cases c15 : t152 ≥ (IntKind.u64.wrap (wrap64 (a0_0 - a0_3)))
   ·rw [if_pos c15] at H
    have c15b0 : decide ((IntKind.u64.wrap (wrap64 (a0_0 - a0_3))) ≤ t152) = true := decide_eq_true c15
    clear c15
    simp only [Option.some.injEq, Prod.mk.injEq] at H
    obtain ⟨rfl, rfl, rfl, rfl, rfl, rfl⟩ := H
    go_enter Try.func55, Try.ntmps55
    try go_wp2_with (first | ((with_reducible refine gate_dst (N := 2) rfl ?_); (try refine ug_ (by rfl) ?_); refine bx_ #[.int .i64 a0_0, .int .i64 a0_1, .int .i64 a0_2, .int .i64 a0_3, .int .i64 a0_4, .int .u64 a0_5] 63 ?_; intro gb137 hg w16 BK137 hb; have GW137 := bz_ w hg; have GE137 := GW137; replace HB := bs_ w hb; clear hb hg) | ((with_reducible refine gate_dst (N := 4) rfl ?_); (try refine ug_ (by rfl) ?_); refine bx_ #[.int .i64 0, .int .i64 0, .int .i64 0, .int .i64 0, .int .i64 0, .int .u64 0] 63 ?_; intro gb138 hg w17 BK138 hb; have GW138 := bz_ w hg; have GE138 := GW138; have NB137_138 := bn_ BK137 hg; have NB138_137 := bm_ BK137 hg; replace BK137 := bb_ BK137 hb; replace HB := bs_ w hb; clear hb hg; replace hn137_138 := NB137_138.out; replace hn138_137 := NB138_137.out; replace hc137 := ce6_ BK137))
    replace BK137 := Aside0.mk (blk_drew BK137.out)
    replace BK138 := Aside0.mk (blk_drew BK138.out)
    replace HB := Aside0.mk (below_drew1 HB.out)
    refine start_ (n := 20) (S := fun w' => w'.cell? ⟨gb137, 0, none⟩ = some (.int .i64 a0_0) ∧ w'.cell? ⟨gb137, 1, none⟩ = some (.int .i64 a0_1) ∧ w'.cell? ⟨gb137, 2, none⟩ = some (.int .i64 a0_2) ∧ w'.cell? ⟨gb137, 3, none⟩ = some (.int .i64 a0_3) ∧ w'.cell? ⟨gb137, 4, none⟩ = some (.int .i64 a0_4) ∧ w'.cell? ⟨gb137, 5, none⟩ = some (.int .u64 a0_5)) (ds := []) (bl_ 20 0) (by kernel_rfl) rfl (by kernel_rfl) (cc6_ BK137) (fun hHeld => ?_); refine with_tabW bucket_fill.tab3 bucket_fill.bits3 (fun HT_ HW_ => ?_)
    generalize w17.drew = w20 at BK137 BK138 HB hHeld ⊢
    refine pa_ 0 (some 18) (bl_ 20 1) HT_ ?_
    refine pa_ 1 (some 19) (bl_ 20 3) HT_ ?_
    refine pa_ 4 (some 22) (bl_ 20 19) HT_ ?_
    refine pa_ 5 (some 23) (bl_ 20 51) HT_ ?_
    refine pa_ 9 (some 27) (bl_ 20 563) HT_ ?_
    refine ta_ 2 (some 20) (bl_ 20 567) HT_ HW_ hHeld ?_
    refine pa_ 3 (some 21) (bl_ 20 575) HT_ ?_
    refine ta_ 6 (some 24) (bl_ 20 639) HT_ HW_ hHeld ?_
    refine pa_ 7 (some 25) (bl_ 20 767) HT_ ?_
    refine ta_ 10 (some 28) (bl_ 20 1791) HT_ HW_ hHeld ?_
    refine pa_ 11 (some 29) (bl_ 20 3839) HT_ ?_
    refine join_ (σ := Nat) 2 (bl_ 20 262143) (fun s_ => [(26, .agg #[.int .u64 t139, .int .u64 t140]), (30, .agg #[.int .u64 t141, .int .u64 t142]), (31, .tuple #[.agg #[.int .u64 t143, .int .u64 t144], .int .i64 t145]), (5, .pointer (some ⟨s_, 0, none⟩)), (17, .tuple #[.agg #[.int .u64 t143, .int .u64 t144], .int .i64 t145]), (32, .agg #[.int .u64 t143, .int .u64 t144]), (33, .int .i64 t145)]) (fun s_ w' => (w'.cell? ⟨gb137, 0, none⟩ = some (.int .i64 a0_0) ∧ w'.cell? ⟨gb137, 1, none⟩ = some (.int .i64 a0_1) ∧ w'.cell? ⟨gb137, 2, none⟩ = some (.int .i64 a0_2) ∧ w'.cell? ⟨gb137, 3, none⟩ = some (.int .i64 a0_3) ∧ w'.cell? ⟨gb137, 4, none⟩ = some (.int .i64 a0_4) ∧ w'.cell? ⟨gb137, 5, none⟩ = some (.int .u64 a0_5)) ∧ (w'.heap[gb137]? = some (.cells #[.int .i64 a0_0, .int .i64 a0_1, .int .i64 a0_2, .int .i64 a0_3, .int .i64 a0_4, .int .u64 a0_5] 63 (0, 0))) ∧ (w'.heap[gb138]? = some (.cells #[.int .i64 0, .int .i64 0, .int .i64 0, .int .i64 0, .int .i64 0, .int .u64 0] 63 (0, 0))) ∧ (w'.heap[s_]? = some (.cells #[.int .u64 0, .int .u64 0] 97 (0, 0))) ∧ (w.heap.size ≤ s_) ∧ (w.heap.size ≤ s_) ∧ (gb137 ≠ s_) ∧ (s_ ≠ gb137) ∧ (gb138 ≠ s_) ∧ (s_ ≠ gb138) ∧ (Below w.heap.size w w')) ?_ ?_
    rotate_left
    ·intro hCont
     refine tw_ 8 17 (some 26) (some 5) (bl_ 20 4095) (bl_ 20 134911) HT_ (fun K hK => ?_) fun K hK => ?_
     ·refine goesB_ Try.func57 #[.int .u64 (IntKind.u64.wrap (a1 - a0_5)), .int .u64 (IntKind.u64.wrap (a0_1))] ?_
      with_reducible refine (wide_Mul.calls (IntKind.u64.wrap (a1 - a0_5)) (IntKind.u64.wrap (a0_1)) t139 t140 _ A9.out).mono ?_
      rintro e w21 ⟨rfl, hb⟩
      refine ⟨_, rfl, ?_⟩
      replace BK137 := bb_ BK137 hb
      replace BK138 := bb_ BK138 hb
      replace HB := bs_ w hb
      clear hb
      refine hK.out _ _ (cc6_ BK137) (fun hHeld => ?_)
      clear hK K
      refine nm_ (some 26) ?_
      refine tw_ 12 17 (some 30) (some 5) (bl_ 20 8191) (bl_ 20 135167) HT_ (fun K hK => ?_) fun K hK => ?_
      ·refine goesB_ Try.func58 #[.int .u64 (IntKind.u64.wrap (a0_4))] ?_
       with_reducible refine (wide_Of.calls (IntKind.u64.wrap (a0_4)) t141 t142 _ A10.out).mono ?_
       rintro e w22 ⟨rfl, hb⟩
       refine ⟨_, rfl, ?_⟩
       replace BK137 := bb_ BK137 hb
       replace BK138 := bb_ BK138 hb
       replace HB := bs_ w hb
       clear hb
       refine hK.out _ _ (cc6_ BK137) (fun hHeld => ?_)
       clear hK K
       refine nm_ (some 30) ?_
       refine tw_ 13 17 (some 31) (some 5) (bl_ 20 16383) (bl_ 20 139263) HT_ (fun K hK => ?_) fun K hK => ?_
       ·refine goesB_ Try.func72 #[.agg #[.int .u64 t139, .int .u64 t140], .agg #[.int .u64 t141, .int .u64 t142]] ?_
        with_reducible refine (wide_Add.calls t139 t140 t141 t142 t143 t144 t145 _ A11.out).mono ?_
        rintro e w23 ⟨rfl, hb⟩
        refine ⟨_, rfl, ?_⟩
        replace BK137 := bb_ BK137 hb
        replace BK138 := bb_ BK138 hb
        replace HB := bs_ w hb
        clear hb
        refine hK.out _ _ (cc6_ BK137) (fun hHeld => ?_)
        clear hK K
        refine nm_ (some 31) ?_
        refine pa_ 14 (some 17) (bl_ 20 32767) HT_ ?_
        refine pa_ 15 (some 32) (bl_ 20 65535) HT_ ?_
        refine pa_ 16 (some 33) (bl_ 20 131071) HT_ ?_
        refine oa_ 17 (some 5) (bl_ 20 262143) HT_ fun K hK => ?_
        refine bs2_ #[.int .u64 0, .int .u64 0] 97 ?_
        intro gb146 hg w24 BK146 hb
        have GW146 := bz_ w hg
        have GE146 := GW146
        have NB137_146 := bn_ BK137 hg
        have NB146_137 := bm_ BK137 hg
        have NB138_146 := bn_ BK138 hg
        have NB146_138 := bm_ BK138 hg
        replace BK137 := bb_ BK137 hb
        replace BK138 := bb_ BK138 hb
        replace HB := bs_ w hb
        clear hb hg
        refine hK.out _ _ (cc6_ BK137) (fun hHeld => ?_)
        clear hK K
        refine nm_ (some 5) ?_
        exact no_ (hCont (gb146) _ ⟨hHeld, (bq_ BK137), (bq_ BK138), (bq_ BK146), GW146.out, GE146.out, NB137_146.out, NB146_137.out, NB138_146.out, NB146_138.out, bh_⟩)
       ·refine bs2_ #[.int .u64 0, .int .u64 0] 97 ?_
        intro gb146 hg w23 BK146 hb
        have GW146 := bz_ w hg
        have GE146 := GW146
        have NB137_146 := bn_ BK137 hg
        have NB146_137 := bm_ BK137 hg
        have NB138_146 := bn_ BK138 hg
        have NB146_138 := bm_ BK138 hg
        replace BK137 := bb_ BK137 hb
        replace BK138 := bb_ BK138 hb
        replace HB := bs_ w hb
        clear hb hg
        refine hK.out _ _ (cc6_ BK137) (fun hHeld => ?_)
        clear hK K
        refine nm_ (some 5) ?_
        refine oa_ 13 (some 31) (bl_ 20 147455) HT_ fun K hK => ?_
        refine goesB_ Try.func72 #[.agg #[.int .u64 t139, .int .u64 t140], .agg #[.int .u64 t141, .int .u64 t142]] ?_
        with_reducible refine (wide_Add.calls t139 t140 t141 t142 t143 t144 t145 _ A11.out).mono ?_
        rintro e w24 ⟨rfl, hb⟩
        refine ⟨_, rfl, ?_⟩
        replace BK137 := bb_ BK137 hb
        replace BK138 := bb_ BK138 hb
        replace BK146 := bb_ BK146 hb
        replace HB := bs_ w hb
        clear hb
        refine hK.out _ _ (cc6_ BK137) (fun hHeld => ?_)
        clear hK K
        refine nm_ (some 31) ?_
        refine pa_ 14 (some 17) (bl_ 20 163839) HT_ ?_
        refine pa_ 15 (some 32) (bl_ 20 196607) HT_ ?_
        refine pa_ 16 (some 33) (bl_ 20 262143) HT_ ?_
        exact no_ (hCont (gb146) _ ⟨hHeld, (bq_ BK137), (bq_ BK138), (bq_ BK146), GW146.out, GE146.out, NB137_146.out, NB146_137.out, NB138_146.out, NB146_138.out, bh_⟩)
      ·refine bs2_ #[.int .u64 0, .int .u64 0] 97 ?_
       intro gb146 hg w22 BK146 hb
       have GW146 := bz_ w hg
       have GE146 := GW146
       have NB137_146 := bn_ BK137 hg
       have NB146_137 := bm_ BK137 hg
       have NB138_146 := bn_ BK138 hg
       have NB146_138 := bm_ BK138 hg
       replace BK137 := bb_ BK137 hb
       replace BK138 := bb_ BK138 hb
       replace HB := bs_ w hb
       clear hb hg
       refine hK.out _ _ (cc6_ BK137) (fun hHeld => ?_)
       clear hK K
       refine nm_ (some 5) ?_
       refine oa_ 12 (some 30) (bl_ 20 139263) HT_ fun K hK => ?_
       refine goesB_ Try.func58 #[.int .u64 (IntKind.u64.wrap (a0_4))] ?_
       with_reducible refine (wide_Of.calls (IntKind.u64.wrap (a0_4)) t141 t142 _ A10.out).mono ?_
       rintro e w23 ⟨rfl, hb⟩
       refine ⟨_, rfl, ?_⟩
       replace BK137 := bb_ BK137 hb
       replace BK138 := bb_ BK138 hb
       replace BK146 := bb_ BK146 hb
       replace HB := bs_ w hb
       clear hb
       refine hK.out _ _ (cc6_ BK137) (fun hHeld => ?_)
       clear hK K
       refine nm_ (some 30) ?_
       refine oa_ 13 (some 31) (bl_ 20 147455) HT_ fun K hK => ?_
       refine goesB_ Try.func72 #[.agg #[.int .u64 t139, .int .u64 t140], .agg #[.int .u64 t141, .int .u64 t142]] ?_
       with_reducible refine (wide_Add.calls t139 t140 t141 t142 t143 t144 t145 _ A11.out).mono ?_
       rintro e w24 ⟨rfl, hb⟩
       refine ⟨_, rfl, ?_⟩
       replace BK137 := bb_ BK137 hb
       replace BK138 := bb_ BK138 hb
       replace BK146 := bb_ BK146 hb
       replace HB := bs_ w hb
       clear hb
       refine hK.out _ _ (cc6_ BK137) (fun hHeld => ?_)
       clear hK K
       refine nm_ (some 31) ?_
       refine pa_ 14 (some 17) (bl_ 20 163839) HT_ ?_
       refine pa_ 15 (some 32) (bl_ 20 196607) HT_ ?_
       refine pa_ 16 (some 33) (bl_ 20 262143) HT_ ?_
       exact no_ (hCont (gb146) _ ⟨hHeld, (bq_ BK137), (bq_ BK138), (bq_ BK146), GW146.out, GE146.out, NB137_146.out, NB146_137.out, NB138_146.out, NB146_138.out, bh_⟩)
     ·refine bs2_ #[.int .u64 0, .int .u64 0] 97 ?_
      intro gb146 hg w21 BK146 hb
      have GW146 := bz_ w hg
      have GE146 := GW146
      have NB137_146 := bn_ BK137 hg
      have NB146_137 := bm_ BK137 hg
      have NB138_146 := bn_ BK138 hg
      have NB146_138 := bm_ BK138 hg
      replace BK137 := bb_ BK137 hb
      replace BK138 := bb_ BK138 hb
      replace HB := bs_ w hb
      clear hb hg
      refine hK.out _ _ (cc6_ BK137) (fun hHeld => ?_)
      clear hK K
      refine nm_ (some 5) ?_
      refine oa_ 8 (some 26) (bl_ 20 135167) HT_ fun K hK => ?_
      refine goesB_ Try.func57 #[.int .u64 (IntKind.u64.wrap (a1 - a0_5)), .int .u64 (IntKind.u64.wrap (a0_1))] ?_
      with_reducible refine (wide_Mul.calls (IntKind.u64.wrap (a1 - a0_5)) (IntKind.u64.wrap (a0_1)) t139 t140 _ A9.out).mono ?_
      rintro e w22 ⟨rfl, hb⟩
      refine ⟨_, rfl, ?_⟩
      replace BK137 := bb_ BK137 hb
      replace BK138 := bb_ BK138 hb
      replace BK146 := bb_ BK146 hb
      replace HB := bs_ w hb
      clear hb
      refine hK.out _ _ (cc6_ BK137) (fun hHeld => ?_)
      clear hK K
      refine nm_ (some 26) ?_
      refine oa_ 12 (some 30) (bl_ 20 139263) HT_ fun K hK => ?_
      refine goesB_ Try.func58 #[.int .u64 (IntKind.u64.wrap (a0_4))] ?_
      with_reducible refine (wide_Of.calls (IntKind.u64.wrap (a0_4)) t141 t142 _ A10.out).mono ?_
      rintro e w23 ⟨rfl, hb⟩
      refine ⟨_, rfl, ?_⟩
      replace BK137 := bb_ BK137 hb
      replace BK138 := bb_ BK138 hb
      replace BK146 := bb_ BK146 hb
      replace HB := bs_ w hb
      clear hb
      refine hK.out _ _ (cc6_ BK137) (fun hHeld => ?_)
      clear hK K
      refine nm_ (some 30) ?_
      refine oa_ 13 (some 31) (bl_ 20 147455) HT_ fun K hK => ?_
      refine goesB_ Try.func72 #[.agg #[.int .u64 t139, .int .u64 t140], .agg #[.int .u64 t141, .int .u64 t142]] ?_
      with_reducible refine (wide_Add.calls t139 t140 t141 t142 t143 t144 t145 _ A11.out).mono ?_
      rintro e w24 ⟨rfl, hb⟩
      refine ⟨_, rfl, ?_⟩
      replace BK137 := bb_ BK137 hb
      replace BK138 := bb_ BK138 hb
      replace BK146 := bb_ BK146 hb
      replace HB := bs_ w hb
      clear hb
      refine hK.out _ _ (cc6_ BK137) (fun hHeld => ?_)
      clear hK K
      refine nm_ (some 31) ?_
      refine pa_ 14 (some 17) (bl_ 20 163839) HT_ ?_
      refine pa_ 15 (some 32) (bl_ 20 196607) HT_ ?_
      refine pa_ 16 (some 33) (bl_ 20 262143) HT_ ?_
      exact no_ (hCont (gb146) _ ⟨hHeld, (bq_ BK137), (bq_ BK138), (bq_ BK146), GW146.out, GE146.out, NB137_146.out, NB146_137.out, NB138_146.out, NB146_138.out, bh_⟩)
    rintro gb146 w25 ⟨hS_, h0_, h1_, h2_, h3_, h4_, h5_, h6_, h7_, h8_, h9_⟩
    have BK146 := Aside0.mk h2_
    have GW146 := Aside0.mk h3_
    have GE146 := Aside0.mk h4_
    have NB137_146 := Aside0.mk h5_
    have NB146_137 := Aside0.mk h6_
    have NB138_146 := Aside0.mk h7_
    have NB146_138 := Aside0.mk h8_
    replace BK137 := Aside0.mk h0_
    replace BK138 := Aside0.mk h1_
    replace HB := Aside0.mk h9_
    clear h0_ h1_ h2_ h3_ h4_ h5_ h6_ h7_ h8_ h9_
    have hHeld := hS_
    refine nq_ ?_
    refine oa_ 18 none (bl_ 20 524287) HT_ fun K hK => ?_
    have hs26 : w25.cell? ⟨gb146, 0, none⟩ = some (.int .u64 0) := (blk_cell BK146.out 0).trans rfl
    have hfs26 := blk_frozen BK146.out 0
    have hns26_0 := NB137_146.out
    have hns26_1 := NB138_146.out
    have hms26_0 := NB146_137.out
    have hms26_1 := NB146_138.out
    have hs27 : w25.cell? ⟨gb146, 1, none⟩ = some (.int .u64 0) := (blk_cell BK146.out 1).trans rfl
    have hfs27 := blk_frozen BK146.out 1
    have hns27_0 := NB137_146.out
    have hns27_1 := NB138_146.out
    have hms27_0 := NB146_137.out
    have hms27_1 := NB146_138.out
    refine sk_ ?_
    refine hK.out _ _ (cf6_ hHeld) (fun hHeld => ?_)
    clear hK K
    refine pa_ 19 (some 6) (bl_ 20 1048575) HT_ ?_
    refine done_ (done_of HT_.out (by kernel_rfl)) ?_
    replace hn146_137 := NB146_137.out
    replace hn137_146 := NB137_146.out
    replace hn146_138 := NB146_138.out
    replace hn138_146 := NB138_146.out
    replace hc146 := ce2_ BK146
    replace hc137 := ce6_ BK137
    try go_wp2_with (first | ((with_reducible refine gate_callee (f := 73) rfl ?_); (try refine ug_ (by rfl) ?_); refine goesA_ (some 40) Try.func73 #[.agg #[.int .u64 t143, .int .u64 t144], .int .u64 (IntKind.u64.wrap (a0_2))] ?_; (with_reducible refine (wide_Div.calls k t143 t144 (IntKind.u64.wrap (a0_2)) t147 t148 t149 t150 _ A12.out).mono ?_); rintro e w32 ⟨rfl, hb⟩; refine ⟨_, rfl, ?_⟩; replace BK137 := bf_ BK137 hb; replace BK138 := bf_ BK138 hb; replace BK146 := Aside0.mk (blk_below (g := gb146) (o := .cells #[.int .u64 t143, .int .u64 t144] 97 (0, 0)) (bp2_ (bq_ BK146)) hb); replace HB := bs_ w hb; clear hb) | ((with_reducible refine gate_dst (N := 7) rfl ?_); (try refine ug_ (by rfl) ?_); refine bx_ #[.int .u64 0, .int .u64 0] 97 ?_; intro gb151 hg w33 BK151 hb; have GW151 := bz_ w hg; have GE151 := GW151; have NB137_151 := bn_ BK137 hg; have NB151_137 := bm_ BK137 hg; have NB138_151 := bn_ BK138 hg; have NB151_138 := bm_ BK138 hg; have NB146_151 := bn_ BK146 hg; have NB151_146 := bm_ BK146 hg; replace BK137 := bb_ BK137 hb; replace BK138 := bb_ BK138 hb; replace BK146 := bb_ BK146 hb; replace HB := bs_ w hb; clear hb hg; replace hn151_137 := NB151_137.out; replace hn137_151 := NB137_151.out; replace hn151_138 := NB151_138.out; replace hn138_151 := NB138_151.out; replace hn151_146 := NB151_146.out; replace hn146_151 := NB146_151.out; replace hc151 := ce2_ BK151; replace hc137 := ce6_ BK137) | ((with_reducible refine gate_callee (f := 60) rfl ?_); (try refine ug_ (by rfl) ?_); refine goesA_ (some 48) Try.func60 #[.agg #[.int .u64 t147, .int .u64 t148]] ?_; (with_reducible refine (wide_Small.calls t147 t148 t152 t153 _ A13.out).mono ?_); rintro e w39 ⟨rfl, hb⟩; refine ⟨_, rfl, ?_⟩; replace BK137 := Aside0.mk (blk_below (g := gb137) (o := .cells #[.int .i64 a0_0, .int .i64 a0_1, .int .i64 a0_2, .int .i64 a0_3, .int .i64 a0_4, .int .u64 a1] 63 (0, 0)) (blk_put (cs := #[.int .i64 a0_0, .int .i64 a0_1, .int .i64 a0_2, .int .i64 a0_3, .int .i64 a0_4, .int .u64 a0_5]) (bt_ BK137) 5 _ rfl) hb); replace BK138 := bf_ BK138 hb; replace BK146 := bf_ BK146 hb; replace BK151 := Aside0.mk (blk_below (g := gb151) (o := .cells #[.int .u64 t147, .int .u64 t148] 97 (0, 0)) (blk_far (bp2_ (bq_ BK151)) NB151_137.out _) hb); replace HB := bs_ w hb; clear hb; replace hc137 := ce6_ BK137; replace hc138 := ce6_ BK138))
    refine bodyPost_ret (results_cell_row rfl _ _ gb138 63 #[.int .i64 a0_0, .int .i64 a0_1, .int .i64 a0_2, .int .i64 a0_0, .int .i64 0, .int .u64 a1] (0, 0) _ rfl (bp6_ (bt_ BK138)) Try.underlying63 rfl (by kernel_rfl)) rfl ?_
    exact fi_
   ·rw [if_neg c15] at H
    have c15b0 : decide ((IntKind.u64.wrap (wrap64 (a0_0 - a0_3))) ≤ t152) = false := decide_eq_false c15
    clear c15
    simp only [Option.some.injEq, Prod.mk.injEq] at H
    obtain ⟨rfl, rfl, rfl, rfl, rfl, rfl⟩ := H
    go_enter Try.func55, Try.ntmps55
    try go_wp2_with (first | ((with_reducible refine gate_dst (N := 2) rfl ?_); (try refine ug_ (by rfl) ?_); refine bx_ #[.int .i64 a0_0, .int .i64 a0_1, .int .i64 a0_2, .int .i64 a0_3, .int .i64 a0_4, .int .u64 a0_5] 63 ?_; intro gb137 hg w42 BK137 hb; have GW137 := bz_ w hg; have GE137 := GW137; replace HB := bs_ w hb; clear hb hg) | ((with_reducible refine gate_dst (N := 4) rfl ?_); (try refine ug_ (by rfl) ?_); refine bx_ #[.int .i64 0, .int .i64 0, .int .i64 0, .int .i64 0, .int .i64 0, .int .u64 0] 63 ?_; intro gb138 hg w43 BK138 hb; have GW138 := bz_ w hg; have GE138 := GW138; have NB137_138 := bn_ BK137 hg; have NB138_137 := bm_ BK137 hg; replace BK137 := bb_ BK137 hb; replace HB := bs_ w hb; clear hb hg; replace hn137_138 := NB137_138.out; replace hn138_137 := NB138_137.out; replace hc137 := ce6_ BK137))
    replace BK137 := Aside0.mk (blk_drew BK137.out)
    replace BK138 := Aside0.mk (blk_drew BK138.out)
    replace HB := Aside0.mk (below_drew1 HB.out)
    refine start_ (n := 20) (S := fun w' => w'.cell? ⟨gb137, 0, none⟩ = some (.int .i64 a0_0) ∧ w'.cell? ⟨gb137, 1, none⟩ = some (.int .i64 a0_1) ∧ w'.cell? ⟨gb137, 2, none⟩ = some (.int .i64 a0_2) ∧ w'.cell? ⟨gb137, 3, none⟩ = some (.int .i64 a0_3) ∧ w'.cell? ⟨gb137, 4, none⟩ = some (.int .i64 a0_4) ∧ w'.cell? ⟨gb137, 5, none⟩ = some (.int .u64 a0_5)) (ds := []) (bl_ 20 0) (by kernel_rfl) rfl (by kernel_rfl) (cc6_ BK137) (fun hHeld => ?_); refine with_tabW bucket_fill.tab3 bucket_fill.bits3 (fun HT_ HW_ => ?_)
    generalize w43.drew = w46 at BK137 BK138 HB hHeld ⊢
    refine pa_ 0 (some 18) (bl_ 20 1) HT_ ?_
    refine pa_ 1 (some 19) (bl_ 20 3) HT_ ?_
    refine pa_ 4 (some 22) (bl_ 20 19) HT_ ?_
    refine pa_ 5 (some 23) (bl_ 20 51) HT_ ?_
    refine pa_ 9 (some 27) (bl_ 20 563) HT_ ?_
    refine ta_ 2 (some 20) (bl_ 20 567) HT_ HW_ hHeld ?_
    refine pa_ 3 (some 21) (bl_ 20 575) HT_ ?_
    refine ta_ 6 (some 24) (bl_ 20 639) HT_ HW_ hHeld ?_
    refine pa_ 7 (some 25) (bl_ 20 767) HT_ ?_
    refine ta_ 10 (some 28) (bl_ 20 1791) HT_ HW_ hHeld ?_
    refine pa_ 11 (some 29) (bl_ 20 3839) HT_ ?_
    refine join_ (σ := Nat) 2 (bl_ 20 262143) (fun s_ => [(26, .agg #[.int .u64 t139, .int .u64 t140]), (30, .agg #[.int .u64 t141, .int .u64 t142]), (31, .tuple #[.agg #[.int .u64 t143, .int .u64 t144], .int .i64 t145]), (5, .pointer (some ⟨s_, 0, none⟩)), (17, .tuple #[.agg #[.int .u64 t143, .int .u64 t144], .int .i64 t145]), (32, .agg #[.int .u64 t143, .int .u64 t144]), (33, .int .i64 t145)]) (fun s_ w' => (w'.cell? ⟨gb137, 0, none⟩ = some (.int .i64 a0_0) ∧ w'.cell? ⟨gb137, 1, none⟩ = some (.int .i64 a0_1) ∧ w'.cell? ⟨gb137, 2, none⟩ = some (.int .i64 a0_2) ∧ w'.cell? ⟨gb137, 3, none⟩ = some (.int .i64 a0_3) ∧ w'.cell? ⟨gb137, 4, none⟩ = some (.int .i64 a0_4) ∧ w'.cell? ⟨gb137, 5, none⟩ = some (.int .u64 a0_5)) ∧ (w'.heap[gb137]? = some (.cells #[.int .i64 a0_0, .int .i64 a0_1, .int .i64 a0_2, .int .i64 a0_3, .int .i64 a0_4, .int .u64 a0_5] 63 (0, 0))) ∧ (w'.heap[gb138]? = some (.cells #[.int .i64 0, .int .i64 0, .int .i64 0, .int .i64 0, .int .i64 0, .int .u64 0] 63 (0, 0))) ∧ (w'.heap[s_]? = some (.cells #[.int .u64 0, .int .u64 0] 97 (0, 0))) ∧ (w.heap.size ≤ s_) ∧ (w.heap.size ≤ s_) ∧ (gb137 ≠ s_) ∧ (s_ ≠ gb137) ∧ (gb138 ≠ s_) ∧ (s_ ≠ gb138) ∧ (Below w.heap.size w w')) ?_ ?_
    rotate_left
    ·intro hCont
     refine tw_ 8 17 (some 26) (some 5) (bl_ 20 4095) (bl_ 20 134911) HT_ (fun K hK => ?_) fun K hK => ?_
     ·refine goesB_ Try.func57 #[.int .u64 (IntKind.u64.wrap (a1 - a0_5)), .int .u64 (IntKind.u64.wrap (a0_1))] ?_
      with_reducible refine (wide_Mul.calls (IntKind.u64.wrap (a1 - a0_5)) (IntKind.u64.wrap (a0_1)) t139 t140 _ A9.out).mono ?_
      rintro e w47 ⟨rfl, hb⟩
      refine ⟨_, rfl, ?_⟩
      replace BK137 := bb_ BK137 hb
      replace BK138 := bb_ BK138 hb
      replace HB := bs_ w hb
      clear hb
      refine hK.out _ _ (cc6_ BK137) (fun hHeld => ?_)
      clear hK K
      refine nm_ (some 26) ?_
      refine tw_ 12 17 (some 30) (some 5) (bl_ 20 8191) (bl_ 20 135167) HT_ (fun K hK => ?_) fun K hK => ?_
      ·refine goesB_ Try.func58 #[.int .u64 (IntKind.u64.wrap (a0_4))] ?_
       with_reducible refine (wide_Of.calls (IntKind.u64.wrap (a0_4)) t141 t142 _ A10.out).mono ?_
       rintro e w48 ⟨rfl, hb⟩
       refine ⟨_, rfl, ?_⟩
       replace BK137 := bb_ BK137 hb
       replace BK138 := bb_ BK138 hb
       replace HB := bs_ w hb
       clear hb
       refine hK.out _ _ (cc6_ BK137) (fun hHeld => ?_)
       clear hK K
       refine nm_ (some 30) ?_
       refine tw_ 13 17 (some 31) (some 5) (bl_ 20 16383) (bl_ 20 139263) HT_ (fun K hK => ?_) fun K hK => ?_
       ·refine goesB_ Try.func72 #[.agg #[.int .u64 t139, .int .u64 t140], .agg #[.int .u64 t141, .int .u64 t142]] ?_
        with_reducible refine (wide_Add.calls t139 t140 t141 t142 t143 t144 t145 _ A11.out).mono ?_
        rintro e w49 ⟨rfl, hb⟩
        refine ⟨_, rfl, ?_⟩
        replace BK137 := bb_ BK137 hb
        replace BK138 := bb_ BK138 hb
        replace HB := bs_ w hb
        clear hb
        refine hK.out _ _ (cc6_ BK137) (fun hHeld => ?_)
        clear hK K
        refine nm_ (some 31) ?_
        refine pa_ 14 (some 17) (bl_ 20 32767) HT_ ?_
        refine pa_ 15 (some 32) (bl_ 20 65535) HT_ ?_
        refine pa_ 16 (some 33) (bl_ 20 131071) HT_ ?_
        refine oa_ 17 (some 5) (bl_ 20 262143) HT_ fun K hK => ?_
        refine bs2_ #[.int .u64 0, .int .u64 0] 97 ?_
        intro gb146 hg w50 BK146 hb
        have GW146 := bz_ w hg
        have GE146 := GW146
        have NB137_146 := bn_ BK137 hg
        have NB146_137 := bm_ BK137 hg
        have NB138_146 := bn_ BK138 hg
        have NB146_138 := bm_ BK138 hg
        replace BK137 := bb_ BK137 hb
        replace BK138 := bb_ BK138 hb
        replace HB := bs_ w hb
        clear hb hg
        refine hK.out _ _ (cc6_ BK137) (fun hHeld => ?_)
        clear hK K
        refine nm_ (some 5) ?_
        exact no_ (hCont (gb146) _ ⟨hHeld, (bq_ BK137), (bq_ BK138), (bq_ BK146), GW146.out, GE146.out, NB137_146.out, NB146_137.out, NB138_146.out, NB146_138.out, bh_⟩)
       ·refine bs2_ #[.int .u64 0, .int .u64 0] 97 ?_
        intro gb146 hg w49 BK146 hb
        have GW146 := bz_ w hg
        have GE146 := GW146
        have NB137_146 := bn_ BK137 hg
        have NB146_137 := bm_ BK137 hg
        have NB138_146 := bn_ BK138 hg
        have NB146_138 := bm_ BK138 hg
        replace BK137 := bb_ BK137 hb
        replace BK138 := bb_ BK138 hb
        replace HB := bs_ w hb
        clear hb hg
        refine hK.out _ _ (cc6_ BK137) (fun hHeld => ?_)
        clear hK K
        refine nm_ (some 5) ?_
        refine oa_ 13 (some 31) (bl_ 20 147455) HT_ fun K hK => ?_
        refine goesB_ Try.func72 #[.agg #[.int .u64 t139, .int .u64 t140], .agg #[.int .u64 t141, .int .u64 t142]] ?_
        with_reducible refine (wide_Add.calls t139 t140 t141 t142 t143 t144 t145 _ A11.out).mono ?_
        rintro e w50 ⟨rfl, hb⟩
        refine ⟨_, rfl, ?_⟩
        replace BK137 := bb_ BK137 hb
        replace BK138 := bb_ BK138 hb
        replace BK146 := bb_ BK146 hb
        replace HB := bs_ w hb
        clear hb
        refine hK.out _ _ (cc6_ BK137) (fun hHeld => ?_)
        clear hK K
        refine nm_ (some 31) ?_
        refine pa_ 14 (some 17) (bl_ 20 163839) HT_ ?_
        refine pa_ 15 (some 32) (bl_ 20 196607) HT_ ?_
        refine pa_ 16 (some 33) (bl_ 20 262143) HT_ ?_
        exact no_ (hCont (gb146) _ ⟨hHeld, (bq_ BK137), (bq_ BK138), (bq_ BK146), GW146.out, GE146.out, NB137_146.out, NB146_137.out, NB138_146.out, NB146_138.out, bh_⟩)
      ·refine bs2_ #[.int .u64 0, .int .u64 0] 97 ?_
       intro gb146 hg w48 BK146 hb
       have GW146 := bz_ w hg
       have GE146 := GW146
       have NB137_146 := bn_ BK137 hg
       have NB146_137 := bm_ BK137 hg
       have NB138_146 := bn_ BK138 hg
       have NB146_138 := bm_ BK138 hg
       replace BK137 := bb_ BK137 hb
       replace BK138 := bb_ BK138 hb
       replace HB := bs_ w hb
       clear hb hg
       refine hK.out _ _ (cc6_ BK137) (fun hHeld => ?_)
       clear hK K
       refine nm_ (some 5) ?_
       refine oa_ 12 (some 30) (bl_ 20 139263) HT_ fun K hK => ?_
       refine goesB_ Try.func58 #[.int .u64 (IntKind.u64.wrap (a0_4))] ?_
       with_reducible refine (wide_Of.calls (IntKind.u64.wrap (a0_4)) t141 t142 _ A10.out).mono ?_
       rintro e w49 ⟨rfl, hb⟩
       refine ⟨_, rfl, ?_⟩
       replace BK137 := bb_ BK137 hb
       replace BK138 := bb_ BK138 hb
       replace BK146 := bb_ BK146 hb
       replace HB := bs_ w hb
       clear hb
       refine hK.out _ _ (cc6_ BK137) (fun hHeld => ?_)
       clear hK K
       refine nm_ (some 30) ?_
       refine oa_ 13 (some 31) (bl_ 20 147455) HT_ fun K hK => ?_
       refine goesB_ Try.func72 #[.agg #[.int .u64 t139, .int .u64 t140], .agg #[.int .u64 t141, .int .u64 t142]] ?_
       with_reducible refine (wide_Add.calls t139 t140 t141 t142 t143 t144 t145 _ A11.out).mono ?_
       rintro e w50 ⟨rfl, hb⟩
       refine ⟨_, rfl, ?_⟩
       replace BK137 := bb_ BK137 hb
       replace BK138 := bb_ BK138 hb
       replace BK146 := bb_ BK146 hb
       replace HB := bs_ w hb
       clear hb
       refine hK.out _ _ (cc6_ BK137) (fun hHeld => ?_)
       clear hK K
       refine nm_ (some 31) ?_
       refine pa_ 14 (some 17) (bl_ 20 163839) HT_ ?_
       refine pa_ 15 (some 32) (bl_ 20 196607) HT_ ?_
       refine pa_ 16 (some 33) (bl_ 20 262143) HT_ ?_
       exact no_ (hCont (gb146) _ ⟨hHeld, (bq_ BK137), (bq_ BK138), (bq_ BK146), GW146.out, GE146.out, NB137_146.out, NB146_137.out, NB138_146.out, NB146_138.out, bh_⟩)
     ·refine bs2_ #[.int .u64 0, .int .u64 0] 97 ?_
      intro gb146 hg w47 BK146 hb
      have GW146 := bz_ w hg
      have GE146 := GW146
      have NB137_146 := bn_ BK137 hg
      have NB146_137 := bm_ BK137 hg
      have NB138_146 := bn_ BK138 hg
      have NB146_138 := bm_ BK138 hg
      replace BK137 := bb_ BK137 hb
      replace BK138 := bb_ BK138 hb
      replace HB := bs_ w hb
      clear hb hg
      refine hK.out _ _ (cc6_ BK137) (fun hHeld => ?_)
      clear hK K
      refine nm_ (some 5) ?_
      refine oa_ 8 (some 26) (bl_ 20 135167) HT_ fun K hK => ?_
      refine goesB_ Try.func57 #[.int .u64 (IntKind.u64.wrap (a1 - a0_5)), .int .u64 (IntKind.u64.wrap (a0_1))] ?_
      with_reducible refine (wide_Mul.calls (IntKind.u64.wrap (a1 - a0_5)) (IntKind.u64.wrap (a0_1)) t139 t140 _ A9.out).mono ?_
      rintro e w48 ⟨rfl, hb⟩
      refine ⟨_, rfl, ?_⟩
      replace BK137 := bb_ BK137 hb
      replace BK138 := bb_ BK138 hb
      replace BK146 := bb_ BK146 hb
      replace HB := bs_ w hb
      clear hb
      refine hK.out _ _ (cc6_ BK137) (fun hHeld => ?_)
      clear hK K
      refine nm_ (some 26) ?_
      refine oa_ 12 (some 30) (bl_ 20 139263) HT_ fun K hK => ?_
      refine goesB_ Try.func58 #[.int .u64 (IntKind.u64.wrap (a0_4))] ?_
      with_reducible refine (wide_Of.calls (IntKind.u64.wrap (a0_4)) t141 t142 _ A10.out).mono ?_
      rintro e w49 ⟨rfl, hb⟩
      refine ⟨_, rfl, ?_⟩
      replace BK137 := bb_ BK137 hb
      replace BK138 := bb_ BK138 hb
      replace BK146 := bb_ BK146 hb
      replace HB := bs_ w hb
      clear hb
      refine hK.out _ _ (cc6_ BK137) (fun hHeld => ?_)
      clear hK K
      refine nm_ (some 30) ?_
      refine oa_ 13 (some 31) (bl_ 20 147455) HT_ fun K hK => ?_
      refine goesB_ Try.func72 #[.agg #[.int .u64 t139, .int .u64 t140], .agg #[.int .u64 t141, .int .u64 t142]] ?_
      with_reducible refine (wide_Add.calls t139 t140 t141 t142 t143 t144 t145 _ A11.out).mono ?_
      rintro e w50 ⟨rfl, hb⟩
      refine ⟨_, rfl, ?_⟩
      replace BK137 := bb_ BK137 hb
      replace BK138 := bb_ BK138 hb
      replace BK146 := bb_ BK146 hb
      replace HB := bs_ w hb
      clear hb
      refine hK.out _ _ (cc6_ BK137) (fun hHeld => ?_)
      clear hK K
      refine nm_ (some 31) ?_
      refine pa_ 14 (some 17) (bl_ 20 163839) HT_ ?_
      refine pa_ 15 (some 32) (bl_ 20 196607) HT_ ?_
      refine pa_ 16 (some 33) (bl_ 20 262143) HT_ ?_
      exact no_ (hCont (gb146) _ ⟨hHeld, (bq_ BK137), (bq_ BK138), (bq_ BK146), GW146.out, GE146.out, NB137_146.out, NB146_137.out, NB138_146.out, NB146_138.out, bh_⟩)
    rintro gb146 w51 ⟨hS_, h0_, h1_, h2_, h3_, h4_, h5_, h6_, h7_, h8_, h9_⟩
    have BK146 := Aside0.mk h2_
    have GW146 := Aside0.mk h3_
    have GE146 := Aside0.mk h4_
    have NB137_146 := Aside0.mk h5_
    have NB146_137 := Aside0.mk h6_
    have NB138_146 := Aside0.mk h7_
    have NB146_138 := Aside0.mk h8_
    replace BK137 := Aside0.mk h0_
    replace BK138 := Aside0.mk h1_
    replace HB := Aside0.mk h9_
    clear h0_ h1_ h2_ h3_ h4_ h5_ h6_ h7_ h8_ h9_
    have hHeld := hS_
    refine nq_ ?_
    refine oa_ 18 none (bl_ 20 524287) HT_ fun K hK => ?_
    have hs52 : w51.cell? ⟨gb146, 0, none⟩ = some (.int .u64 0) := (blk_cell BK146.out 0).trans rfl
    have hfs52 := blk_frozen BK146.out 0
    have hns52_0 := NB137_146.out
    have hns52_1 := NB138_146.out
    have hms52_0 := NB146_137.out
    have hms52_1 := NB146_138.out
    have hs53 : w51.cell? ⟨gb146, 1, none⟩ = some (.int .u64 0) := (blk_cell BK146.out 1).trans rfl
    have hfs53 := blk_frozen BK146.out 1
    have hns53_0 := NB137_146.out
    have hns53_1 := NB138_146.out
    have hms53_0 := NB146_137.out
    have hms53_1 := NB146_138.out
    refine sk_ ?_
    refine hK.out _ _ (cf6_ hHeld) (fun hHeld => ?_)
    clear hK K
    refine pa_ 19 (some 6) (bl_ 20 1048575) HT_ ?_
    refine done_ (done_of HT_.out (by kernel_rfl)) ?_
    replace hn146_137 := NB146_137.out
    replace hn137_146 := NB137_146.out
    replace hn146_138 := NB146_138.out
    replace hn138_146 := NB138_146.out
    replace hc146 := ce2_ BK146
    replace hc137 := ce6_ BK137
    try go_wp2_with (first | ((with_reducible refine gate_callee (f := 73) rfl ?_); (try refine ug_ (by rfl) ?_); refine goesA_ (some 40) Try.func73 #[.agg #[.int .u64 t143, .int .u64 t144], .int .u64 (IntKind.u64.wrap (a0_2))] ?_; (with_reducible refine (wide_Div.calls k t143 t144 (IntKind.u64.wrap (a0_2)) t147 t148 t149 t150 _ A12.out).mono ?_); rintro e w58 ⟨rfl, hb⟩; refine ⟨_, rfl, ?_⟩; replace BK137 := bf_ BK137 hb; replace BK138 := bf_ BK138 hb; replace BK146 := Aside0.mk (blk_below (g := gb146) (o := .cells #[.int .u64 t143, .int .u64 t144] 97 (0, 0)) (bp2_ (bq_ BK146)) hb); replace HB := bs_ w hb; clear hb) | ((with_reducible refine gate_dst (N := 7) rfl ?_); (try refine ug_ (by rfl) ?_); refine bx_ #[.int .u64 0, .int .u64 0] 97 ?_; intro gb151 hg w59 BK151 hb; have GW151 := bz_ w hg; have GE151 := GW151; have NB137_151 := bn_ BK137 hg; have NB151_137 := bm_ BK137 hg; have NB138_151 := bn_ BK138 hg; have NB151_138 := bm_ BK138 hg; have NB146_151 := bn_ BK146 hg; have NB151_146 := bm_ BK146 hg; replace BK137 := bb_ BK137 hb; replace BK138 := bb_ BK138 hb; replace BK146 := bb_ BK146 hb; replace HB := bs_ w hb; clear hb hg; replace hn151_137 := NB151_137.out; replace hn137_151 := NB137_151.out; replace hn151_138 := NB151_138.out; replace hn138_151 := NB138_151.out; replace hn151_146 := NB151_146.out; replace hn146_151 := NB146_151.out; replace hc151 := ce2_ BK151; replace hc137 := ce6_ BK137) | ((with_reducible refine gate_callee (f := 60) rfl ?_); (try refine ug_ (by rfl) ?_); refine goesA_ (some 48) Try.func60 #[.agg #[.int .u64 t147, .int .u64 t148]] ?_; (with_reducible refine (wide_Small.calls t147 t148 t152 t153 _ A13.out).mono ?_); rintro e w65 ⟨rfl, hb⟩; refine ⟨_, rfl, ?_⟩; replace BK137 := Aside0.mk (blk_below (g := gb137) (o := .cells #[.int .i64 a0_0, .int .i64 a0_1, .int .i64 a0_2, .int .i64 a0_3, .int .i64 a0_4, .int .u64 a1] 63 (0, 0)) (blk_put (cs := #[.int .i64 a0_0, .int .i64 a0_1, .int .i64 a0_2, .int .i64 a0_3, .int .i64 a0_4, .int .u64 a0_5]) (bt_ BK137) 5 _ rfl) hb); replace BK138 := bf_ BK138 hb; replace BK146 := bf_ BK146 hb; replace BK151 := Aside0.mk (blk_below (g := gb151) (o := .cells #[.int .u64 t147, .int .u64 t148] 97 (0, 0)) (blk_far (bp2_ (bq_ BK151)) NB151_137.out _) hb); replace HB := bs_ w hb; clear hb; replace hc137 := ce6_ BK137; replace hc138 := ce6_ BK138))
    refine bodyPost_ret (results_cell_row rfl _ _ gb138 63 #[.int .i64 a0_0, .int .i64 a0_1, .int .i64 a0_2, .int .i64 (wrap64 (a0_3 + (wrap64 (t152)))), .int .i64 (wrap64 (t149)), .int .u64 a1] (0, 0) _ rfl (bp6_ (bt_ BK138)) Try.underlying63 rfl (by kernel_rfl)) rfl ?_
    exact fi_
  ·rw [if_neg c14] at H
   have c14b0 : (t153 == 0) = false := beq_eq_false_iff_ne.mpr c14
   have c14b1 : (t153 != 0) = true := bne_iff_ne.mpr c14
   simp only [Option.some.injEq, Prod.mk.injEq] at H
   obtain ⟨rfl, rfl, rfl, rfl, rfl, rfl⟩ := H
   go_enter Try.func55, Try.ntmps55
   try go_wp2_with (first | ((with_reducible refine gate_dst (N := 2) rfl ?_); (try refine ug_ (by rfl) ?_); refine bx_ #[.int .i64 a0_0, .int .i64 a0_1, .int .i64 a0_2, .int .i64 a0_3, .int .i64 a0_4, .int .u64 a0_5] 63 ?_; intro gb137 hg w68 BK137 hb; have GW137 := bz_ w hg; have GE137 := GW137; replace HB := bs_ w hb; clear hb hg) | ((with_reducible refine gate_dst (N := 4) rfl ?_); (try refine ug_ (by rfl) ?_); refine bx_ #[.int .i64 0, .int .i64 0, .int .i64 0, .int .i64 0, .int .i64 0, .int .u64 0] 63 ?_; intro gb138 hg w69 BK138 hb; have GW138 := bz_ w hg; have GE138 := GW138; have NB137_138 := bn_ BK137 hg; have NB138_137 := bm_ BK137 hg; replace BK137 := bb_ BK137 hb; replace HB := bs_ w hb; clear hb hg; replace hn137_138 := NB137_138.out; replace hn138_137 := NB138_137.out; replace hc137 := ce6_ BK137))
   replace BK137 := Aside0.mk (blk_drew BK137.out)
   replace BK138 := Aside0.mk (blk_drew BK138.out)
   replace HB := Aside0.mk (below_drew1 HB.out)
   refine start_ (n := 20) (S := fun w' => w'.cell? ⟨gb137, 0, none⟩ = some (.int .i64 a0_0) ∧ w'.cell? ⟨gb137, 1, none⟩ = some (.int .i64 a0_1) ∧ w'.cell? ⟨gb137, 2, none⟩ = some (.int .i64 a0_2) ∧ w'.cell? ⟨gb137, 3, none⟩ = some (.int .i64 a0_3) ∧ w'.cell? ⟨gb137, 4, none⟩ = some (.int .i64 a0_4) ∧ w'.cell? ⟨gb137, 5, none⟩ = some (.int .u64 a0_5)) (ds := []) (bl_ 20 0) (by kernel_rfl) rfl (by kernel_rfl) (cc6_ BK137) (fun hHeld => ?_); refine with_tabW bucket_fill.tab3 bucket_fill.bits3 (fun HT_ HW_ => ?_)
   generalize w69.drew = w72 at BK137 BK138 HB hHeld ⊢
   refine pa_ 0 (some 18) (bl_ 20 1) HT_ ?_
   refine pa_ 1 (some 19) (bl_ 20 3) HT_ ?_
   refine pa_ 4 (some 22) (bl_ 20 19) HT_ ?_
   refine pa_ 5 (some 23) (bl_ 20 51) HT_ ?_
   refine pa_ 9 (some 27) (bl_ 20 563) HT_ ?_
   refine ta_ 2 (some 20) (bl_ 20 567) HT_ HW_ hHeld ?_
   refine pa_ 3 (some 21) (bl_ 20 575) HT_ ?_
   refine ta_ 6 (some 24) (bl_ 20 639) HT_ HW_ hHeld ?_
   refine pa_ 7 (some 25) (bl_ 20 767) HT_ ?_
   refine ta_ 10 (some 28) (bl_ 20 1791) HT_ HW_ hHeld ?_
   refine pa_ 11 (some 29) (bl_ 20 3839) HT_ ?_
   refine join_ (σ := Nat) 2 (bl_ 20 262143) (fun s_ => [(26, .agg #[.int .u64 t139, .int .u64 t140]), (30, .agg #[.int .u64 t141, .int .u64 t142]), (31, .tuple #[.agg #[.int .u64 t143, .int .u64 t144], .int .i64 t145]), (5, .pointer (some ⟨s_, 0, none⟩)), (17, .tuple #[.agg #[.int .u64 t143, .int .u64 t144], .int .i64 t145]), (32, .agg #[.int .u64 t143, .int .u64 t144]), (33, .int .i64 t145)]) (fun s_ w' => (w'.cell? ⟨gb137, 0, none⟩ = some (.int .i64 a0_0) ∧ w'.cell? ⟨gb137, 1, none⟩ = some (.int .i64 a0_1) ∧ w'.cell? ⟨gb137, 2, none⟩ = some (.int .i64 a0_2) ∧ w'.cell? ⟨gb137, 3, none⟩ = some (.int .i64 a0_3) ∧ w'.cell? ⟨gb137, 4, none⟩ = some (.int .i64 a0_4) ∧ w'.cell? ⟨gb137, 5, none⟩ = some (.int .u64 a0_5)) ∧ (w'.heap[gb137]? = some (.cells #[.int .i64 a0_0, .int .i64 a0_1, .int .i64 a0_2, .int .i64 a0_3, .int .i64 a0_4, .int .u64 a0_5] 63 (0, 0))) ∧ (w'.heap[gb138]? = some (.cells #[.int .i64 0, .int .i64 0, .int .i64 0, .int .i64 0, .int .i64 0, .int .u64 0] 63 (0, 0))) ∧ (w'.heap[s_]? = some (.cells #[.int .u64 0, .int .u64 0] 97 (0, 0))) ∧ (w.heap.size ≤ s_) ∧ (w.heap.size ≤ s_) ∧ (gb137 ≠ s_) ∧ (s_ ≠ gb137) ∧ (gb138 ≠ s_) ∧ (s_ ≠ gb138) ∧ (Below w.heap.size w w')) ?_ ?_
   rotate_left
   ·intro hCont
    refine tw_ 8 17 (some 26) (some 5) (bl_ 20 4095) (bl_ 20 134911) HT_ (fun K hK => ?_) fun K hK => ?_
    ·refine goesB_ Try.func57 #[.int .u64 (IntKind.u64.wrap (a1 - a0_5)), .int .u64 (IntKind.u64.wrap (a0_1))] ?_
     with_reducible refine (wide_Mul.calls (IntKind.u64.wrap (a1 - a0_5)) (IntKind.u64.wrap (a0_1)) t139 t140 _ A9.out).mono ?_
     rintro e w73 ⟨rfl, hb⟩
     refine ⟨_, rfl, ?_⟩
     replace BK137 := bb_ BK137 hb
     replace BK138 := bb_ BK138 hb
     replace HB := bs_ w hb
     clear hb
     refine hK.out _ _ (cc6_ BK137) (fun hHeld => ?_)
     clear hK K
     refine nm_ (some 26) ?_
     refine tw_ 12 17 (some 30) (some 5) (bl_ 20 8191) (bl_ 20 135167) HT_ (fun K hK => ?_) fun K hK => ?_
     ·refine goesB_ Try.func58 #[.int .u64 (IntKind.u64.wrap (a0_4))] ?_
      with_reducible refine (wide_Of.calls (IntKind.u64.wrap (a0_4)) t141 t142 _ A10.out).mono ?_
      rintro e w74 ⟨rfl, hb⟩
      refine ⟨_, rfl, ?_⟩
      replace BK137 := bb_ BK137 hb
      replace BK138 := bb_ BK138 hb
      replace HB := bs_ w hb
      clear hb
      refine hK.out _ _ (cc6_ BK137) (fun hHeld => ?_)
      clear hK K
      refine nm_ (some 30) ?_
      refine tw_ 13 17 (some 31) (some 5) (bl_ 20 16383) (bl_ 20 139263) HT_ (fun K hK => ?_) fun K hK => ?_
      ·refine goesB_ Try.func72 #[.agg #[.int .u64 t139, .int .u64 t140], .agg #[.int .u64 t141, .int .u64 t142]] ?_
       with_reducible refine (wide_Add.calls t139 t140 t141 t142 t143 t144 t145 _ A11.out).mono ?_
       rintro e w75 ⟨rfl, hb⟩
       refine ⟨_, rfl, ?_⟩
       replace BK137 := bb_ BK137 hb
       replace BK138 := bb_ BK138 hb
       replace HB := bs_ w hb
       clear hb
       refine hK.out _ _ (cc6_ BK137) (fun hHeld => ?_)
       clear hK K
       refine nm_ (some 31) ?_
       refine pa_ 14 (some 17) (bl_ 20 32767) HT_ ?_
       refine pa_ 15 (some 32) (bl_ 20 65535) HT_ ?_
       refine pa_ 16 (some 33) (bl_ 20 131071) HT_ ?_
       refine oa_ 17 (some 5) (bl_ 20 262143) HT_ fun K hK => ?_
       refine bs2_ #[.int .u64 0, .int .u64 0] 97 ?_
       intro gb146 hg w76 BK146 hb
       have GW146 := bz_ w hg
       have GE146 := GW146
       have NB137_146 := bn_ BK137 hg
       have NB146_137 := bm_ BK137 hg
       have NB138_146 := bn_ BK138 hg
       have NB146_138 := bm_ BK138 hg
       replace BK137 := bb_ BK137 hb
       replace BK138 := bb_ BK138 hb
       replace HB := bs_ w hb
       clear hb hg
       refine hK.out _ _ (cc6_ BK137) (fun hHeld => ?_)
       clear hK K
       refine nm_ (some 5) ?_
       exact no_ (hCont (gb146) _ ⟨hHeld, (bq_ BK137), (bq_ BK138), (bq_ BK146), GW146.out, GE146.out, NB137_146.out, NB146_137.out, NB138_146.out, NB146_138.out, bh_⟩)
      ·refine bs2_ #[.int .u64 0, .int .u64 0] 97 ?_
       intro gb146 hg w75 BK146 hb
       have GW146 := bz_ w hg
       have GE146 := GW146
       have NB137_146 := bn_ BK137 hg
       have NB146_137 := bm_ BK137 hg
       have NB138_146 := bn_ BK138 hg
       have NB146_138 := bm_ BK138 hg
       replace BK137 := bb_ BK137 hb
       replace BK138 := bb_ BK138 hb
       replace HB := bs_ w hb
       clear hb hg
       refine hK.out _ _ (cc6_ BK137) (fun hHeld => ?_)
       clear hK K
       refine nm_ (some 5) ?_
       refine oa_ 13 (some 31) (bl_ 20 147455) HT_ fun K hK => ?_
       refine goesB_ Try.func72 #[.agg #[.int .u64 t139, .int .u64 t140], .agg #[.int .u64 t141, .int .u64 t142]] ?_
       with_reducible refine (wide_Add.calls t139 t140 t141 t142 t143 t144 t145 _ A11.out).mono ?_
       rintro e w76 ⟨rfl, hb⟩
       refine ⟨_, rfl, ?_⟩
       replace BK137 := bb_ BK137 hb
       replace BK138 := bb_ BK138 hb
       replace BK146 := bb_ BK146 hb
       replace HB := bs_ w hb
       clear hb
       refine hK.out _ _ (cc6_ BK137) (fun hHeld => ?_)
       clear hK K
       refine nm_ (some 31) ?_
       refine pa_ 14 (some 17) (bl_ 20 163839) HT_ ?_
       refine pa_ 15 (some 32) (bl_ 20 196607) HT_ ?_
       refine pa_ 16 (some 33) (bl_ 20 262143) HT_ ?_
       exact no_ (hCont (gb146) _ ⟨hHeld, (bq_ BK137), (bq_ BK138), (bq_ BK146), GW146.out, GE146.out, NB137_146.out, NB146_137.out, NB138_146.out, NB146_138.out, bh_⟩)
     ·refine bs2_ #[.int .u64 0, .int .u64 0] 97 ?_
      intro gb146 hg w74 BK146 hb
      have GW146 := bz_ w hg
      have GE146 := GW146
      have NB137_146 := bn_ BK137 hg
      have NB146_137 := bm_ BK137 hg
      have NB138_146 := bn_ BK138 hg
      have NB146_138 := bm_ BK138 hg
      replace BK137 := bb_ BK137 hb
      replace BK138 := bb_ BK138 hb
      replace HB := bs_ w hb
      clear hb hg
      refine hK.out _ _ (cc6_ BK137) (fun hHeld => ?_)
      clear hK K
      refine nm_ (some 5) ?_
      refine oa_ 12 (some 30) (bl_ 20 139263) HT_ fun K hK => ?_
      refine goesB_ Try.func58 #[.int .u64 (IntKind.u64.wrap (a0_4))] ?_
      with_reducible refine (wide_Of.calls (IntKind.u64.wrap (a0_4)) t141 t142 _ A10.out).mono ?_
      rintro e w75 ⟨rfl, hb⟩
      refine ⟨_, rfl, ?_⟩
      replace BK137 := bb_ BK137 hb
      replace BK138 := bb_ BK138 hb
      replace BK146 := bb_ BK146 hb
      replace HB := bs_ w hb
      clear hb
      refine hK.out _ _ (cc6_ BK137) (fun hHeld => ?_)
      clear hK K
      refine nm_ (some 30) ?_
      refine oa_ 13 (some 31) (bl_ 20 147455) HT_ fun K hK => ?_
      refine goesB_ Try.func72 #[.agg #[.int .u64 t139, .int .u64 t140], .agg #[.int .u64 t141, .int .u64 t142]] ?_
      with_reducible refine (wide_Add.calls t139 t140 t141 t142 t143 t144 t145 _ A11.out).mono ?_
      rintro e w76 ⟨rfl, hb⟩
      refine ⟨_, rfl, ?_⟩
      replace BK137 := bb_ BK137 hb
      replace BK138 := bb_ BK138 hb
      replace BK146 := bb_ BK146 hb
      replace HB := bs_ w hb
      clear hb
      refine hK.out _ _ (cc6_ BK137) (fun hHeld => ?_)
      clear hK K
      refine nm_ (some 31) ?_
      refine pa_ 14 (some 17) (bl_ 20 163839) HT_ ?_
      refine pa_ 15 (some 32) (bl_ 20 196607) HT_ ?_
      refine pa_ 16 (some 33) (bl_ 20 262143) HT_ ?_
      exact no_ (hCont (gb146) _ ⟨hHeld, (bq_ BK137), (bq_ BK138), (bq_ BK146), GW146.out, GE146.out, NB137_146.out, NB146_137.out, NB138_146.out, NB146_138.out, bh_⟩)
    ·refine bs2_ #[.int .u64 0, .int .u64 0] 97 ?_
     intro gb146 hg w73 BK146 hb
     have GW146 := bz_ w hg
     have GE146 := GW146
     have NB137_146 := bn_ BK137 hg
     have NB146_137 := bm_ BK137 hg
     have NB138_146 := bn_ BK138 hg
     have NB146_138 := bm_ BK138 hg
     replace BK137 := bb_ BK137 hb
     replace BK138 := bb_ BK138 hb
     replace HB := bs_ w hb
     clear hb hg
     refine hK.out _ _ (cc6_ BK137) (fun hHeld => ?_)
     clear hK K
     refine nm_ (some 5) ?_
     refine oa_ 8 (some 26) (bl_ 20 135167) HT_ fun K hK => ?_
     refine goesB_ Try.func57 #[.int .u64 (IntKind.u64.wrap (a1 - a0_5)), .int .u64 (IntKind.u64.wrap (a0_1))] ?_
     with_reducible refine (wide_Mul.calls (IntKind.u64.wrap (a1 - a0_5)) (IntKind.u64.wrap (a0_1)) t139 t140 _ A9.out).mono ?_
     rintro e w74 ⟨rfl, hb⟩
     refine ⟨_, rfl, ?_⟩
     replace BK137 := bb_ BK137 hb
     replace BK138 := bb_ BK138 hb
     replace BK146 := bb_ BK146 hb
     replace HB := bs_ w hb
     clear hb
     refine hK.out _ _ (cc6_ BK137) (fun hHeld => ?_)
     clear hK K
     refine nm_ (some 26) ?_
     refine oa_ 12 (some 30) (bl_ 20 139263) HT_ fun K hK => ?_
     refine goesB_ Try.func58 #[.int .u64 (IntKind.u64.wrap (a0_4))] ?_
     with_reducible refine (wide_Of.calls (IntKind.u64.wrap (a0_4)) t141 t142 _ A10.out).mono ?_
     rintro e w75 ⟨rfl, hb⟩
     refine ⟨_, rfl, ?_⟩
     replace BK137 := bb_ BK137 hb
     replace BK138 := bb_ BK138 hb
     replace BK146 := bb_ BK146 hb
     replace HB := bs_ w hb
     clear hb
     refine hK.out _ _ (cc6_ BK137) (fun hHeld => ?_)
     clear hK K
     refine nm_ (some 30) ?_
     refine oa_ 13 (some 31) (bl_ 20 147455) HT_ fun K hK => ?_
     refine goesB_ Try.func72 #[.agg #[.int .u64 t139, .int .u64 t140], .agg #[.int .u64 t141, .int .u64 t142]] ?_
     with_reducible refine (wide_Add.calls t139 t140 t141 t142 t143 t144 t145 _ A11.out).mono ?_
     rintro e w76 ⟨rfl, hb⟩
     refine ⟨_, rfl, ?_⟩
     replace BK137 := bb_ BK137 hb
     replace BK138 := bb_ BK138 hb
     replace BK146 := bb_ BK146 hb
     replace HB := bs_ w hb
     clear hb
     refine hK.out _ _ (cc6_ BK137) (fun hHeld => ?_)
     clear hK K
     refine nm_ (some 31) ?_
     refine pa_ 14 (some 17) (bl_ 20 163839) HT_ ?_
     refine pa_ 15 (some 32) (bl_ 20 196607) HT_ ?_
     refine pa_ 16 (some 33) (bl_ 20 262143) HT_ ?_
     exact no_ (hCont (gb146) _ ⟨hHeld, (bq_ BK137), (bq_ BK138), (bq_ BK146), GW146.out, GE146.out, NB137_146.out, NB146_137.out, NB138_146.out, NB146_138.out, bh_⟩)
   rintro gb146 w77 ⟨hS_, h0_, h1_, h2_, h3_, h4_, h5_, h6_, h7_, h8_, h9_⟩
   have BK146 := Aside0.mk h2_
   have GW146 := Aside0.mk h3_
   have GE146 := Aside0.mk h4_
   have NB137_146 := Aside0.mk h5_
   have NB146_137 := Aside0.mk h6_
   have NB138_146 := Aside0.mk h7_
   have NB146_138 := Aside0.mk h8_
   replace BK137 := Aside0.mk h0_
   replace BK138 := Aside0.mk h1_
   replace HB := Aside0.mk h9_
   clear h0_ h1_ h2_ h3_ h4_ h5_ h6_ h7_ h8_ h9_
   have hHeld := hS_
   refine nq_ ?_
   refine oa_ 18 none (bl_ 20 524287) HT_ fun K hK => ?_
   have hs78 : w77.cell? ⟨gb146, 0, none⟩ = some (.int .u64 0) := (blk_cell BK146.out 0).trans rfl
   have hfs78 := blk_frozen BK146.out 0
   have hns78_0 := NB137_146.out
   have hns78_1 := NB138_146.out
   have hms78_0 := NB146_137.out
   have hms78_1 := NB146_138.out
   have hs79 : w77.cell? ⟨gb146, 1, none⟩ = some (.int .u64 0) := (blk_cell BK146.out 1).trans rfl
   have hfs79 := blk_frozen BK146.out 1
   have hns79_0 := NB137_146.out
   have hns79_1 := NB138_146.out
   have hms79_0 := NB146_137.out
   have hms79_1 := NB146_138.out
   refine sk_ ?_
   refine hK.out _ _ (cf6_ hHeld) (fun hHeld => ?_)
   clear hK K
   refine pa_ 19 (some 6) (bl_ 20 1048575) HT_ ?_
   refine done_ (done_of HT_.out (by kernel_rfl)) ?_
   replace hn146_137 := NB146_137.out
   replace hn137_146 := NB137_146.out
   replace hn146_138 := NB146_138.out
   replace hn138_146 := NB138_146.out
   replace hc146 := ce2_ BK146
   replace hc137 := ce6_ BK137
   try go_wp2_with (first | ((with_reducible refine gate_callee (f := 73) rfl ?_); (try refine ug_ (by rfl) ?_); refine goesA_ (some 40) Try.func73 #[.agg #[.int .u64 t143, .int .u64 t144], .int .u64 (IntKind.u64.wrap (a0_2))] ?_; (with_reducible refine (wide_Div.calls k t143 t144 (IntKind.u64.wrap (a0_2)) t147 t148 t149 t150 _ A12.out).mono ?_); rintro e w84 ⟨rfl, hb⟩; refine ⟨_, rfl, ?_⟩; replace BK137 := bf_ BK137 hb; replace BK138 := bf_ BK138 hb; replace BK146 := Aside0.mk (blk_below (g := gb146) (o := .cells #[.int .u64 t143, .int .u64 t144] 97 (0, 0)) (bp2_ (bq_ BK146)) hb); replace HB := bs_ w hb; clear hb) | ((with_reducible refine gate_dst (N := 7) rfl ?_); (try refine ug_ (by rfl) ?_); refine bx_ #[.int .u64 0, .int .u64 0] 97 ?_; intro gb151 hg w85 BK151 hb; have GW151 := bz_ w hg; have GE151 := GW151; have NB137_151 := bn_ BK137 hg; have NB151_137 := bm_ BK137 hg; have NB138_151 := bn_ BK138 hg; have NB151_138 := bm_ BK138 hg; have NB146_151 := bn_ BK146 hg; have NB151_146 := bm_ BK146 hg; replace BK137 := bb_ BK137 hb; replace BK138 := bb_ BK138 hb; replace BK146 := bb_ BK146 hb; replace HB := bs_ w hb; clear hb hg; replace hn151_137 := NB151_137.out; replace hn137_151 := NB137_151.out; replace hn151_138 := NB151_138.out; replace hn138_151 := NB138_151.out; replace hn151_146 := NB151_146.out; replace hn146_151 := NB146_151.out; replace hc151 := ce2_ BK151; replace hc137 := ce6_ BK137) | ((with_reducible refine gate_callee (f := 60) rfl ?_); (try refine ug_ (by rfl) ?_); refine goesA_ (some 48) Try.func60 #[.agg #[.int .u64 t147, .int .u64 t148]] ?_; (with_reducible refine (wide_Small.calls t147 t148 t152 t153 _ A13.out).mono ?_); rintro e w91 ⟨rfl, hb⟩; refine ⟨_, rfl, ?_⟩; replace BK137 := Aside0.mk (blk_below (g := gb137) (o := .cells #[.int .i64 a0_0, .int .i64 a0_1, .int .i64 a0_2, .int .i64 a0_3, .int .i64 a0_4, .int .u64 a1] 63 (0, 0)) (blk_put (cs := #[.int .i64 a0_0, .int .i64 a0_1, .int .i64 a0_2, .int .i64 a0_3, .int .i64 a0_4, .int .u64 a0_5]) (bt_ BK137) 5 _ rfl) hb); replace BK138 := bf_ BK138 hb; replace BK146 := bf_ BK146 hb; replace BK151 := Aside0.mk (blk_below (g := gb151) (o := .cells #[.int .u64 t147, .int .u64 t148] 97 (0, 0)) (blk_far (bp2_ (bq_ BK151)) NB151_137.out _) hb); replace HB := bs_ w hb; clear hb; replace hc137 := ce6_ BK137; replace hc138 := ce6_ BK138))
   refine bodyPost_ret (results_cell_row rfl _ _ gb138 63 #[.int .i64 a0_0, .int .i64 a0_1, .int .i64 a0_2, .int .i64 a0_0, .int .i64 0, .int .u64 a1] (0, 0) _ rfl (bp6_ (bt_ BK138)) Try.underlying63 rfl (by kernel_rfl)) rfl ?_
   exact fi_

end Go.Proofs.Ytfdpcnkghmmobaa.X
