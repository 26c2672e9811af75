-- written by xprint.py, a program of this session over the kit's print
import Derived.Test.YtmfkedeaifdfdaaX0
import Derived.Test.YtmfkedeaifdfdaaX5
import Derived.Test.YtmfkedeaifdfdaaX8
namespace Go.Proofs.Ytmfkedeaifdfdaa.X
open Go.RowKit Go.Proofs.YtmfkedeaifdfdaaW.PrintWords Go.Proofs.YtmfkedeaifdfdaaW.PrintLast Go.Proofs.YtmfkedeaifdfdaaW.PrintMore
attribute [local go_sem] max2_int min2_int max_two min_two max_three min_three max_four min_four   -- for this text's walks alone
set_option linter.unusedVariables false
set_option linter.unusedSimpArgs false

/-! ### bucket_fill: function 34 -/
def bucket_fill.f (k : Nat) (a0_0 : Int) (a0_1 : Int) (a0_2 : Int) (a0_3 : Int) (a0_4 : Int) (a0_5 : Int) (a1 : Int) : Option (Int × Int × Int × Int × Int × Int) := if a1 ≤ a0_5 then (some (a0_0, a0_1, a0_2, a0_3, a0_4, a0_5)) else ((wide_Mul.f (IntKind.u64.wrap (a1 - a0_5)) (IntKind.u64.wrap (a0_1))).bind fun bt134 => ((wide_Of.f (IntKind.u64.wrap (a0_4))).bind fun bt136 => ((wide_Add.f bt134.1 bt134.2 bt136.1 bt136.2).bind fun bt138 => ((wide_Div.f k bt138.1 bt138.2.1 (IntKind.u64.wrap (a0_2))).bind fun bt142 => ((wide_Small.f bt142.1 bt142.2.1).bind fun bt147 => (if bt147.2 = 0 then (if bt147.1 ≥ (IntKind.u64.wrap (wrap64 (a0_0 - a0_3))) then (some (a0_0, a0_1, a0_2, a0_0, 0, a1)) else (some (a0_0, a0_1, a0_2, wrap64 (a0_3 + (wrap64 (bt147.1))), wrap64 (bt142.2.2.1), a1))) else (some (a0_0, a0_1, a0_2, a0_0, 0, a1))))))))
theorem bucket_fill.mono : ∀ a0 a1 a2 a3 a4 a5 a6 k, LeO (bucket_fill.f k a0 a1 a2 a3 a4 a5 a6) (bucket_fill.f (k + 1) a0 a1 a2 a3 a4 a5 a6) := by
  intro a0 a1 a2 a3 a4 a5 a6 k
  unfold bucket_fill.f
  repeat' first
      | (with_reducible exact wide_Div.mono _ _ _ _)
      | (with_reducible exact LeO.refl _)
      | (with_reducible exact LeO.none _)
      | (with_reducible refine LeO.ite ?_ ?_)
      | (with_reducible refine LeO.bind ?_ (fun _ => ?_))
      | exact wide_Div.mono _ _ _ _
      | exact LeO.none _
      | refine LeO.ite ?_ ?_
      | refine LeO.bind ?_ (fun _ => ?_)
def bucket_fill.T3 : Bool × List (List Nat × List Nat) := (true, [([], []), ([], []), ([1], [1]), ([0, 2], [0, 2]), ([], []), ([4], [4]), ([5], [5]), ([6], [6]), ([3, 7], [3, 7]), ([], []), ([9], [9]), ([10], [10]), ([11, 8], [11]), ([8, 12, 12], [8, 12]), ([13], [13]), ([14], [14]), ([14], [14]), ([], []), ([17, 15, 13, 0, 1, 2, 3, 4, 5, 6, 7, 8, 9, 10, 11, 12, 13, 14, 15, 17], [15, 17]), ([16, 18, 0, 1, 2, 3, 4, 5, 6, 7, 8, 9, 10, 11, 12, 13, 14, 15, 16, 17, 18], [16])])
def bucket_fill.B3 : List Nat := [0, 0, 2, 7, 0, 16, 48, 112, 255, 0, 512, 1536, 4095, 8191, 16383, 32767, 32767, 0, 196607, 524287]
theorem bucket_fill.tab3 : rtab .any (opsOf Try.f34 3) = bucket_fill.T3 := by kernel_rfl
theorem bucket_fill.bits3 : waitsOk bucket_fill.T3.2 bucket_fill.B3 = true := by kernel_rfl
set_option maxHeartbeats 8000000 in
set_option maxRecDepth 100000 in
theorem bucket_fill.calls (k : Nat) (a0_0 : Int) (a0_1 : Int) (a0_2 : Int) (a0_3 : Int) (a0_4 : Int) (a0_5 : Int) (a1 : Int) (r1 : Int) (r2 : Int) (r3 : Int) (r4 : Int) (r5 : Int) (r6 : Int) (w : World) (h : bucket_fill.f k a0_0 a0_1 a0_2 a0_3 a0_4 a0_5 a1 = some (r1, r2, r3, r4, r5, r6)) :
  Calls Try.prog 34 #[.agg #[.int .i64 a0_0, .int .i64 a0_1, .int .i64 a0_2, .int .i64 a0_3, .int .i64 a0_4, .int .u64 a0_5], .int .u64 a1] w fun e w' => e = .returned (.agg #[.int .i64 r1, .int .i64 r2, .int .i64 r3, .int .i64 r4, .int .i64 r5, .int .u64 r6]) ∧ Below w.heap.size w w' := by
 have hu26 := Try.underlying26
 have hu60 := Try.underlying60
 have HB := Aside0.mk (Below.refl w.heap.size w)
 have H : (if a1 ≤ a0_5 then (some (a0_0, a0_1, a0_2, a0_3, a0_4, a0_5)) else ((wide_Mul.f (IntKind.u64.wrap (a1 - a0_5)) (IntKind.u64.wrap (a0_1))).bind fun bt134 => ((wide_Of.f (IntKind.u64.wrap (a0_4))).bind fun bt136 => ((wide_Add.f bt134.1 bt134.2 bt136.1 bt136.2).bind fun bt138 => ((wide_Div.f k bt138.1 bt138.2.1 (IntKind.u64.wrap (a0_2))).bind fun bt142 => ((wide_Small.f bt142.1 bt142.2.1).bind fun bt147 => (if bt147.2 = 0 then (if bt147.1 ≥ (IntKind.u64.wrap (wrap64 (a0_0 - a0_3))) then (some (a0_0, a0_1, a0_2, a0_0, 0, a1)) else (some (a0_0, a0_1, a0_2, wrap64 (a0_3 + (wrap64 (bt147.1))), wrap64 (bt142.2.2.1), a1))) else (some (a0_0, a0_1, a0_2, a0_0, 0, a1))))))))) = some (r1, r2, r3, r4, r5, r6) := h
 clear h
 by_cases c3 : a1 ≤ a0_5
 ·rw [if_pos c3] at H
  have c3b0 : decide (a1 ≤ a0_5) = true := decide_eq_true c3
  clear c3
  simp only [Option.some.injEq, Prod.mk.injEq] at H
  obtain ⟨rfl, rfl, rfl, rfl, rfl, rfl⟩ := H
  go_enter Try.func34, Try.ntmps34
  go_wp2_with (first | ((with_reducible refine gate_dst (N := 2) rfl ?_); (try refine ug_ (by rfl) ?_); refine bx_ #[.int .i64 a0_0, .int .i64 a0_1, .int .i64 a0_2, .int .i64 a0_3, .int .i64 a0_4, .int .u64 a0_5] 26 ?_; intro gb132 hg w4 BK132 hb; have GW132 := bz_ w hg; have GE132 := GW132; replace HB := bs_ w hb; clear hb hg) | ((with_reducible refine gate_dst (N := 4) rfl ?_); (try refine ug_ (by rfl) ?_); refine bx_ #[.int .i64 0, .int .i64 0, .int .i64 0, .int .i64 0, .int .i64 0, .int .u64 0] 26 ?_; intro gb133 hg w5 BK133 hb; have GW133 := bz_ w hg; have GE133 := GW133; have NB132_133 := bn_ BK132 hg; have NB133_132 := bm_ BK132 hg; replace BK132 := bb_ BK132 hb; replace HB := bs_ w hb; clear hb hg; replace hn132_133 := NB132_133.out; replace hn133_132 := NB133_132.out; replace hc132 := ce6_ BK132; replace hc133 := ce6_ BK133))
  refine bodyPost_ret (results_cell_row rfl _ _ gb133 26 #[.int .i64 a0_0, .int .i64 a0_1, .int .i64 a0_2, .int .i64 a0_3, .int .i64 a0_4, .int .u64 a0_5] (0, 0) _ rfl (bp6_ (bq_ BK133)) Try.underlying26 rfl (by kernel_rfl)) rfl ?_
  exact fi_
 ·rw [if_neg c3] at H
  have c3b0 : decide (a1 ≤ a0_5) = false := decide_eq_false c3
  clear c3
  obtain ⟨⟨t134, t135⟩, A9, H⟩ := bo_ H
  try dsimp only at H
  obtain ⟨⟨t136, t137⟩, A10, H⟩ := bo_ H
  try dsimp only at H
  obtain ⟨⟨t138, t139, t140⟩, A11, H⟩ := bo_ H
  try dsimp only at H
  obtain ⟨⟨t142, t143, t144, t145⟩, A12, H⟩ := bo_ H
  try dsimp only at H
  obtain ⟨⟨t147, t148⟩, A13, H⟩ := bo_ H
  try dsimp only at H
  by_cases c14 : t148 = 0
  ·rw [if_pos c14] at H
   have c14b0 : (t148 == 0) = true := beq_iff_eq.mpr c14
   have c14b1 : (t148 != 0) = false := bne_eq_false_iff_eq.mpr c14
   clear c14
   by_cases c15 : t147 ≥ (IntKind.u64.wrap (wrap64 (a0_0 - a0_3)))
   ·rw [if_pos c15] at H
    have c15b0 : decide ((IntKind.u64.wrap (wrap64 (a0_0 - a0_3))) ≤ t147) = true := decide_eq_true c15
    clear c15
    simp only [Option.some.injEq, Prod.mk.injEq] at H
    obtain ⟨rfl, rfl, rfl, rfl, rfl, rfl⟩ := H
    go_enter Try.func34, Try.ntmps34
    try go_wp2_with (first | ((with_reducible refine gate_dst (N := 2) rfl ?_); (try refine ug_ (by rfl) ?_); refine bx_ #[.int .i64 a0_0, .int .i64 a0_1, .int .i64 a0_2, .int .i64 a0_3, .int .i64 a0_4, .int .u64 a0_5] 26 ?_; intro gb132 hg w16 BK132 hb; have GW132 := bz_ w hg; have GE132 := GW132; replace HB := bs_ w hb; clear hb hg) | ((with_reducible refine gate_dst (N := 4) rfl ?_); (try refine ug_ (by rfl) ?_); refine bx_ #[.int .i64 0, .int .i64 0, .int .i64 0, .int .i64 0, .int .i64 0, .int .u64 0] 26 ?_; intro gb133 hg w17 BK133 hb; have GW133 := bz_ w hg; have GE133 := GW133; have NB132_133 := bn_ BK132 hg; have NB133_132 := bm_ BK132 hg; replace BK132 := bb_ BK132 hb; replace HB := bs_ w hb; clear hb hg; replace hn132_133 := NB132_133.out; replace hn133_132 := NB133_132.out; replace hc132 := ce6_ BK132))
    replace BK132 := Aside0.mk (blk_drew BK132.out)
    replace BK133 := Aside0.mk (blk_drew BK133.out)
    replace HB := Aside0.mk (below_drew1 HB.out)
    refine start_ (n := 20) (S := fun w' => w'.cell? ⟨gb132, 0, none⟩ = some (.int .i64 a0_0) ∧ w'.cell? ⟨gb132, 1, none⟩ = some (.int .i64 a0_1) ∧ w'.cell? ⟨gb132, 2, none⟩ = some (.int .i64 a0_2) ∧ w'.cell? ⟨gb132, 3, none⟩ = some (.int .i64 a0_3) ∧ w'.cell? ⟨gb132, 4, none⟩ = some (.int .i64 a0_4) ∧ w'.cell? ⟨gb132, 5, none⟩ = some (.int .u64 a0_5)) (ds := []) (bl_ 20 0) (by kernel_rfl) rfl (by kernel_rfl) (cc6_ BK132) (fun hHeld => ?_); refine with_tabW bucket_fill.tab3 bucket_fill.bits3 (fun HT_ HW_ => ?_)
    generalize w17.drew = w20 at BK132 BK133 HB hHeld ⊢
    refine pa_ 0 (some 18) (bl_ 20 1) HT_ ?_
    refine pa_ 1 (some 19) (bl_ 20 3) HT_ ?_
    refine pa_ 4 (some 22) (bl_ 20 19) HT_ ?_
    refine pa_ 5 (some 23) (bl_ 20 51) HT_ ?_
    refine pa_ 9 (some 27) (bl_ 20 563) HT_ ?_
    refine ta_ 2 (some 20) (bl_ 20 567) HT_ HW_ hHeld ?_
    refine pa_ 3 (some 21) (bl_ 20 575) HT_ ?_
    refine ta_ 6 (some 24) (bl_ 20 639) HT_ HW_ hHeld ?_
    refine pa_ 7 (some 25) (bl_ 20 767) HT_ ?_
    refine ta_ 10 (some 28) (bl_ 20 1791) HT_ HW_ hHeld ?_
    refine pa_ 11 (some 29) (bl_ 20 3839) HT_ ?_
    refine join_ (σ := Nat) 2 (bl_ 20 262143) (fun s_ => [(26, .agg #[.int .u64 t134, .int .u64 t135]), (30, .agg #[.int .u64 t136, .int .u64 t137]), (31, .tuple #[.agg #[.int .u64 t138, .int .u64 t139], .int .i64 t140]), (5, .pointer (some ⟨s_, 0, none⟩)), (17, .tuple #[.agg #[.int .u64 t138, .int .u64 t139], .int .i64 t140]), (32, .agg #[.int .u64 t138, .int .u64 t139]), (33, .int .i64 t140)]) (fun s_ w' => (w'.cell? ⟨gb132, 0, none⟩ = some (.int .i64 a0_0) ∧ w'.cell? ⟨gb132, 1, none⟩ = some (.int .i64 a0_1) ∧ w'.cell? ⟨gb132, 2, none⟩ = some (.int .i64 a0_2) ∧ w'.cell? ⟨gb132, 3, none⟩ = some (.int .i64 a0_3) ∧ w'.cell? ⟨gb132, 4, none⟩ = some (.int .i64 a0_4) ∧ w'.cell? ⟨gb132, 5, none⟩ = some (.int .u64 a0_5)) ∧ (w'.heap[gb132]? = some (.cells #[.int .i64 a0_0, .int .i64 a0_1, .int .i64 a0_2, .int .i64 a0_3, .int .i64 a0_4, .int .u64 a0_5] 26 (0, 0))) ∧ (w'.heap[gb133]? = some (.cells #[.int .i64 0, .int .i64 0, .int .i64 0, .int .i64 0, .int .i64 0, .int .u64 0] 26 (0, 0))) ∧ (w'.heap[s_]? = some (.cells #[.int .u64 0, .int .u64 0] 60 (0, 0))) ∧ (w.heap.size ≤ s_) ∧ (w.heap.size ≤ s_) ∧ (gb132 ≠ s_) ∧ (s_ ≠ gb132) ∧ (gb133 ≠ s_) ∧ (s_ ≠ gb133) ∧ (Below w.heap.size w w')) ?_ ?_
    rotate_left
    ·intro hCont
     refine tw_ 8 17 (some 26) (some 5) (bl_ 20 4095) (bl_ 20 134911) HT_ (fun K hK => ?_) fun K hK => ?_
     ·refine goesB_ Try.func30 #[.int .u64 (IntKind.u64.wrap (a1 - a0_5)), .int .u64 (IntKind.u64.wrap (a0_1))] ?_
      with_reducible refine (wide_Mul.calls (IntKind.u64.wrap (a1 - a0_5)) (IntKind.u64.wrap (a0_1)) t134 t135 _ A9.out).mono ?_
      rintro e w21 ⟨rfl, hb⟩
      refine ⟨_, rfl, ?_⟩
      replace BK132 := bb_ BK132 hb
      replace BK133 := bb_ BK133 hb
      replace HB := bs_ w hb
      clear hb
      refine hK.out _ _ (cc6_ BK132) (fun hHeld => ?_)
      clear hK K
      refine nm_ (some 26) ?_
      refine tw_ 12 17 (some 30) (some 5) (bl_ 20 8191) (bl_ 20 135167) HT_ (fun K hK => ?_) fun K hK => ?_
      ·refine goesB_ Try.func31 #[.int .u64 (IntKind.u64.wrap (a0_4))] ?_
       with_reducible refine (wide_Of.calls (IntKind.u64.wrap (a0_4)) t136 t137 _ A10.out).mono ?_
       rintro e w22 ⟨rfl, hb⟩
       refine ⟨_, rfl, ?_⟩
       replace BK132 := bb_ BK132 hb
       replace BK133 := bb_ BK133 hb
       replace HB := bs_ w hb
       clear hb
       refine hK.out _ _ (cc6_ BK132) (fun hHeld => ?_)
       clear hK K
       refine nm_ (some 30) ?_
       refine tw_ 13 17 (some 31) (some 5) (bl_ 20 16383) (bl_ 20 139263) HT_ (fun K hK => ?_) fun K hK => ?_
       ·refine goesB_ Try.func29 #[.agg #[.int .u64 t134, .int .u64 t135], .agg #[.int .u64 t136, .int .u64 t137]] ?_
        with_reducible refine (wide_Add.calls t134 t135 t136 t137 t138 t139 t140 _ A11.out).mono ?_
        rintro e w23 ⟨rfl, hb⟩
        refine ⟨_, rfl, ?_⟩
        replace BK132 := bb_ BK132 hb
        replace BK133 := bb_ BK133 hb
        replace HB := bs_ w hb
        clear hb
        refine hK.out _ _ (cc6_ BK132) (fun hHeld => ?_)
        clear hK K
        refine nm_ (some 31) ?_
        refine pa_ 14 (some 17) (bl_ 20 32767) HT_ ?_
        refine pa_ 15 (some 32) (bl_ 20 65535) HT_ ?_
        refine pa_ 16 (some 33) (bl_ 20 131071) HT_ ?_
        refine oa_ 17 (some 5) (bl_ 20 262143) HT_ fun K hK => ?_
        refine bs2_ #[.int .u64 0, .int .u64 0] 60 ?_
        intro gb141 hg w24 BK141 hb
        have GW141 := bz_ w hg
        have GE141 := GW141
        have NB132_141 := bn_ BK132 hg
        have NB141_132 := bm_ BK132 hg
        have NB133_141 := bn_ BK133 hg
        have NB141_133 := bm_ BK133 hg
        replace BK132 := bb_ BK132 hb
        replace BK133 := bb_ BK133 hb
        replace HB := bs_ w hb
        clear hb hg
        refine hK.out _ _ (cc6_ BK132) (fun hHeld => ?_)
        clear hK K
        refine nm_ (some 5) ?_
        exact no_ (hCont (gb141) _ ⟨hHeld, (bq_ BK132), (bq_ BK133), (bq_ BK141), GW141.out, GE141.out, NB132_141.out, NB141_132.out, NB133_141.out, NB141_133.out, bh_⟩)
       ·refine bs2_ #[.int .u64 0, .int .u64 0] 60 ?_
        intro gb141 hg w23 BK141 hb
        have GW141 := bz_ w hg
        have GE141 := GW141
        have NB132_141 := bn_ BK132 hg
        have NB141_132 := bm_ BK132 hg
        have NB133_141 := bn_ BK133 hg
        have NB141_133 := bm_ BK133 hg
        replace BK132 := bb_ BK132 hb
        replace BK133 := bb_ BK133 hb
        replace HB := bs_ w hb
        clear hb hg
        refine hK.out _ _ (cc6_ BK132) (fun hHeld => ?_)
        clear hK K
        refine nm_ (some 5) ?_
        refine oa_ 13 (some 31) (bl_ 20 147455) HT_ fun K hK => ?_
        refine goesB_ Try.func29 #[.agg #[.int .u64 t134, .int .u64 t135], .agg #[.int .u64 t136, .int .u64 t137]] ?_
        with_reducible refine (wide_Add.calls t134 t135 t136 t137 t138 t139 t140 _ A11.out).mono ?_
        rintro e w24 ⟨rfl, hb⟩
        refine ⟨_, rfl, ?_⟩
        replace BK132 := bb_ BK132 hb
        replace BK133 := bb_ BK133 hb
        replace BK141 := bb_ BK141 hb
        replace HB := bs_ w hb
        clear hb
        refine hK.out _ _ (cc6_ BK132) (fun hHeld => ?_)
        clear hK K
        refine nm_ (some 31) ?_
        refine pa_ 14 (some 17) (bl_ 20 163839) HT_ ?_
        refine pa_ 15 (some 32) (bl_ 20 196607) HT_ ?_
        refine pa_ 16 (some 33) (bl_ 20 262143) HT_ ?_
        exact no_ (hCont (gb141) _ ⟨hHeld, (bq_ BK132), (bq_ BK133), (bq_ BK141), GW141.out, GE141.out, NB132_141.out, NB141_132.out, NB133_141.out, NB141_133.out, bh_⟩)
      ·refine bs2_ #[.int .u64 0, .int .u64 0] 60 ?_
       intro gb141 hg w22 BK141 hb
       have GW141 := bz_ w hg
       have GE141 := GW141
       have NB132_141 := bn_ BK132 hg
       have NB141_132 := bm_ BK132 hg
       have NB133_141 := bn_ BK133 hg
       have NB141_133 := bm_ BK133 hg
       replace BK132 := bb_ BK132 hb
       replace BK133 := bb_ BK133 hb
       replace HB := bs_ w hb
       clear hb hg
       refine hK.out _ _ (cc6_ BK132) (fun hHeld => ?_)
       clear hK K
       refine nm_ (some 5) ?_
       refine oa_ 12 (some 30) (bl_ 20 139263) HT_ fun K hK => ?_
       refine goesB_ Try.func31 #[.int .u64 (IntKind.u64.wrap (a0_4))] ?_
       with_reducible refine (wide_Of.calls (IntKind.u64.wrap (a0_4)) t136 t137 _ A10.out).mono ?_
       rintro e w23 ⟨rfl, hb⟩
       refine ⟨_, rfl, ?_⟩
       replace BK132 := bb_ BK132 hb
       replace BK133 := bb_ BK133 hb
       replace BK141 := bb_ BK141 hb
       replace HB := bs_ w hb
       clear hb
       refine hK.out _ _ (cc6_ BK132) (fun hHeld => ?_)
       clear hK K
       refine nm_ (some 30) ?_
       refine oa_ 13 (some 31) (bl_ 20 147455) HT_ fun K hK => ?_
       refine goesB_ Try.func29 #[.agg #[.int .u64 t134, .int .u64 t135], .agg #[.int .u64 t136, .int .u64 t137]] ?_
       with_reducible refine (wide_Add.calls t134 t135 t136 t137 t138 t139 t140 _ A11.out).mono ?_
       rintro e w24 ⟨rfl, hb⟩
       refine ⟨_, rfl, ?_⟩
       replace BK132 := bb_ BK132 hb
       replace BK133 := bb_ BK133 hb
       replace BK141 := bb_ BK141 hb
       replace HB := bs_ w hb
       clear hb
       refine hK.out _ _ (cc6_ BK132) (fun hHeld => ?_)
       clear hK K
       refine nm_ (some 31) ?_
       refine pa_ 14 (some 17) (bl_ 20 163839) HT_ ?_
       refine pa_ 15 (some 32) (bl_ 20 196607) HT_ ?_
       refine pa_ 16 (some 33) (bl_ 20 262143) HT_ ?_
       exact no_ (hCont (gb141) _ ⟨hHeld, (bq_ BK132), (bq_ BK133), (bq_ BK141), GW141.out, GE141.out, NB132_141.out, NB141_132.out, NB133_141.out, NB141_133.out, bh_⟩)
     ·refine bs2_ #[.int .u64 0, .int .u64 0] 60 ?_
      intro gb141 hg w21 BK141 hb
      have GW141 := bz_ w hg
      have GE141 := GW141
      have NB132_141 := bn_ BK132 hg
      have NB141_132 := bm_ BK132 hg
      have NB133_141 := bn_ BK133 hg
      have NB141_133 := bm_ BK133 hg
      replace BK132 := bb_ BK132 hb
      replace BK133 := bb_ BK133 hb
      replace HB := bs_ w hb
      clear hb hg
      refine hK.out _ _ (cc6_ BK132) (fun hHeld => ?_)
      clear hK K
      refine nm_ (some 5) ?_
      refine oa_ 8 (some 26) (bl_ 20 135167) HT_ fun K hK => ?_
      refine goesB_ Try.func30 #[.int .u64 (IntKind.u64.wrap (a1 - a0_5)), .int .u64 (IntKind.u64.wrap (a0_1))] ?_
      with_reducible refine (wide_Mul.calls (IntKind.u64.wrap (a1 - a0_5)) (IntKind.u64.wrap (a0_1)) t134 t135 _ A9.out).mono ?_
      rintro e w22 ⟨rfl, hb⟩
      refine ⟨_, rfl, ?_⟩
      replace BK132 := bb_ BK132 hb
      replace BK133 := bb_ BK133 hb
      replace BK141 := bb_ BK141 hb
      replace HB := bs_ w hb
      clear hb
      refine hK.out _ _ (cc6_ BK132) (fun hHeld => ?_)
      clear hK K
      refine nm_ (some 26) ?_
      refine oa_ 12 (some 30) (bl_ 20 139263) HT_ fun K hK => ?_
      refine goesB_ Try.func31 #[.int .u64 (IntKind.u64.wrap (a0_4))] ?_
      with_reducible refine (wide_Of.calls (IntKind.u64.wrap (a0_4)) t136 t137 _ A10.out).mono ?_
      rintro e w23 ⟨rfl, hb⟩
      refine ⟨_, rfl, ?_⟩
      replace BK132 := bb_ BK132 hb
      replace BK133 := bb_ BK133 hb
      replace BK141 := bb_ BK141 hb
      replace HB := bs_ w hb
      clear hb
      refine hK.out _ _ (cc6_ BK132) (fun hHeld => ?_)
      clear hK K
      refine nm_ (some 30) ?_
      refine oa_ 13 (some 31) (bl_ 20 147455) HT_ fun K hK => ?_
      refine goesB_ Try.func29 #[.agg #[.int .u64 t134, .int .u64 t135], .agg #[.int .u64 t136, .int .u64 t137]] ?_
      with_reducible refine (wide_Add.calls t134 t135 t136 t137 t138 t139 t140 _ A11.out).mono ?_
      rintro e w24 ⟨rfl, hb⟩
      refine ⟨_, rfl, ?_⟩
      replace BK132 := bb_ BK132 hb
      replace BK133 := bb_ BK133 hb
      replace BK141 := bb_ BK141 hb
      replace HB := bs_ w hb
      clear hb
      refine hK.out _ _ (cc6_ BK132) (fun hHeld => ?_)
      clear hK K
      refine nm_ (some 31) ?_
      refine pa_ 14 (some 17) (bl_ 20 163839) HT_ ?_
      refine pa_ 15 (some 32) (bl_ 20 196607) HT_ ?_
      refine pa_ 16 (some 33) (bl_ 20 262143) HT_ ?_
      exact no_ (hCont (gb141) _ ⟨hHeld, (bq_ BK132), (bq_ BK133), (bq_ BK141), GW141.out, GE141.out, NB132_141.out, NB141_132.out, NB133_141.out, NB141_133.out, bh_⟩)
    rintro gb141 w25 ⟨hS_, h0_, h1_, h2_, h3_, h4_, h5_, h6_, h7_, h8_, h9_⟩
    have BK141 := Aside0.mk h2_
    have GW141 := Aside0.mk h3_
    have GE141 := Aside0.mk h4_
    have NB132_141 := Aside0.mk h5_
    have NB141_132 := Aside0.mk h6_
    have NB133_141 := Aside0.mk h7_
    have NB141_133 := Aside0.mk h8_
    replace BK132 := Aside0.mk h0_
    replace BK133 := Aside0.mk h1_
    replace HB := Aside0.mk h9_
    clear h0_ h1_ h2_ h3_ h4_ h5_ h6_ h7_ h8_ h9_
    have hHeld := hS_
    refine nq_ ?_
    refine oa_ 18 none (bl_ 20 524287) HT_ fun K hK => ?_
    have hs26 : w25.cell? ⟨gb141, 0, none⟩ = some (.int .u64 0) := (blk_cell BK141.out 0).trans rfl
    have hfs26 := blk_frozen BK141.out 0
    have hns26_0 := NB132_141.out
    have hns26_1 := NB133_141.out
    have hms26_0 := NB141_132.out
    have hms26_1 := NB141_133.out
    have hs27 : w25.cell? ⟨gb141, 1, none⟩ = some (.int .u64 0) := (blk_cell BK141.out 1).trans rfl
    have hfs27 := blk_frozen BK141.out 1
    have hns27_0 := NB132_141.out
    have hns27_1 := NB133_141.out
    have hms27_0 := NB141_132.out
    have hms27_1 := NB141_133.out
    refine sk_ ?_
    refine hK.out _ _ (cf6_ hHeld) (fun hHeld => ?_)
    clear hK K
    refine pa_ 19 (some 6) (bl_ 20 1048575) HT_ ?_
    refine done_ (done_of HT_.out (by kernel_rfl)) ?_
    replace hn141_132 := NB141_132.out
    replace hn132_141 := NB132_141.out
    replace hn141_133 := NB141_133.out
    replace hn133_141 := NB133_141.out
    replace hc141 := ce2_ BK141
    replace hc132 := ce6_ BK132
    try go_wp2_with (first | ((with_reducible refine gate_callee (f := 33) rfl ?_); (try refine ug_ (by rfl) ?_); refine goesA_ (some 40) Try.func33 #[.agg #[.int .u64 t138, .int .u64 t139], .int .u64 (IntKind.u64.wrap (a0_2))] ?_; (with_reducible refine (wide_Div.calls k t138 t139 (IntKind.u64.wrap (a0_2)) t142 t143 t144 t145 _ A12.out).mono ?_); rintro e w32 ⟨rfl, hb⟩; refine ⟨_, rfl, ?_⟩; replace BK132 := bf_ BK132 hb; replace BK133 := bf_ BK133 hb; replace BK141 := Aside0.mk (blk_below (g := gb141) (o := .cells #[.int .u64 t138, .int .u64 t139] 60 (0, 0)) (bp2_ (bq_ BK141)) hb); replace HB := bs_ w hb; clear hb) | ((with_reducible refine gate_dst (N := 7) rfl ?_); (try refine ug_ (by rfl) ?_); refine bx_ #[.int .u64 0, .int .u64 0] 60 ?_; intro gb146 hg w33 BK146 hb; have GW146 := bz_ w hg; have GE146 := GW146; have NB132_146 := bn_ BK132 hg; have NB146_132 := bm_ BK132 hg; have NB133_146 := bn_ BK133 hg; have NB146_133 := bm_ BK133 hg; have NB141_146 := bn_ BK141 hg; have NB146_141 := bm_ BK141 hg; replace BK132 := bb_ BK132 hb; replace BK133 := bb_ BK133 hb; replace BK141 := bb_ BK141 hb; replace HB := bs_ w hb; clear hb hg; replace hn146_132 := NB146_132.out; replace hn132_146 := NB132_146.out; replace hn146_133 := NB146_133.out; replace hn133_146 := NB133_146.out; replace hn146_141 := NB146_141.out; replace hn141_146 := NB141_146.out; replace hc146 := ce2_ BK146; replace hc132 := ce6_ BK132) | ((with_reducible refine gate_callee (f := 38) rfl ?_); (try refine ug_ (by rfl) ?_); refine goesA_ (some 48) Try.func38 #[.agg #[.int .u64 t142, .int .u64 t143]] ?_; (with_reducible refine (wide_Small.calls t142 t143 t147 t148 _ A13.out).mono ?_); rintro e w39 ⟨rfl, hb⟩; refine ⟨_, rfl, ?_⟩; replace BK132 := Aside0.mk (blk_below (g := gb132) (o := .cells #[.int .i64 a0_0, .int .i64 a0_1, .int .i64 a0_2, .int .i64 a0_3, .int .i64 a0_4, .int .u64 a1] 26 (0, 0)) (blk_put (cs := #[.int .i64 a0_0, .int .i64 a0_1, .int .i64 a0_2, .int .i64 a0_3, .int .i64 a0_4, .int .u64 a0_5]) (bt_ BK132) 5 _ rfl) hb); replace BK133 := bf_ BK133 hb; replace BK141 := bf_ BK141 hb; replace BK146 := Aside0.mk (blk_below (g := gb146) (o := .cells #[.int .u64 t142, .int .u64 t143] 60 (0, 0)) (blk_far (bp2_ (bq_ BK146)) NB146_132.out _) hb); replace HB := bs_ w hb; clear hb; replace hc132 := ce6_ BK132; replace hc133 := ce6_ BK133))
    refine bodyPost_ret (results_cell_row rfl _ _ gb133 26 #[.int .i64 a0_0, .int .i64 a0_1, .int .i64 a0_2, .int .i64 a0_0, .int .i64 0, .int .u64 a1] (0, 0) _ rfl (blk_put (cs := #[.int .i64 a0_0, .int .i64 a0_1, .int .i64 a0_2, .int .i64 a0_0, .int .i64 0, .int .u64 0]) (blk_put (cs := #[.int .i64 a0_0, .int .i64 a0_1, .int .i64 a0_2, .int .i64 a0_0, .int .i64 0, .int .u64 0]) (blk_put (cs := #[.int .i64 a0_0, .int .i64 a0_1, .int .i64 a0_2, .int .i64 0, .int .i64 0, .int .u64 0]) (blk_put (cs := #[.int .i64 a0_0, .int .i64 a0_1, .int .i64 0, .int .i64 0, .int .i64 0, .int .u64 0]) (blk_put (cs := #[.int .i64 a0_0, .int .i64 0, .int .i64 0, .int .i64 0, .int .i64 0, .int .u64 0]) (blk_put (cs := #[.int .i64 0, .int .i64 0, .int .i64 0, .int .i64 0, .int .i64 0, .int .u64 0]) (bt_ BK133) 0 _ rfl) 1 _ rfl) 2 _ rfl) 3 _ rfl) 4 _ rfl) 5 _ rfl) Try.underlying26 rfl (by kernel_rfl)) rfl ?_
    exact fi_
   ·rw [if_neg c15] at H
    have c15b0 : decide ((IntKind.u64.wrap (wrap64 (a0_0 - a0_3))) ≤ t147) = false := decide_eq_false c15
    clear c15
    simp only [Option.some.injEq, Prod.mk.injEq] at H
    obtain ⟨rfl, rfl, rfl, rfl, rfl, rfl⟩ := H
    go_enter Try.func34, Try.ntmps34
    try go_wp2_with (first | ((with_reducible refine gate_dst (N := 2) rfl ?_); (try refine ug_ (by rfl) ?_); refine bx_ #[.int .i64 a0_0, .int .i64 a0_1, .int .i64 a0_2, .int .i64 a0_3, .int .i64 a0_4, .int .u64 a0_5] 26 ?_; intro gb132 hg w42 BK132 hb; have GW132 := bz_ w hg; have GE132 := GW132; replace HB := bs_ w hb; clear hb hg) | ((with_reducible refine gate_dst (N := 4) rfl ?_); (try refine ug_ (by rfl) ?_); refine bx_ #[.int .i64 0, .int .i64 0, .int .i64 0, .int .i64 0, .int .i64 0, .int .u64 0] 26 ?_; intro gb133 hg w43 BK133 hb; have GW133 := bz_ w hg; have GE133 := GW133; have NB132_133 := bn_ BK132 hg; have NB133_132 := bm_ BK132 hg; replace BK132 := bb_ BK132 hb; replace HB := bs_ w hb; clear hb hg; replace hn132_133 := NB132_133.out; replace hn133_132 := NB133_132.out; replace hc132 := ce6_ BK132))
    replace BK132 := Aside0.mk (blk_drew BK132.out)
    replace BK133 := Aside0.mk (blk_drew BK133.out)
    replace HB := Aside0.mk (below_drew1 HB.out)
    refine start_ (n := 20) (S := fun w' => w'.cell? ⟨gb132, 0, none⟩ = some (.int .i64 a0_0) ∧ w'.cell? ⟨gb132, 1, none⟩ = some (.int .i64 a0_1) ∧ w'.cell? ⟨gb132, 2, none⟩ = some (.int .i64 a0_2) ∧ w'.cell? ⟨gb132, 3, none⟩ = some (.int .i64 a0_3) ∧ w'.cell? ⟨gb132, 4, none⟩ = some (.int .i64 a0_4) ∧ w'.cell? ⟨gb132, 5, none⟩ = some (.int .u64 a0_5)) (ds := []) (bl_ 20 0) (by kernel_rfl) rfl (by kernel_rfl) (cc6_ BK132) (fun hHeld => ?_); refine with_tabW bucket_fill.tab3 bucket_fill.bits3 (fun HT_ HW_ => ?_)
    generalize w43.drew = w46 at BK132 BK133 HB hHeld ⊢
    refine pa_ 0 (some 18) (bl_ 20 1) HT_ ?_
    refine pa_ 1 (some 19) (bl_ 20 3) HT_ ?_
    refine pa_ 4 (some 22) (bl_ 20 19) HT_ ?_
    refine pa_ 5 (some 23) (bl_ 20 51) HT_ ?_
    refine pa_ 9 (some 27) (bl_ 20 563) HT_ ?_
    refine ta_ 2 (some 20) (bl_ 20 567) HT_ HW_ hHeld ?_
    refine pa_ 3 (some 21) (bl_ 20 575) HT_ ?_
    refine ta_ 6 (some 24) (bl_ 20 639) HT_ HW_ hHeld ?_
    refine pa_ 7 (some 25) (bl_ 20 767) HT_ ?_
    refine ta_ 10 (some 28) (bl_ 20 1791) HT_ HW_ hHeld ?_
    refine pa_ 11 (some 29) (bl_ 20 3839) HT_ ?_
    refine join_ (σ := Nat) 2 (bl_ 20 262143) (fun s_ => [(26, .agg #[.int .u64 t134, .int .u64 t135]), (30, .agg #[.int .u64 t136, .int .u64 t137]), (31, .tuple #[.agg #[.int .u64 t138, .int .u64 t139], .int .i64 t140]), (5, .pointer (some ⟨s_, 0, none⟩)), (17, .tuple #[.agg #[.int .u64 t138, .int .u64 t139], .int .i64 t140]), (32, .agg #[.int .u64 t138, .int .u64 t139]), (33, .int .i64 t140)]) (fun s_ w' => (w'.cell? ⟨gb132, 0, none⟩ = some (.int .i64 a0_0) ∧ w'.cell? ⟨gb132, 1, none⟩ = some (.int .i64 a0_1) ∧ w'.cell? ⟨gb132, 2, none⟩ = some (.int .i64 a0_2) ∧ w'.cell? ⟨gb132, 3, none⟩ = some (.int .i64 a0_3) ∧ w'.cell? ⟨gb132, 4, none⟩ = some (.int .i64 a0_4) ∧ w'.cell? ⟨gb132, 5, none⟩ = some (.int .u64 a0_5)) ∧ (w'.heap[gb132]? = some (.cells #[.int .i64 a0_0, .int .i64 a0_1, .int .i64 a0_2, .int .i64 a0_3, .int .i64 a0_4, .int .u64 a0_5] 26 (0, 0))) ∧ (w'.heap[gb133]? = some (.cells #[.int .i64 0, .int .i64 0, .int .i64 0, .int .i64 0, .int .i64 0, .int .u64 0] 26 (0, 0))) ∧ (w'.heap[s_]? = some (.cells #[.int .u64 0, .int .u64 0] 60 (0, 0))) ∧ (w.heap.size ≤ s_) ∧ (w.heap.size ≤ s_) ∧ (gb132 ≠ s_) ∧ (s_ ≠ gb132) ∧ (gb133 ≠ s_) ∧ (s_ ≠ gb133) ∧ (Below w.heap.size w w')) ?_ ?_
    rotate_left
    ·intro hCont
     refine tw_ 8 17 (some 26) (some 5) (bl_ 20 4095) (bl_ 20 134911) HT_ (fun K hK => ?_) fun K hK => ?_
     ·refine goesB_ Try.func30 #[.int .u64 (IntKind.u64.wrap (a1 - a0_5)), .int .u64 (IntKind.u64.wrap (a0_1))] ?_
      with_reducible refine (wide_Mul.calls (IntKind.u64.wrap (a1 - a0_5)) (IntKind.u64.wrap (a0_1)) t134 t135 _ A9.out).mono ?_
      rintro e w47 ⟨rfl, hb⟩
      refine ⟨_, rfl, ?_⟩
      replace BK132 := bb_ BK132 hb
      replace BK133 := bb_ BK133 hb
      replace HB := bs_ w hb
      clear hb
      refine hK.out _ _ (cc6_ BK132) (fun hHeld => ?_)
      clear hK K
      refine nm_ (some 26) ?_
      refine tw_ 12 17 (some 30) (some 5) (bl_ 20 8191) (bl_ 20 135167) HT_ (fun K hK => ?_) fun K hK => ?_
      ·refine goesB_ Try.func31 #[.int .u64 (IntKind.u64.wrap (a0_4))] ?_
       with_reducible refine (wide_Of.calls (IntKind.u64.wrap (a0_4)) t136 t137 _ A10.out).mono ?_
       rintro e w48 ⟨rfl, hb⟩
       refine ⟨_, rfl, ?_⟩
       replace BK132 := bb_ BK132 hb
       replace BK133 := bb_ BK133 hb
       replace HB := bs_ w hb
       clear hb
       refine hK.out _ _ (cc6_ BK132) (fun hHeld => ?_)
       clear hK K
       refine nm_ (some 30) ?_
       refine tw_ 13 17 (some 31) (some 5) (bl_ 20 16383) (bl_ 20 139263) HT_ (fun K hK => ?_) fun K hK => ?_
       ·refine goesB_ Try.func29 #[.agg #[.int .u64 t134, .int .u64 t135], .agg #[.int .u64 t136, .int .u64 t137]] ?_
        with_reducible refine (wide_Add.calls t134 t135 t136 t137 t138 t139 t140 _ A11.out).mono ?_
        rintro e w49 ⟨rfl, hb⟩
        refine ⟨_, rfl, ?_⟩
        replace BK132 := bb_ BK132 hb
        replace BK133 := bb_ BK133 hb
        replace HB := bs_ w hb
        clear hb
        refine hK.out _ _ (cc6_ BK132) (fun hHeld => ?_)
        clear hK K
        refine nm_ (some 31) ?_
        refine pa_ 14 (some 17) (bl_ 20 32767) HT_ ?_
        refine pa_ 15 (some 32) (bl_ 20 65535) HT_ ?_
        refine pa_ 16 (some 33) (bl_ 20 131071) HT_ ?_
        refine oa_ 17 (some 5) (bl_ 20 262143) HT_ fun K hK => ?_
        refine bs2_ #[.int .u64 0, .int .u64 0] 60 ?_
        intro gb141 hg w50 BK141 hb
        have GW141 := bz_ w hg
        have GE141 := GW141
        have NB132_141 := bn_ BK132 hg
        have NB141_132 := bm_ BK132 hg
        have NB133_141 := bn_ BK133 hg
        have NB141_133 := bm_ BK133 hg
        replace BK132 := bb_ BK132 hb
        replace BK133 := bb_ BK133 hb
        replace HB := bs_ w hb
        clear hb hg
        refine hK.out _ _ (cc6_ BK132) (fun hHeld => ?_)
        clear hK K
        refine nm_ (some 5) ?_
        exact no_ (hCont (gb141) _ ⟨hHeld, (bq_ BK132), (bq_ BK133), (bq_ BK141), GW141.out, GE141.out, NB132_141.out, NB141_132.out, NB133_141.out, NB141_133.out, bh_⟩)
       ·refine bs2_ #[.int .u64 0, .int .u64 0] 60 ?_
        intro gb141 hg w49 BK141 hb
        have GW141 := bz_ w hg
        have GE141 := GW141
        have NB132_141 := bn_ BK132 hg
        have NB141_132 := bm_ BK132 hg
        have NB133_141 := bn_ BK133 hg
        have NB141_133 := bm_ BK133 hg
        replace BK132 := bb_ BK132 hb
        replace BK133 := bb_ BK133 hb
        replace HB := bs_ w hb
        clear hb hg
        refine hK.out _ _ (cc6_ BK132) (fun hHeld => ?_)
        clear hK K
        refine nm_ (some 5) ?_
        refine oa_ 13 (some 31) (bl_ 20 147455) HT_ fun K hK => ?_
        refine goesB_ Try.func29 #[.agg #[.int .u64 t134, .int .u64 t135], .agg #[.int .u64 t136, .int .u64 t137]] ?_
        with_reducible refine (wide_Add.calls t134 t135 t136 t137 t138 t139 t140 _ A11.out).mono ?_
        rintro e w50 ⟨rfl, hb⟩
        refine ⟨_, rfl, ?_⟩
        replace BK132 := bb_ BK132 hb
        replace BK133 := bb_ BK133 hb
        replace BK141 := bb_ BK141 hb
        replace HB := bs_ w hb
        clear hb
        refine hK.out _ _ (cc6_ BK132) (fun hHeld => ?_)
        clear hK K
        refine nm_ (some 31) ?_
        refine pa_ 14 (some 17) (bl_ 20 163839) HT_ ?_
        refine pa_ 15 (some 32) (bl_ 20 196607) HT_ ?_
        refine pa_ 16 (some 33) (bl_ 20 262143) HT_ ?_
        exact no_ (hCont (gb141) _ ⟨hHeld, (bq_ BK132), (bq_ BK133), (bq_ BK141), GW141.out, GE141.out, NB132_141.out, NB141_132.out, NB133_141.out, NB141_133.out, bh_⟩)
      ·refine bs2_ #[.int .u64 0, .int .u64 0] 60 ?_
       intro gb141 hg w48 BK141 hb
       have GW141 := bz_ w hg
       have GE141 := GW141
       have NB132_141 := bn_ BK132 hg
       have NB141_132 := bm_ BK132 hg
       have NB133_141 := bn_ BK133 hg
       have NB141_133 := bm_ BK133 hg
       replace BK132 := bb_ BK132 hb
       replace BK133 := bb_ BK133 hb
       replace HB := bs_ w hb
       clear hb hg
       refine hK.out _ _ (cc6_ BK132) (fun hHeld => ?_)
       clear hK K
       refine nm_ (some 5) ?_
       refine oa_ 12 (some 30) (bl_ 20 139263) HT_ fun K hK => ?_
       refine goesB_ Try.func31 #[.int .u64 (IntKind.u64.wrap (a0_4))] ?_
       with_reducible refine (wide_Of.calls (IntKind.u64.wrap (a0_4)) t136 t137 _ A10.out).mono ?_
       rintro e w49 ⟨rfl, hb⟩
       refine ⟨_, rfl, ?_⟩
       replace BK132 := bb_ BK132 hb
       replace BK133 := bb_ BK133 hb
       replace BK141 := bb_ BK141 hb
       replace HB := bs_ w hb
       clear hb
       refine hK.out _ _ (cc6_ BK132) (fun hHeld => ?_)
       clear hK K
       refine nm_ (some 30) ?_
       refine oa_ 13 (some 31) (bl_ 20 147455) HT_ fun K hK => ?_
       refine goesB_ Try.func29 #[.agg #[.int .u64 t134, .int .u64 t135], .agg #[.int .u64 t136, .int .u64 t137]] ?_
       with_reducible refine (wide_Add.calls t134 t135 t136 t137 t138 t139 t140 _ A11.out).mono ?_
       rintro e w50 ⟨rfl, hb⟩
       refine ⟨_, rfl, ?_⟩
       replace BK132 := bb_ BK132 hb
       replace BK133 := bb_ BK133 hb
       replace BK141 := bb_ BK141 hb
       replace HB := bs_ w hb
       clear hb
       refine hK.out _ _ (cc6_ BK132) (fun hHeld => ?_)
       clear hK K
       refine nm_ (some 31) ?_
       refine pa_ 14 (some 17) (bl_ 20 163839) HT_ ?_
       refine pa_ 15 (some 32) (bl_ 20 196607) HT_ ?_
       refine pa_ 16 (some 33) (bl_ 20 262143) HT_ ?_
       exact no_ (hCont (gb141) _ ⟨hHeld, (bq_ BK132), (bq_ BK133), (bq_ BK141), GW141.out, GE141.out, NB132_141.out, NB141_132.out, NB133_141.out, NB141_133.out, bh_⟩)
     ·refine bs2_ #[.int .u64 0, .int .u64 0] 60 ?_
      intro gb141 hg w47 BK141 hb
      have GW141 := bz_ w hg
      have GE141 := GW141
      have NB132_141 := bn_ BK132 hg
      have NB141_132 := bm_ BK132 hg
      have NB133_141 := bn_ BK133 hg
      have NB141_133 := bm_ BK133 hg
      replace BK132 := bb_ BK132 hb
      replace BK133 := bb_ BK133 hb
      replace HB := bs_ w hb
      clear hb hg
      refine hK.out _ _ (cc6_ BK132) (fun hHeld => ?_)
      clear hK K
      refine nm_ (some 5) ?_
      refine oa_ 8 (some 26) (bl_ 20 135167) HT_ fun K hK => ?_
      refine goesB_ Try.func30 #[.int .u64 (IntKind.u64.wrap (a1 - a0_5)), .int .u64 (IntKind.u64.wrap (a0_1))] ?_
      with_reducible refine (wide_Mul.calls (IntKind.u64.wrap (a1 - a0_5)) (IntKind.u64.wrap (a0_1)) t134 t135 _ A9.out).mono ?_
      rintro e w48 ⟨rfl, hb⟩
      refine ⟨_, rfl, ?_⟩
      replace BK132 := bb_ BK132 hb
      replace BK133 := bb_ BK133 hb
      replace BK141 := bb_ BK141 hb
      replace HB := bs_ w hb
      clear hb
      refine hK.out _ _ (cc6_ BK132) (fun hHeld => ?_)
      clear hK K
      refine nm_ (some 26) ?_
      refine oa_ 12 (some 30) (bl_ 20 139263) HT_ fun K hK => ?_
      refine goesB_ Try.func31 #[.int .u64 (IntKind.u64.wrap (a0_4))] ?_
      with_reducible refine (wide_Of.calls (IntKind.u64.wrap (a0_4)) t136 t137 _ A10.out).mono ?_
      rintro e w49 ⟨rfl, hb⟩
      refine ⟨_, rfl, ?_⟩
      replace BK132 := bb_ BK132 hb
      replace BK133 := bb_ BK133 hb
      replace BK141 := bb_ BK141 hb
      replace HB := bs_ w hb
      clear hb
      refine hK.out _ _ (cc6_ BK132) (fun hHeld => ?_)
      clear hK K
      refine nm_ (some 30) ?_
      refine oa_ 13 (some 31) (bl_ 20 147455) HT_ fun K hK => ?_
      refine goesB_ Try.func29 #[.agg #[.int .u64 t134, .int .u64 t135], .agg #[.int .u64 t136, .int .u64 t137]] ?_
      with_reducible refine (wide_Add.calls t134 t135 t136 t137 t138 t139 t140 _ A11.out).mono ?_
      rintro e w50 ⟨rfl, hb⟩
      refine ⟨_, rfl, ?_⟩
      replace BK132 := bb_ BK132 hb
      replace BK133 := bb_ BK133 hb
      replace BK141 := bb_ BK141 hb
      replace HB := bs_ w hb
      clear hb
      refine hK.out _ _ (cc6_ BK132) (fun hHeld => ?_)
      clear hK K
      refine nm_ (some 31) ?_
      refine pa_ 14 (some 17) (bl_ 20 163839) HT_ ?_
      refine pa_ 15 (some 32) (bl_ 20 196607) HT_ ?_
      refine pa_ 16 (some 33) (bl_ 20 262143) HT_ ?_
      exact no_ (hCont (gb141) _ ⟨hHeld, (bq_ BK132), (bq_ BK133), (bq_ BK141), GW141.out, GE141.out, NB132_141.out, NB141_132.out, NB133_141.out, NB141_133.out, bh_⟩)
    rintro gb141 w51 ⟨hS_, h0_, h1_, h2_, h3_, h4_, h5_, h6_, h7_, h8_, h9_⟩
    have BK141 := Aside0.mk h2_
    have GW141 := Aside0.mk h3_
    have GE141 := Aside0.mk h4_
    have NB132_141 := Aside0.mk h5_
    have NB141_132 := Aside0.mk h6_
    have NB133_141 := Aside0.mk h7_
    have NB141_133 := Aside0.mk h8_
    replace BK132 := Aside0.mk h0_
    replace BK133 := Aside0.mk h1_
    replace HB := Aside0.mk h9_
    clear h0_ h1_ h2_ h3_ h4_ h5_ h6_ h7_ h8_ h9_
    have hHeld := hS_
    refine nq_ ?_
    refine oa_ 18 none (bl_ 20 524287) HT_ fun K hK => ?_
    have hs52 : w51.cell? ⟨gb141, 0, none⟩ = some (.int .u64 0) := (blk_cell BK141.out 0).trans rfl
    have hfs52 := blk_frozen BK141.out 0
    have hns52_0 := NB132_141.out
    have hns52_1 := NB133_141.out
    have hms52_0 := NB141_132.out
    have hms52_1 := NB141_133.out
    have hs53 : w51.cell? ⟨gb141, 1, none⟩ = some (.int .u64 0) := (blk_cell BK141.out 1).trans rfl
    have hfs53 := blk_frozen BK141.out 1
    have hns53_0 := NB132_141.out
    have hns53_1 := NB133_141.out
    have hms53_0 := NB141_132.out
    have hms53_1 := NB141_133.out
    refine sk_ ?_
    refine hK.out _ _ (cf6_ hHeld) (fun hHeld => ?_)
    clear hK K
    refine pa_ 19 (some 6) (bl_ 20 1048575) HT_ ?_
    refine done_ (done_of HT_.out (by kernel_rfl)) ?_
    replace hn141_132 := NB141_132.out
    replace hn132_141 := NB132_141.out
    replace hn141_133 := NB141_133.out
    replace hn133_141 := NB133_141.out
    replace hc141 := ce2_ BK141
    replace hc132 := ce6_ BK132
    try go_wp2_with (first | ((with_reducible refine gate_callee (f := 33) rfl ?_); (try refine ug_ (by rfl) ?_); refine goesA_ (some 40) Try.func33 #[.agg #[.int .u64 t138, .int .u64 t139], .int .u64 (IntKind.u64.wrap (a0_2))] ?_; (with_reducible refine (wide_Div.calls k t138 t139 (IntKind.u64.wrap (a0_2)) t142 t143 t144 t145 _ A12.out).mono ?_); rintro e w58 ⟨rfl, hb⟩; refine ⟨_, rfl, ?_⟩; replace BK132 := bf_ BK132 hb; replace BK133 := bf_ BK133 hb; replace BK141 := Aside0.mk (blk_below (g := gb141) (o := .cells #[.int .u64 t138, .int .u64 t139] 60 (0, 0)) (bp2_ (bq_ BK141)) hb); replace HB := bs_ w hb; clear hb) | ((with_reducible refine gate_dst (N := 7) rfl ?_); (try refine ug_ (by rfl) ?_); refine bx_ #[.int .u64 0, .int .u64 0] 60 ?_; intro gb146 hg w59 BK146 hb; have GW146 := bz_ w hg; have GE146 := GW146; have NB132_146 := bn_ BK132 hg; have NB146_132 := bm_ BK132 hg; have NB133_146 := bn_ BK133 hg; have NB146_133 := bm_ BK133 hg; have NB141_146 := bn_ BK141 hg; have NB146_141 := bm_ BK141 hg; replace BK132 := bb_ BK132 hb; replace BK133 := bb_ BK133 hb; replace BK141 := bb_ BK141 hb; replace HB := bs_ w hb; clear hb hg; replace hn146_132 := NB146_132.out; replace hn132_146 := NB132_146.out; replace hn146_133 := NB146_133.out; replace hn133_146 := NB133_146.out; replace hn146_141 := NB146_141.out; replace hn141_146 := NB141_146.out; replace hc146 := ce2_ BK146; replace hc132 := ce6_ BK132) | ((with_reducible refine gate_callee (f := 38) rfl ?_); (try refine ug_ (by rfl) ?_); refine goesA_ (some 48) Try.func38 #[.agg #[.int .u64 t142, .int .u64 t143]] ?_; (with_reducible refine (wide_Small.calls t142 t143 t147 t148 _ A13.out).mono ?_); rintro e w65 ⟨rfl, hb⟩; refine ⟨_, rfl, ?_⟩; replace BK132 := Aside0.mk (blk_below (g := gb132) (o := .cells #[.int .i64 a0_0, .int .i64 a0_1, .int .i64 a0_2, .int .i64 a0_3, .int .i64 a0_4, .int .u64 a1] 26 (0, 0)) (blk_put (cs := #[.int .i64 a0_0, .int .i64 a0_1, .int .i64 a0_2, .int .i64 a0_3, .int .i64 a0_4, .int .u64 a0_5]) (bt_ BK132) 5 _ rfl) hb); replace BK133 := bf_ BK133 hb; replace BK141 := bf_ BK141 hb; replace BK146 := Aside0.mk (blk_below (g := gb146) (o := .cells #[.int .u64 t142, .int .u64 t143] 60 (0, 0)) (blk_far (bp2_ (bq_ BK146)) NB146_132.out _) hb); replace HB := bs_ w hb; clear hb; replace hc132 := ce6_ BK132; replace hc133 := ce6_ BK133))
    refine bodyPost_ret (results_cell_row rfl _ _ gb133 26 #[.int .i64 a0_0, .int .i64 a0_1, .int .i64 a0_2, .int .i64 (wrap64 (a0_3 + (wrap64 (t147)))), .int .i64 (wrap64 (t144)), .int .u64 a1] (0, 0) _ rfl (blk_put (cs := #[.int .i64 a0_0, .int .i64 a0_1, .int .i64 a0_2, .int .i64 (wrap64 (a0_3 + (wrap64 (t147)))), .int .i64 (wrap64 (t144)), .int .u64 0]) (blk_put (cs := #[.int .i64 a0_0, .int .i64 a0_1, .int .i64 a0_2, .int .i64 (wrap64 (a0_3 + (wrap64 (t147)))), .int .i64 0, .int .u64 0]) (blk_put (cs := #[.int .i64 a0_0, .int .i64 a0_1, .int .i64 a0_2, .int .i64 0, .int .i64 0, .int .u64 0]) (blk_put (cs := #[.int .i64 a0_0, .int .i64 a0_1, .int .i64 0, .int .i64 0, .int .i64 0, .int .u64 0]) (blk_put (cs := #[.int .i64 a0_0, .int .i64 0, .int .i64 0, .int .i64 0, .int .i64 0, .int .u64 0]) (blk_put (cs := #[.int .i64 0, .int .i64 0, .int .i64 0, .int .i64 0, .int .i64 0, .int .u64 0]) (bt_ BK133) 0 _ rfl) 1 _ rfl) 2 _ rfl) 3 _ rfl) 4 _ rfl) 5 _ rfl) Try.underlying26 rfl (by kernel_rfl)) rfl ?_
    exact fi_
  ·rw [if_neg c14] at H
   have c14b0 : (t148 == 0) = false := beq_eq_false_iff_ne.mpr c14
   have c14b1 : (t148 != 0) = true := bne_iff_ne.mpr c14
   simp only [Option.some.injEq, Prod.mk.injEq] at H
   obtain ⟨rfl, rfl, rfl, rfl, rfl, rfl⟩ := H
   go_enter Try.func34, Try.ntmps34
   try go_wp2_with (first | ((with_reducible refine gate_dst (N := 2) rfl ?_); (try refine ug_ (by rfl) ?_); refine bx_ #[.int .i64 a0_0, .int .i64 a0_1, .int .i64 a0_2, .int .i64 a0_3, .int .i64 a0_4, .int .u64 a0_5] 26 ?_; intro gb132 hg w68 BK132 hb; have GW132 := bz_ w hg; have GE132 := GW132; replace HB := bs_ w hb; clear hb hg) | ((with_reducible refine gate_dst (N := 4) rfl ?_); (try refine ug_ (by rfl) ?_); refine bx_ #[.int .i64 0, .int .i64 0, .int .i64 0, .int .i64 0, .int .i64 0, .int .u64 0] 26 ?_; intro gb133 hg w69 BK133 hb; have GW133 := bz_ w hg; have GE133 := GW133; have NB132_133 := bn_ BK132 hg; have NB133_132 := bm_ BK132 hg; replace BK132 := bb_ BK132 hb; replace HB := bs_ w hb; clear hb hg; replace hn132_133 := NB132_133.out; replace hn133_132 := NB133_132.out; replace hc132 := ce6_ BK132))
   replace BK132 := Aside0.mk (blk_drew BK132.out)
   replace BK133 := Aside0.mk (blk_drew BK133.out)
   replace HB := Aside0.mk (below_drew1 HB.out)
   refine start_ (n := 20) (S := fun w' => w'.cell? ⟨gb132, 0, none⟩ = some (.int .i64 a0_0) ∧ w'.cell? ⟨gb132, 1, none⟩ = some (.int .i64 a0_1) ∧ w'.cell? ⟨gb132, 2, none⟩ = some (.int .i64 a0_2) ∧ w'.cell? ⟨gb132, 3, none⟩ = some (.int .i64 a0_3) ∧ w'.cell? ⟨gb132, 4, none⟩ = some (.int .i64 a0_4) ∧ w'.cell? ⟨gb132, 5, none⟩ = some (.int .u64 a0_5)) (ds := []) (bl_ 20 0) (by kernel_rfl) rfl (by kernel_rfl) (cc6_ BK132) (fun hHeld => ?_); refine with_tabW bucket_fill.tab3 bucket_fill.bits3 (fun HT_ HW_ => ?_)
   generalize w69.drew = w72 at BK132 BK133 HB hHeld ⊢
   refine pa_ 0 (some 18) (bl_ 20 1) HT_ ?_
   refine pa_ 1 (some 19) (bl_ 20 3) HT_ ?_
   refine pa_ 4 (some 22) (bl_ 20 19) HT_ ?_
   refine pa_ 5 (some 23) (bl_ 20 51) HT_ ?_
   refine pa_ 9 (some 27) (bl_ 20 563) HT_ ?_
   refine ta_ 2 (some 20) (bl_ 20 567) HT_ HW_ hHeld ?_
   refine pa_ 3 (some 21) (bl_ 20 575) HT_ ?_
   refine ta_ 6 (some 24) (bl_ 20 639) HT_ HW_ hHeld ?_
   refine pa_ 7 (some 25) (bl_ 20 767) HT_ ?_
   refine ta_ 10 (some 28) (bl_ 20 1791) HT_ HW_ hHeld ?_
   refine pa_ 11 (some 29) (bl_ 20 3839) HT_ ?_
   refine join_ (σ := Nat) 2 (bl_ 20 262143) (fun s_ => [(26, .agg #[.int .u64 t134, .int .u64 t135]), (30, .agg #[.int .u64 t136, .int .u64 t137]), (31, .tuple #[.agg #[.int .u64 t138, .int .u64 t139], .int .i64 t140]), (5, .pointer (some ⟨s_, 0, none⟩)), (17, .tuple #[.agg #[.int .u64 t138, .int .u64 t139], .int .i64 t140]), (32, .agg #[.int .u64 t138, .int .u64 t139]), (33, .int .i64 t140)]) (fun s_ w' => (w'.cell? ⟨gb132, 0, none⟩ = some (.int .i64 a0_0) ∧ w'.cell? ⟨gb132, 1, none⟩ = some (.int .i64 a0_1) ∧ w'.cell? ⟨gb132, 2, none⟩ = some (.int .i64 a0_2) ∧ w'.cell? ⟨gb132, 3, none⟩ = some (.int .i64 a0_3) ∧ w'.cell? ⟨gb132, 4, none⟩ = some (.int .i64 a0_4) ∧ w'.cell? ⟨gb132, 5, none⟩ = some (.int .u64 a0_5)) ∧ (w'.heap[gb132]? = some (.cells #[.int .i64 a0_0, .int .i64 a0_1, .int .i64 a0_2, .int .i64 a0_3, .int .i64 a0_4, .int .u64 a0_5] 26 (0, 0))) ∧ (w'.heap[gb133]? = some (.cells #[.int .i64 0, .int .i64 0, .int .i64 0, .int .i64 0, .int .i64 0, .int .u64 0] 26 (0, 0))) ∧ (w'.heap[s_]? = some (.cells #[.int .u64 0, .int .u64 0] 60 (0, 0))) ∧ (w.heap.size ≤ s_) ∧ (w.heap.size ≤ s_) ∧ (gb132 ≠ s_) ∧ (s_ ≠ gb132) ∧ (gb133 ≠ s_) ∧ (s_ ≠ gb133) ∧ (Below w.heap.size w w')) ?_ ?_
   rotate_left
   ·intro hCont
    refine tw_ 8 17 (some 26) (some 5) (bl_ 20 4095) (bl_ 20 134911) HT_ (fun K hK => ?_) fun K hK => ?_
    ·refine goesB_ Try.func30 #[.int .u64 (IntKind.u64.wrap (a1 - a0_5)), .int .u64 (IntKind.u64.wrap (a0_1))] ?_
     with_reducible refine (wide_Mul.calls (IntKind.u64.wrap (a1 - a0_5)) (IntKind.u64.wrap (a0_1)) t134 t135 _ A9.out).mono ?_
     rintro e w73 ⟨rfl, hb⟩
     refine ⟨_, rfl, ?_⟩
     replace BK132 := bb_ BK132 hb
     replace BK133 := bb_ BK133 hb
     replace HB := bs_ w hb
     clear hb
     refine hK.out _ _ (cc6_ BK132) (fun hHeld => ?_)
     clear hK K
     refine nm_ (some 26) ?_
     refine tw_ 12 17 (some 30) (some 5) (bl_ 20 8191) (bl_ 20 135167) HT_ (fun K hK => ?_) fun K hK => ?_
     ·refine goesB_ Try.func31 #[.int .u64 (IntKind.u64.wrap (a0_4))] ?_
      with_reducible refine (wide_Of.calls (IntKind.u64.wrap (a0_4)) t136 t137 _ A10.out).mono ?_
      rintro e w74 ⟨rfl, hb⟩
      refine ⟨_, rfl, ?_⟩
      replace BK132 := bb_ BK132 hb
      replace BK133 := bb_ BK133 hb
      replace HB := bs_ w hb
      clear hb
      refine hK.out _ _ (cc6_ BK132) (fun hHeld => ?_)
      clear hK K
      refine nm_ (some 30) ?_
      refine tw_ 13 17 (some 31) (some 5) (bl_ 20 16383) (bl_ 20 139263) HT_ (fun K hK => ?_) fun K hK => ?_
      ·refine goesB_ Try.func29 #[.agg #[.int .u64 t134, .int .u64 t135], .agg #[.int .u64 t136, .int .u64 t137]] ?_
       with_reducible refine (wide_Add.calls t134 t135 t136 t137 t138 t139 t140 _ A11.out).mono ?_
       rintro e w75 ⟨rfl, hb⟩
       refine ⟨_, rfl, ?_⟩
       replace BK132 := bb_ BK132 hb
       replace BK133 := bb_ BK133 hb
       replace HB := bs_ w hb
       clear hb
       refine hK.out _ _ (cc6_ BK132) (fun hHeld => ?_)
       clear hK K
       refine nm_ (some 31) ?_
       refine pa_ 14 (some 17) (bl_ 20 32767) HT_ ?_
       refine pa_ 15 (some 32) (bl_ 20 65535) HT_ ?_
       refine pa_ 16 (some 33) (bl_ 20 131071) HT_ ?_
       refine oa_ 17 (some 5) (bl_ 20 262143) HT_ fun K hK => ?_
       refine bs2_ #[.int .u64 0, .int .u64 0] 60 ?_
       intro gb141 hg w76 BK141 hb
       have GW141 := bz_ w hg
       have GE141 := GW141
       have NB132_141 := bn_ BK132 hg
       have NB141_132 := bm_ BK132 hg
       have NB133_141 := bn_ BK133 hg
       have NB141_133 := bm_ BK133 hg
       replace BK132 := bb_ BK132 hb
       replace BK133 := bb_ BK133 hb
       replace HB := bs_ w hb
       clear hb hg
       refine hK.out _ _ (cc6_ BK132) (fun hHeld => ?_)
       clear hK K
       refine nm_ (some 5) ?_
       exact no_ (hCont (gb141) _ ⟨hHeld, (bq_ BK132), (bq_ BK133), (bq_ BK141), GW141.out, GE141.out, NB132_141.out, NB141_132.out, NB133_141.out, NB141_133.out, bh_⟩)
      ·refine bs2_ #[.int .u64 0, .int .u64 0] 60 ?_
       intro gb141 hg w75 BK141 hb
       have GW141 := bz_ w hg
       have GE141 := GW141
       have NB132_141 := bn_ BK132 hg
       have NB141_132 := bm_ BK132 hg
       have NB133_141 := bn_ BK133 hg
       have NB141_133 := bm_ BK133 hg
       replace BK132 := bb_ BK132 hb
       replace BK133 := bb_ BK133 hb
       replace HB := bs_ w hb
       clear hb hg
       refine hK.out _ _ (cc6_ BK132) (fun hHeld => ?_)
       clear hK K
       refine nm_ (some 5) ?_
       refine oa_ 13 (some 31) (bl_ 20 147455) HT_ fun K hK => ?_
       refine goesB_ Try.func29 #[.agg #[.int .u64 t134, .int .u64 t135], .agg #[.int .u64 t136, .int .u64 t137]] ?_
       with_reducible refine (wide_Add.calls t134 t135 t136 t137 t138 t139 t140 _ A11.out).mono ?_
       rintro e w76 ⟨rfl, hb⟩
       refine ⟨_, rfl, ?_⟩
       replace BK132 := bb_ BK132 hb
       replace BK133 := bb_ BK133 hb
       replace BK141 := bb_ BK141 hb
       replace HB := bs_ w hb
       clear hb
       refine hK.out _ _ (cc6_ BK132) (fun hHeld => ?_)
       clear hK K
       refine nm_ (some 31) ?_
       refine pa_ 14 (some 17) (bl_ 20 163839) HT_ ?_
       refine pa_ 15 (some 32) (bl_ 20 196607) HT_ ?_
       refine pa_ 16 (some 33) (bl_ 20 262143) HT_ ?_
       exact no_ (hCont (gb141) _ ⟨hHeld, (bq_ BK132), (bq_ BK133), (bq_ BK141), GW141.out, GE141.out, NB132_141.out, NB141_132.out, NB133_141.out, NB141_133.out, bh_⟩)
     ·refine bs2_ #[.int .u64 0, .int .u64 0] 60 ?_
      intro gb141 hg w74 BK141 hb
      have GW141 := bz_ w hg
      have GE141 := GW141
      have NB132_141 := bn_ BK132 hg
      have NB141_132 := bm_ BK132 hg
      have NB133_141 := bn_ BK133 hg
      have NB141_133 := bm_ BK133 hg
      replace BK132 := bb_ BK132 hb
      replace BK133 := bb_ BK133 hb
      replace HB := bs_ w hb
      clear hb hg
      refine hK.out _ _ (cc6_ BK132) (fun hHeld => ?_)
      clear hK K
      refine nm_ (some 5) ?_
      refine oa_ 12 (some 30) (bl_ 20 139263) HT_ fun K hK => ?_
      refine goesB_ Try.func31 #[.int .u64 (IntKind.u64.wrap (a0_4))] ?_
      with_reducible refine (wide_Of.calls (IntKind.u64.wrap (a0_4)) t136 t137 _ A10.out).mono ?_
      rintro e w75 ⟨rfl, hb⟩
      refine ⟨_, rfl, ?_⟩
      replace BK132 := bb_ BK132 hb
      replace BK133 := bb_ BK133 hb
      replace BK141 := bb_ BK141 hb
      replace HB := bs_ w hb
      clear hb
      refine hK.out _ _ (cc6_ BK132) (fun hHeld => ?_)
      clear hK K
      refine nm_ (some 30) ?_
      refine oa_ 13 (some 31) (bl_ 20 147455) HT_ fun K hK => ?_
      refine goesB_ Try.func29 #[.agg #[.int .u64 t134, .int .u64 t135], .agg #[.int .u64 t136, .int .u64 t137]] ?_
      with_reducible refine (wide_Add.calls t134 t135 t136 t137 t138 t139 t140 _ A11.out).mono ?_
      rintro e w76 ⟨rfl, hb⟩
      refine ⟨_, rfl, ?_⟩
      replace BK132 := bb_ BK132 hb
      replace BK133 := bb_ BK133 hb
      replace BK141 := bb_ BK141 hb
      replace HB := bs_ w hb
      clear hb
      refine hK.out _ _ (cc6_ BK132) (fun hHeld => ?_)
      clear hK K
      refine nm_ (some 31) ?_
      refine pa_ 14 (some 17) (bl_ 20 163839) HT_ ?_
      refine pa_ 15 (some 32) (bl_ 20 196607) HT_ ?_
      refine pa_ 16 (some 33) (bl_ 20 262143) HT_ ?_
      exact no_ (hCont (gb141) _ ⟨hHeld, (bq_ BK132), (bq_ BK133), (bq_ BK141), GW141.out, GE141.out, NB132_141.out, NB141_132.out, NB133_141.out, NB141_133.out, bh_⟩)
    ·refine bs2_ #[.int .u64 0, .int .u64 0] 60 ?_
     intro gb141 hg w73 BK141 hb
     have GW141 := bz_ w hg
     have GE141 := GW141
     have NB132_141 := bn_ BK132 hg
     have NB141_132 := bm_ BK132 hg
     have NB133_141 := bn_ BK133 hg
     have NB141_133 := bm_ BK133 hg
     replace BK132 := bb_ BK132 hb
     replace BK133 := bb_ BK133 hb
     replace HB := bs_ w hb
     clear hb hg
     refine hK.out _ _ (cc6_ BK132) (fun hHeld => ?_)
     clear hK K
     refine nm_ (some 5) ?_
     refine oa_ 8 (some 26) (bl_ 20 135167) HT_ fun K hK => ?_
     refine goesB_ Try.func30 #[.int .u64 (IntKind.u64.wrap (a1 - a0_5)), .int .u64 (IntKind.u64.wrap (a0_1))] ?_
     with_reducible refine (wide_Mul.calls (IntKind.u64.wrap (a1 - a0_5)) (IntKind.u64.wrap (a0_1)) t134 t135 _ A9.out).mono ?_
     rintro e w74 ⟨rfl, hb⟩
     refine ⟨_, rfl, ?_⟩
     replace BK132 := bb_ BK132 hb
     replace BK133 := bb_ BK133 hb
     replace BK141 := bb_ BK141 hb
     replace HB := bs_ w hb
     clear hb
     refine hK.out _ _ (cc6_ BK132) (fun hHeld => ?_)
     clear hK K
     refine nm_ (some 26) ?_
     refine oa_ 12 (some 30) (bl_ 20 139263) HT_ fun K hK => ?_
     refine goesB_ Try.func31 #[.int .u64 (IntKind.u64.wrap (a0_4))] ?_
     with_reducible refine (wide_Of.calls (IntKind.u64.wrap (a0_4)) t136 t137 _ A10.out).mono ?_
     rintro e w75 ⟨rfl, hb⟩
     refine ⟨_, rfl, ?_⟩
     replace BK132 := bb_ BK132 hb
     replace BK133 := bb_ BK133 hb
     replace BK141 := bb_ BK141 hb
     replace HB := bs_ w hb
     clear hb
     refine hK.out _ _ (cc6_ BK132) (fun hHeld => ?_)
     clear hK K
     refine nm_ (some 30) ?_
     refine oa_ 13 (some 31) (bl_ 20 147455) HT_ fun K hK => ?_
     refine goesB_ Try.func29 #[.agg #[.int .u64 t134, .int .u64 t135], .agg #[.int .u64 t136, .int .u64 t137]] ?_
     with_reducible refine (wide_Add.calls t134 t135 t136 t137 t138 t139 t140 _ A11.out).mono ?_
     rintro e w76 ⟨rfl, hb⟩
     refine ⟨_, rfl, ?_⟩
     replace BK132 := bb_ BK132 hb
     replace BK133 := bb_ BK133 hb
     replace BK141 := bb_ BK141 hb
     replace HB := bs_ w hb
     clear hb
     refine hK.out _ _ (cc6_ BK132) (fun hHeld => ?_)
     clear hK K
     refine nm_ (some 31) ?_
     refine pa_ 14 (some 17) (bl_ 20 163839) HT_ ?_
     refine pa_ 15 (some 32) (bl_ 20 196607) HT_ ?_
     refine pa_ 16 (some 33) (bl_ 20 262143) HT_ ?_
     exact no_ (hCont (gb141) _ ⟨hHeld, (bq_ BK132), (bq_ BK133), (bq_ BK141), GW141.out, GE141.out, NB132_141.out, NB141_132.out, NB133_141.out, NB141_133.out, bh_⟩)
   rintro gb141 w77 ⟨hS_, h0_, h1_, h2_, h3_, h4_, h5_, h6_, h7_, h8_, h9_⟩
   have BK141 := Aside0.mk h2_
   have GW141 := Aside0.mk h3_
   have GE141 := Aside0.mk h4_
   have NB132_141 := Aside0.mk h5_
   have NB141_132 := Aside0.mk h6_
   have NB133_141 := Aside0.mk h7_
   have NB141_133 := Aside0.mk h8_
   replace BK132 := Aside0.mk h0_
   replace BK133 := Aside0.mk h1_
   replace HB := Aside0.mk h9_
   clear h0_ h1_ h2_ h3_ h4_ h5_ h6_ h7_ h8_ h9_
   have hHeld := hS_
   refine nq_ ?_
   refine oa_ 18 none (bl_ 20 524287) HT_ fun K hK => ?_
   have hs78 : w77.cell? ⟨gb141, 0, none⟩ = some (.int .u64 0) := (blk_cell BK141.out 0).trans rfl
   have hfs78 := blk_frozen BK141.out 0
   have hns78_0 := NB132_141.out
   have hns78_1 := NB133_141.out
   have hms78_0 := NB141_132.out
   have hms78_1 := NB141_133.out
   have hs79 : w77.cell? ⟨gb141, 1, none⟩ = some (.int .u64 0) := (blk_cell BK141.out 1).trans rfl
   have hfs79 := blk_frozen BK141.out 1
   have hns79_0 := NB132_141.out
   have hns79_1 := NB133_141.out
   have hms79_0 := NB141_132.out
   have hms79_1 := NB141_133.out
   refine sk_ ?_
   refine hK.out _ _ (cf6_ hHeld) (fun hHeld => ?_)
   clear hK K
   refine pa_ 19 (some 6) (bl_ 20 1048575) HT_ ?_
   refine done_ (done_of HT_.out (by kernel_rfl)) ?_
   replace hn141_132 := NB141_132.out
   replace hn132_141 := NB132_141.out
   replace hn141_133 := NB141_133.out
   replace hn133_141 := NB133_141.out
   replace hc141 := ce2_ BK141
   replace hc132 := ce6_ BK132
   try go_wp2_with (first | ((with_reducible refine gate_callee (f := 33) rfl ?_); (try refine ug_ (by rfl) ?_); refine goesA_ (some 40) Try.func33 #[.agg #[.int .u64 t138, .int .u64 t139], .int .u64 (IntKind.u64.wrap (a0_2))] ?_; (with_reducible refine (wide_Div.calls k t138 t139 (IntKind.u64.wrap (a0_2)) t142 t143 t144 t145 _ A12.out).mono ?_); rintro e w84 ⟨rfl, hb⟩; refine ⟨_, rfl, ?_⟩; replace BK132 := bf_ BK132 hb; replace BK133 := bf_ BK133 hb; replace BK141 := Aside0.mk (blk_below (g := gb141) (o := .cells #[.int .u64 t138, .int .u64 t139] 60 (0, 0)) (bp2_ (bq_ BK141)) hb); replace HB := bs_ w hb; clear hb) | ((with_reducible refine gate_dst (N := 7) rfl ?_); (try refine ug_ (by rfl) ?_); refine bx_ #[.int .u64 0, .int .u64 0] 60 ?_; intro gb146 hg w85 BK146 hb; have GW146 := bz_ w hg; have GE146 := GW146; have NB132_146 := bn_ BK132 hg; have NB146_132 := bm_ BK132 hg; have NB133_146 := bn_ BK133 hg; have NB146_133 := bm_ BK133 hg; have NB141_146 := bn_ BK141 hg; have NB146_141 := bm_ BK141 hg; replace BK132 := bb_ BK132 hb; replace BK133 := bb_ BK133 hb; replace BK141 := bb_ BK141 hb; replace HB := bs_ w hb; clear hb hg; replace hn146_132 := NB146_132.out; replace hn132_146 := NB132_146.out; replace hn146_133 := NB146_133.out; replace hn133_146 := NB133_146.out; replace hn146_141 := NB146_141.out; replace hn141_146 := NB141_146.out; replace hc146 := ce2_ BK146; replace hc132 := ce6_ BK132) | ((with_reducible refine gate_callee (f := 38) rfl ?_); (try refine ug_ (by rfl) ?_); refine goesA_ (some 48) Try.func38 #[.agg #[.int .u64 t142, .int .u64 t143]] ?_; (with_reducible refine (wide_Small.calls t142 t143 t147 t148 _ A13.out).mono ?_); rintro e w91 ⟨rfl, hb⟩; refine ⟨_, rfl, ?_⟩; replace BK132 := Aside0.mk (blk_below (g := gb132) (o := .cells #[.int .i64 a0_0, .int .i64 a0_1, .int .i64 a0_2, .int .i64 a0_3, .int .i64 a0_4, .int .u64 a1] 26 (0, 0)) (blk_put (cs := #[.int .i64 a0_0, .int .i64 a0_1, .int .i64 a0_2, .int .i64 a0_3, .int .i64 a0_4, .int .u64 a0_5]) (bt_ BK132) 5 _ rfl) hb); replace BK133 := bf_ BK133 hb; replace BK141 := bf_ BK141 hb; replace BK146 := Aside0.mk (blk_below (g := gb146) (o := .cells #[.int .u64 t142, .int .u64 t143] 60 (0, 0)) (blk_far (bp2_ (bq_ BK146)) NB146_132.out _) hb); replace HB := bs_ w hb; clear hb; replace hc132 := ce6_ BK132; replace hc133 := ce6_ BK133))
   refine bodyPost_ret (results_cell_row rfl _ _ gb133 26 #[.int .i64 a0_0, .int .i64 a0_1, .int .i64 a0_2, .int .i64 a0_0, .int .i64 0, .int .u64 a1] (0, 0) _ rfl (blk_put (cs := #[.int .i64 a0_0, .int .i64 a0_1, .int .i64 a0_2, .int .i64 a0_0, .int .i64 0, .int .u64 0]) (blk_put (cs := #[.int .i64 a0_0, .int .i64 a0_1, .int .i64 a0_2, .int .i64 a0_0, .int .i64 0, .int .u64 0]) (blk_put (cs := #[.int .i64 a0_0, .int .i64 a0_1, .int .i64 a0_2, .int .i64 0, .int .i64 0, .int .u64 0]) (blk_put (cs := #[.int .i64 a0_0, .int .i64 a0_1, .int .i64 0, .int .i64 0, .int .i64 0, .int .u64 0]) (blk_put (cs := #[.int .i64 a0_0, .int .i64 0, .int .i64 0, .int .i64 0, .int .i64 0, .int .u64 0]) (blk_put (cs := #[.int .i64 0, .int .i64 0, .int .i64 0, .int .i64 0, .int .i64 0, .int .u64 0]) (bt_ BK133) 0 _ rfl) 1 _ rfl) 2 _ rfl) 3 _ rfl) 4 _ rfl) 5 _ rfl) Try.underlying26 rfl (by kernel_rfl)) rfl ?_
   exact fi_

end Go.Proofs.Ytmfkedeaifdfdaa.X
