-- written by xprint.py, a program of this session over the kit's print
import Derived.Test.YtimhghmfhfggoaaX0
import Derived.Test.YtimhghmfhfggoaaX7
import Derived.Test.YtimhghmfhfggoaaX8
import Derived.Test.YtimhghmfhfggoaaX28
namespace Go.Proofs.Ytimhghmfhfggoaa.X
open Go.RowKit Go.Proofs.YtimhghmfhfggoaaW.PrintWords Go.Proofs.YtimhghmfhfggoaaW.PrintLast Go.Proofs.YtimhghmfhfggoaaW.PrintMore
attribute [local go_sem] max2_int min2_int max_two min_two max_three min_three max_four min_four   -- for this text's walks alone
set_option linter.unusedVariables false
set_option linter.unusedSimpArgs false

def bucket_fill.f (k : Nat) (a0_0 : Int) (a0_1 : Int) (a0_2 : Int) (a0_3 : Int) (a0_4 : Int) (a0_5 : Int) (a1 : Int) : Option (Int × Int × Int × Int × Int × Int) := if a1 ≤ a0_5 then (some (a0_0, a0_1, a0_2, a0_3, a0_4, a0_5)) else ((wide_Mul.f (IntKind.u64.wrap (a1 - a0_5)) (IntKind.u64.wrap (a0_1))).bind fun bt238 => ((wide_Of.f (IntKind.u64.wrap (a0_4))).bind fun bt240 => ((wide_Add.f bt238.1 bt238.2 bt240.1 bt240.2).bind fun bt242 => ((wide_Div.f k bt242.1 bt242.2.1 (IntKind.u64.wrap (a0_2))).bind fun bt246 => ((wide_Small.f bt246.1 bt246.2.1).bind fun bt251 => (if bt251.2 = 0 then (if bt251.1 ≥ (IntKind.u64.wrap (wrap64 (a0_0 - a0_3))) then (some (a0_0, a0_1, a0_2, a0_0, 0, a1)) else (some (a0_0, a0_1, a0_2, wrap64 (a0_3 + (wrap64 (bt251.1))), wrap64 (bt246.2.2.1), a1))) else (some (a0_0, a0_1, a0_2, a0_0, 0, a1))))))))
def bucket_fill.T3 : Bool × List (List Nat × List Nat) := (true, [([], []), ([], []), ([1], [1]), ([0, 2], [0, 2]), ([], []), ([4], [4]), ([5], [5]), ([6], [6]), ([3, 7], [3, 7]), ([], []), ([9], [9]), ([10], [10]), ([11, 8], [11]), ([8, 12, 12], [8, 12]), ([13], [13]), ([14], [14]), ([14], [14]), ([], []), ([17, 15, 13, 0, 1, 2, 3, 4, 5, 6, 7, 8, 9, 10, 11, 12, 13, 14, 15, 17], [15, 17]), ([16, 18, 0, 1, 2, 3, 4, 5, 6, 7, 8, 9, 10, 11, 12, 13, 14, 15, 16, 17, 18], [16])])
def bucket_fill.B3 : List Nat := [0, 0, 2, 7, 0, 16, 48, 112, 255, 0, 512, 1536, 4095, 8191, 16383, 32767, 32767, 0, 196607, 524287]
theorem bucket_fill.tab3 : rtab .any (opsOf Try.f42 3) = bucket_fill.T3 := by kernel_rfl
theorem bucket_fill.bits3 : waitsOk bucket_fill.T3.2 bucket_fill.B3 = true := by kernel_rfl
set_option maxHeartbeats 8000000 in
set_option maxRecDepth 100000 in
theorem bucket_fill.calls (k : Nat) (a0_0 : Int) (a0_1 : Int) (a0_2 : Int) (a0_3 : Int) (a0_4 : Int) (a0_5 : Int) (a1 : Int) (r1 : Int) (r2 : Int) (r3 : Int) (r4 : Int) (r5 : Int) (r6 : Int) (w : World) (h : bucket_fill.f k a0_0 a0_1 a0_2 a0_3 a0_4 a0_5 a1 = some (r1, r2, r3, r4, r5, r6)) :
  Calls Try.prog 42 #[.agg #[.int .i64 a0_0, .int .i64 a0_1, .int .i64 a0_2, .int .i64 a0_3, .int .i64 a0_4, .int .u64 a0_5], .int .u64 a1] w fun e w' => e = .returned (.agg #[.int .i64 r1, .int .i64 r2, .int .i64 r3, .int .i64 r4, .int .i64 r5, .int .u64 r6]) ∧ Below w.heap.size w w' := by
 have hu51 := Try.underlying51
 have hu92 := Try.underlying92
 have HB := Aside0.mk (Below.refl w.heap.size w)
 have H : (if a1 ≤ a0_5 then (some (a0_0, a0_1, a0_2, a0_3, a0_4, a0_5)) else ((wide_Mul.f (IntKind.u64.wrap (a1 - a0_5)) (IntKind.u64.wrap (a0_1))).bind fun bt238 => ((wide_Of.f (IntKind.u64.wrap (a0_4))).bind fun bt240 => ((wide_Add.f bt238.1 bt238.2 bt240.1 bt240.2).bind fun bt242 => ((wide_Div.f k bt242.1 bt242.2.1 (IntKind.u64.wrap (a0_2))).bind fun bt246 => ((wide_Small.f bt246.1 bt246.2.1).bind fun bt251 => (if bt251.2 = 0 then (if bt251.1 ≥ (IntKind.u64.wrap (wrap64 (a0_0 - a0_3))) then (some (a0_0, a0_1, a0_2, a0_0, 0, a1)) else (some (a0_0, a0_1, a0_2, wrap64 (a0_3 + (wrap64 (bt251.1))), wrap64 (bt246.2.2.1), a1))) else (some (a0_0, a0_1, a0_2, a0_0, 0, a1))))))))) = some (r1, r2, r3, r4, r5, r6) := h
 clear h
 by_cases c3 : a1 ≤ a0_5
 ·rw [if_pos c3] at H
  have c3b0 : decide (a1 ≤ a0_5) = true := decide_eq_true c3
  clear c3
  simp only [Option.some.injEq, Prod.mk.injEq] at H
  obtain ⟨rfl, rfl, rfl, rfl, rfl, rfl⟩ := H
  go_enter Try.func42, Try.ntmps42
  go_wp2_with (first | ((with_reducible refine gate_dst (N := 2) rfl ?_); (try refine ug_ (by rfl) ?_); refine bx_ #[.int .i64 a0_0, .int .i64 a0_1, .int .i64 a0_2, .int .i64 a0_3, .int .i64 a0_4, .int .u64 a0_5] 51 ?_; intro gb236 hg w4 BK236 hb; have GW236 := bz_ w hg; have GE236 := GW236; replace HB := bs_ w hb; clear hb hg) | ((with_reducible refine gate_dst (N := 4) rfl ?_); (try refine ug_ (by rfl) ?_); refine bx_ #[.int .i64 0, .int .i64 0, .int .i64 0, .int .i64 0, .int .i64 0, .int .u64 0] 51 ?_; intro gb237 hg w5 BK237 hb; have GW237 := bz_ w hg; have GE237 := GW237; have NB236_237 := bn_ BK236 hg; have NB237_236 := bm_ BK236 hg; replace BK236 := bb_ BK236 hb; replace HB := bs_ w hb; clear hb hg; replace hn236_237 := NB236_237.out; replace hn237_236 := NB237_236.out; replace hc236 := ce6_ BK236; replace hc237 := ce6_ BK237))
  refine bodyPost_ret (results_cell_row rfl _ _ gb237 51 #[.int .i64 a0_0, .int .i64 a0_1, .int .i64 a0_2, .int .i64 a0_3, .int .i64 a0_4, .int .u64 a0_5] (0, 0) _ rfl (bp6_ (bq_ BK237)) Try.underlying51 rfl (by kernel_rfl)) rfl ?_
  exact fi_
 ·rw [if_neg c3] at H
  have c3b0 : decide (a1 ≤ a0_5) = false := decide_eq_false c3
  clear c3
  have H0_ := bo_ H; clear H; obtain ⟨⟨t238, t239⟩, A9, H⟩ := H0_
  try dsimp only at H
  have H0_ := bo_ H; clear H; obtain ⟨⟨t240, t241⟩, A10, H⟩ := H0_
  try dsimp only at H
  have H0_ := bo_ H; clear H; obtain ⟨⟨t242, t243, t244⟩, A11, H⟩ := H0_
  try dsimp only at H
  have H0_ := bo_ H; clear H; obtain ⟨⟨t246, t247, t248, t249⟩, A12, H⟩ := H0_
  try dsimp only at H
  have H0_ := bo_ H; clear H; obtain ⟨⟨t251, t252⟩, A13, H⟩ := H0_
  try dsimp only at H
  by_cases c14 : t252 = 0
  ·rw [if_pos c14] at H
   have c14b0 : (t252 == 0) = true := beq_iff_eq.mpr c14
   have c14b1 : (t252 != 0) = false := bne_eq_false_iff_eq.mpr c14
   clear c14
   by_cases c15 : t251 ≥ (IntKind.u64.wrap (wrap64 (a0_0 - a0_3)))
   ·rw [if_pos c15] at H
    have c15b0 : decide ((IntKind.u64.wrap (wrap64 (a0_0 - a0_3))) ≤ t251) = true := decide_eq_true c15
    clear c15
    simp only [Option.some.injEq, Prod.mk.injEq] at H
    obtain ⟨rfl, rfl, rfl, rfl, rfl, rfl⟩ := H
    go_enter Try.func42, Try.ntmps42
    try go_wp2_with (first | ((with_reducible refine gate_dst (N := 2) rfl ?_); (try refine ug_ (by rfl) ?_); refine bx_ #[.int .i64 a0_0, .int .i64 a0_1, .int .i64 a0_2, .int .i64 a0_3, .int .i64 a0_4, .int .u64 a0_5] 51 ?_; intro gb236 hg w16 BK236 hb; have GW236 := bz_ w hg; have GE236 := GW236; replace HB := bs_ w hb; clear hb hg) | ((with_reducible refine gate_dst (N := 4) rfl ?_); (try refine ug_ (by rfl) ?_); refine bx_ #[.int .i64 0, .int .i64 0, .int .i64 0, .int .i64 0, .int .i64 0, .int .u64 0] 51 ?_; intro gb237 hg w17 BK237 hb; have GW237 := bz_ w hg; have GE237 := GW237; have NB236_237 := bn_ BK236 hg; have NB237_236 := bm_ BK236 hg; replace BK236 := bb_ BK236 hb; replace HB := bs_ w hb; clear hb hg; replace hn236_237 := NB236_237.out; replace hn237_236 := NB237_236.out; replace hc236 := ce6_ BK236))
    replace BK236 := Aside0.mk (blk_drew BK236.out)
    replace BK237 := Aside0.mk (blk_drew BK237.out)
    replace HB := Aside0.mk (below_drew1 HB.out)
    refine start_ (n := 20) (S := fun w' => w'.cell? ⟨gb236, 0, none⟩ = some (.int .i64 a0_0) ∧ w'.cell? ⟨gb236, 1, none⟩ = some (.int .i64 a0_1) ∧ w'.cell? ⟨gb236, 2, none⟩ = some (.int .i64 a0_2) ∧ w'.cell? ⟨gb236, 3, none⟩ = some (.int .i64 a0_3) ∧ w'.cell? ⟨gb236, 4, none⟩ = some (.int .i64 a0_4) ∧ w'.cell? ⟨gb236, 5, none⟩ = some (.int .u64 a0_5)) (ds := []) (bl_ 20 0) (by kernel_rfl) rfl (by kernel_rfl) (cc6_ BK236) (fun hHeld => ?_); refine with_tabW bucket_fill.tab3 bucket_fill.bits3 (fun HT_ HW_ => ?_)
    generalize w17.drew = w20 at BK236 BK237 HB hHeld ⊢
    refine pa_ 0 (some 18) (bl_ 20 1) HT_ ?_
    refine pa_ 1 (some 19) (bl_ 20 3) HT_ ?_
    refine pa_ 4 (some 22) (bl_ 20 19) HT_ ?_
    refine pa_ 5 (some 23) (bl_ 20 51) HT_ ?_
    refine pa_ 9 (some 27) (bl_ 20 563) HT_ ?_
    refine ta_ 2 (some 20) (bl_ 20 567) HT_ HW_ hHeld ?_
    refine pa_ 3 (some 21) (bl_ 20 575) HT_ ?_
    refine ta_ 6 (some 24) (bl_ 20 639) HT_ HW_ hHeld ?_
    refine pa_ 7 (some 25) (bl_ 20 767) HT_ ?_
    refine ta_ 10 (some 28) (bl_ 20 1791) HT_ HW_ hHeld ?_
    refine pa_ 11 (some 29) (bl_ 20 3839) HT_ ?_
    refine join_ (σ := Nat) 2 (bl_ 20 262143) (fun s_ => [(26, .agg #[.int .u64 t238, .int .u64 t239]), (30, .agg #[.int .u64 t240, .int .u64 t241]), (31, .tuple #[.agg #[.int .u64 t242, .int .u64 t243], .int .i64 t244]), (5, .pointer (some ⟨s_, 0, none⟩)), (17, .tuple #[.agg #[.int .u64 t242, .int .u64 t243], .int .i64 t244]), (32, .agg #[.int .u64 t242, .int .u64 t243]), (33, .int .i64 t244)]) (fun s_ w' => (w'.cell? ⟨gb236, 0, none⟩ = some (.int .i64 a0_0) ∧ w'.cell? ⟨gb236, 1, none⟩ = some (.int .i64 a0_1) ∧ w'.cell? ⟨gb236, 2, none⟩ = some (.int .i64 a0_2) ∧ w'.cell? ⟨gb236, 3, none⟩ = some (.int .i64 a0_3) ∧ w'.cell? ⟨gb236, 4, none⟩ = some (.int .i64 a0_4) ∧ w'.cell? ⟨gb236, 5, none⟩ = some (.int .u64 a0_5)) ∧ (w'.heap[gb236]? = some (.cells #[.int .i64 a0_0, .int .i64 a0_1, .int .i64 a0_2, .int .i64 a0_3, .int .i64 a0_4, .int .u64 a0_5] 51 (0, 0))) ∧ (w'.heap[gb237]? = some (.cells #[.int .i64 0, .int .i64 0, .int .i64 0, .int .i64 0, .int .i64 0, .int .u64 0] 51 (0, 0))) ∧ (w'.heap[s_]? = some (.cells #[.int .u64 0, .int .u64 0] 92 (0, 0))) ∧ (w.heap.size ≤ s_) ∧ (w.heap.size ≤ s_) ∧ (gb236 ≠ s_) ∧ (s_ ≠ gb236) ∧ (gb237 ≠ s_) ∧ (s_ ≠ gb237) ∧ (Below w.heap.size w w')) ?_ ?_
    rotate_left
    ·intro hCont
     refine tw_ 8 17 (some 26) (some 5) (bl_ 20 4095) (bl_ 20 134911) HT_ (fun K hK => ?_) fun K hK => ?_
     ·refine goesB_ Try.func49 #[.int .u64 (IntKind.u64.wrap (a1 - a0_5)), .int .u64 (IntKind.u64.wrap (a0_1))] ?_
      with_reducible refine (wide_Mul.calls (IntKind.u64.wrap (a1 - a0_5)) (IntKind.u64.wrap (a0_1)) t238 t239 _ A9.out).mono ?_
      rintro e w21 ⟨rfl, hb⟩
      refine ⟨_, rfl, ?_⟩
      replace BK236 := bb_ BK236 hb
      replace BK237 := bb_ BK237 hb
      replace HB := bs_ w hb
      clear hb
      refine hK.out _ _ (cc6_ BK236) (fun hHeld => ?_)
      clear hK K
      refine nm_ (some 26) ?_
      refine tw_ 12 17 (some 30) (some 5) (bl_ 20 8191) (bl_ 20 135167) HT_ (fun K hK => ?_) fun K hK => ?_
      ·refine goesB_ Try.func51 #[.int .u64 (IntKind.u64.wrap (a0_4))] ?_
       with_reducible refine (wide_Of.calls (IntKind.u64.wrap (a0_4)) t240 t241 _ A10.out).mono ?_
       rintro e w22 ⟨rfl, hb⟩
       refine ⟨_, rfl, ?_⟩
       replace BK236 := bb_ BK236 hb
       replace BK237 := bb_ BK237 hb
       replace HB := bs_ w hb
       clear hb
       refine hK.out _ _ (cc6_ BK236) (fun hHeld => ?_)
       clear hK K
       refine nm_ (some 30) ?_
       refine tw_ 13 17 (some 31) (some 5) (bl_ 20 16383) (bl_ 20 139263) HT_ (fun K hK => ?_) fun K hK => ?_
       ·refine goesB_ Try.func57 #[.agg #[.int .u64 t238, .int .u64 t239], .agg #[.int .u64 t240, .int .u64 t241]] ?_
        with_reducible refine (wide_Add.calls t238 t239 t240 t241 t242 t243 t244 _ A11.out).mono ?_
        rintro e w23 ⟨rfl, hb⟩
        refine ⟨_, rfl, ?_⟩
        replace BK236 := bb_ BK236 hb
        replace BK237 := bb_ BK237 hb
        replace HB := bs_ w hb
        clear hb
        refine hK.out _ _ (cc6_ BK236) (fun hHeld => ?_)
        clear hK K
        refine nm_ (some 31) ?_
        refine pa_ 14 (some 17) (bl_ 20 32767) HT_ ?_
        refine pa_ 15 (some 32) (bl_ 20 65535) HT_ ?_
        refine pa_ 16 (some 33) (bl_ 20 131071) HT_ ?_
        refine oa_ 17 (some 5) (bl_ 20 262143) HT_ fun K hK => ?_
        refine bs2_ #[.int .u64 0, .int .u64 0] 92 ?_
        intro gb245 hg w24 BK245 hb
        have GW245 := bz_ w hg
        have GE245 := GW245
        have NB236_245 := bn_ BK236 hg
        have NB245_236 := bm_ BK236 hg
        have NB237_245 := bn_ BK237 hg
        have NB245_237 := bm_ BK237 hg
        replace BK236 := bb_ BK236 hb
        replace BK237 := bb_ BK237 hb
        replace HB := bs_ w hb
        clear hb hg
        refine hK.out _ _ (cc6_ BK236) (fun hHeld => ?_)
        clear hK K
        refine nm_ (some 5) ?_
        exact no_ (hCont (gb245) _ ⟨hHeld, (bq_ BK236), (bq_ BK237), (bq_ BK245), GW245.out, GE245.out, NB236_245.out, NB245_236.out, NB237_245.out, NB245_237.out, bh_⟩)
       ·refine bs2_ #[.int .u64 0, .int .u64 0] 92 ?_
        intro gb245 hg w23 BK245 hb
        have GW245 := bz_ w hg
        have GE245 := GW245
        have NB236_245 := bn_ BK236 hg
        have NB245_236 := bm_ BK236 hg
        have NB237_245 := bn_ BK237 hg
        have NB245_237 := bm_ BK237 hg
        replace BK236 := bb_ BK236 hb
        replace BK237 := bb_ BK237 hb
        replace HB := bs_ w hb
        clear hb hg
        refine hK.out _ _ (cc6_ BK236) (fun hHeld => ?_)
        clear hK K
        refine nm_ (some 5) ?_
        refine oa_ 13 (some 31) (bl_ 20 147455) HT_ fun K hK => ?_
        refine goesB_ Try.func57 #[.agg #[.int .u64 t238, .int .u64 t239], .agg #[.int .u64 t240, .int .u64 t241]] ?_
        with_reducible refine (wide_Add.calls t238 t239 t240 t241 t242 t243 t244 _ A11.out).mono ?_
        rintro e w24 ⟨rfl, hb⟩
        refine ⟨_, rfl, ?_⟩
        replace BK236 := bb_ BK236 hb
        replace BK237 := bb_ BK237 hb
        replace BK245 := bb_ BK245 hb
        replace HB := bs_ w hb
        clear hb
        refine hK.out _ _ (cc6_ BK236) (fun hHeld => ?_)
        clear hK K
        refine nm_ (some 31) ?_
        refine pa_ 14 (some 17) (bl_ 20 163839) HT_ ?_
        refine pa_ 15 (some 32) (bl_ 20 196607) HT_ ?_
        refine pa_ 16 (some 33) (bl_ 20 262143) HT_ ?_
        exact no_ (hCont (gb245) _ ⟨hHeld, (bq_ BK236), (bq_ BK237), (bq_ BK245), GW245.out, GE245.out, NB236_245.out, NB245_236.out, NB237_245.out, NB245_237.out, bh_⟩)
      ·refine bs2_ #[.int .u64 0, .int .u64 0] 92 ?_
       intro gb245 hg w22 BK245 hb
       have GW245 := bz_ w hg
       have GE245 := GW245
       have NB236_245 := bn_ BK236 hg
       have NB245_236 := bm_ BK236 hg
       have NB237_245 := bn_ BK237 hg
       have NB245_237 := bm_ BK237 hg
       replace BK236 := bb_ BK236 hb
       replace BK237 := bb_ BK237 hb
       replace HB := bs_ w hb
       clear hb hg
       refine hK.out _ _ (cc6_ BK236) (fun hHeld => ?_)
       clear hK K
       refine nm_ (some 5) ?_
       refine oa_ 12 (some 30) (bl_ 20 139263) HT_ fun K hK => ?_
       refine goesB_ Try.func51 #[.int .u64 (IntKind.u64.wrap (a0_4))] ?_
       with_reducible refine (wide_Of.calls (IntKind.u64.wrap (a0_4)) t240 t241 _ A10.out).mono ?_
       rintro e w23 ⟨rfl, hb⟩
       refine ⟨_, rfl, ?_⟩
       replace BK236 := bb_ BK236 hb
       replace BK237 := bb_ BK237 hb
       replace BK245 := bb_ BK245 hb
       replace HB := bs_ w hb
       clear hb
       refine hK.out _ _ (cc6_ BK236) (fun hHeld => ?_)
       clear hK K
       refine nm_ (some 30) ?_
       refine oa_ 13 (some 31) (bl_ 20 147455) HT_ fun K hK => ?_
       refine goesB_ Try.func57 #[.agg #[.int .u64 t238, .int .u64 t239], .agg #[.int .u64 t240, .int .u64 t241]] ?_
       with_reducible refine (wide_Add.calls t238 t239 t240 t241 t242 t243 t244 _ A11.out).mono ?_
       rintro e w24 ⟨rfl, hb⟩
       refine ⟨_, rfl, ?_⟩
       replace BK236 := bb_ BK236 hb
       replace BK237 := bb_ BK237 hb
       replace BK245 := bb_ BK245 hb
       replace HB := bs_ w hb
       clear hb
       refine hK.out _ _ (cc6_ BK236) (fun hHeld => ?_)
       clear hK K
       refine nm_ (some 31) ?_
       refine pa_ 14 (some 17) (bl_ 20 163839) HT_ ?_
       refine pa_ 15 (some 32) (bl_ 20 196607) HT_ ?_
       refine pa_ 16 (some 33) (bl_ 20 262143) HT_ ?_
       exact no_ (hCont (gb245) _ ⟨hHeld, (bq_ BK236), (bq_ BK237), (bq_ BK245), GW245.out, GE245.out, NB236_245.out, NB245_236.out, NB237_245.out, NB245_237.out, bh_⟩)
     ·refine bs2_ #[.int .u64 0, .int .u64 0] 92 ?_
      intro gb245 hg w21 BK245 hb
      have GW245 := bz_ w hg
      have GE245 := GW245
      have NB236_245 := bn_ BK236 hg
      have NB245_236 := bm_ BK236 hg
      have NB237_245 := bn_ BK237 hg
      have NB245_237 := bm_ BK237 hg
      replace BK236 := bb_ BK236 hb
      replace BK237 := bb_ BK237 hb
      replace HB := bs_ w hb
      clear hb hg
      refine hK.out _ _ (cc6_ BK236) (fun hHeld => ?_)
      clear hK K
      refine nm_ (some 5) ?_
      refine oa_ 8 (some 26) (bl_ 20 135167) HT_ fun K hK => ?_
      refine goesB_ Try.func49 #[.int .u64 (IntKind.u64.wrap (a1 - a0_5)), .int .u64 (IntKind.u64.wrap (a0_1))] ?_
      with_reducible refine (wide_Mul.calls (IntKind.u64.wrap (a1 - a0_5)) (IntKind.u64.wrap (a0_1)) t238 t239 _ A9.out).mono ?_
      rintro e w22 ⟨rfl, hb⟩
      refine ⟨_, rfl, ?_⟩
      replace BK236 := bb_ BK236 hb
      replace BK237 := bb_ BK237 hb
      replace BK245 := bb_ BK245 hb
      replace HB := bs_ w hb
      clear hb
      refine hK.out _ _ (cc6_ BK236) (fun hHeld => ?_)
      clear hK K
      refine nm_ (some 26) ?_
      refine oa_ 12 (some 30) (bl_ 20 139263) HT_ fun K hK => ?_
      refine goesB_ Try.func51 #[.int .u64 (IntKind.u64.wrap (a0_4))] ?_
      with_reducible refine (wide_Of.calls (IntKind.u64.wrap (a0_4)) t240 t241 _ A10.out).mono ?_
      rintro e w23 ⟨rfl, hb⟩
      refine ⟨_, rfl, ?_⟩
      replace BK236 := bb_ BK236 hb
      replace BK237 := bb_ BK237 hb
      replace BK245 := bb_ BK245 hb
      replace HB := bs_ w hb
      clear hb
      refine hK.out _ _ (cc6_ BK236) (fun hHeld => ?_)
      clear hK K
      refine nm_ (some 30) ?_
      refine oa_ 13 (some 31) (bl_ 20 147455) HT_ fun K hK => ?_
      refine goesB_ Try.func57 #[.agg #[.int .u64 t238, .int .u64 t239], .agg #[.int .u64 t240, .int .u64 t241]] ?_
      with_reducible refine (wide_Add.calls t238 t239 t240 t241 t242 t243 t244 _ A11.out).mono ?_
      rintro e w24 ⟨rfl, hb⟩
      refine ⟨_, rfl, ?_⟩
      replace BK236 := bb_ BK236 hb
      replace BK237 := bb_ BK237 hb
      replace BK245 := bb_ BK245 hb
      replace HB := bs_ w hb
      clear hb
      refine hK.out _ _ (cc6_ BK236) (fun hHeld => ?_)
      clear hK K
      refine nm_ (some 31) ?_
      refine pa_ 14 (some 17) (bl_ 20 163839) HT_ ?_
      refine pa_ 15 (some 32) (bl_ 20 196607) HT_ ?_
      refine pa_ 16 (some 33) (bl_ 20 262143) HT_ ?_
      exact no_ (hCont (gb245) _ ⟨hHeld, (bq_ BK236), (bq_ BK237), (bq_ BK245), GW245.out, GE245.out, NB236_245.out, NB245_236.out, NB237_245.out, NB245_237.out, bh_⟩)
    rintro gb245 w25 ⟨hS_, h0_, h1_, h2_, h3_, h4_, h5_, h6_, h7_, h8_, h9_⟩
    have BK245 := Aside0.mk h2_
    have GW245 := Aside0.mk h3_
    have GE245 := Aside0.mk h4_
    have NB236_245 := Aside0.mk h5_
    have NB245_236 := Aside0.mk h6_
    have NB237_245 := Aside0.mk h7_
    have NB245_237 := Aside0.mk h8_
    replace BK236 := Aside0.mk h0_
    replace BK237 := Aside0.mk h1_
    replace HB := Aside0.mk h9_
    clear h0_ h1_ h2_ h3_ h4_ h5_ h6_ h7_ h8_ h9_
    have hHeld := hS_
    refine nq_ ?_
    refine oa_ 18 none (bl_ 20 524287) HT_ fun K hK => ?_
    have hs26 : w25.cell? ⟨gb245, 0, none⟩ = some (.int .u64 0) := (blk_cell BK245.out 0).trans rfl
    have hfs26 := blk_frozen BK245.out 0
    have hns26_0 := NB236_245.out
    have hns26_1 := NB237_245.out
    have hms26_0 := NB245_236.out
    have hms26_1 := NB245_237.out
    have hs27 : w25.cell? ⟨gb245, 1, none⟩ = some (.int .u64 0) := (blk_cell BK245.out 1).trans rfl
    have hfs27 := blk_frozen BK245.out 1
    have hns27_0 := NB236_245.out
    have hns27_1 := NB237_245.out
    have hms27_0 := NB245_236.out
    have hms27_1 := NB245_237.out
    refine sk_ ?_
    refine hK.out _ _ (cf6_ hHeld) (fun hHeld => ?_)
    clear hK K
    refine pa_ 19 (some 6) (bl_ 20 1048575) HT_ ?_
    refine done_ (done_of HT_.out (by kernel_rfl)) ?_
    replace hn245_236 := NB245_236.out
    replace hn236_245 := NB236_245.out
    replace hn245_237 := NB245_237.out
    replace hn237_245 := NB237_245.out
    replace hc245 := ce2_ BK245
    replace hc236 := ce6_ BK236
    try go_wp2_with (first | ((with_reducible refine gate_callee (f := 48) rfl ?_); (try refine ug_ (by rfl) ?_); refine goesA_ (some 40) Try.func48 #[.agg #[.int .u64 t242, .int .u64 t243], .int .u64 (IntKind.u64.wrap (a0_2))] ?_; (with_reducible refine (wide_Div.calls k t242 t243 (IntKind.u64.wrap (a0_2)) t246 t247 t248 t249 _ A12.out).mono ?_); rintro e w32 ⟨rfl, hb⟩; refine ⟨_, rfl, ?_⟩; replace BK236 := bf_ BK236 hb; replace BK237 := bf_ BK237 hb; replace BK245 := Aside0.mk (blk_below (g := gb245) (o := .cells #[.int .u64 t242, .int .u64 t243] 92 (0, 0)) (bp2_ (bq_ BK245)) hb); replace HB := bs_ w hb; clear hb) | ((with_reducible refine gate_dst (N := 7) rfl ?_); (try refine ug_ (by rfl) ?_); refine bx_ #[.int .u64 0, .int .u64 0] 92 ?_; intro gb250 hg w33 BK250 hb; have GW250 := bz_ w hg; have GE250 := GW250; have NB236_250 := bn_ BK236 hg; have NB250_236 := bm_ BK236 hg; have NB237_250 := bn_ BK237 hg; have NB250_237 := bm_ BK237 hg; have NB245_250 := bn_ BK245 hg; have NB250_245 := bm_ BK245 hg; replace BK236 := bb_ BK236 hb; replace BK237 := bb_ BK237 hb; replace BK245 := bb_ BK245 hb; replace HB := bs_ w hb; clear hb hg; replace hn250_236 := NB250_236.out; replace hn236_250 := NB236_250.out; replace hn250_237 := NB250_237.out; replace hn237_250 := NB237_250.out; replace hn250_245 := NB250_245.out; replace hn245_250 := NB245_250.out; replace hc250 := ce2_ BK250; replace hc236 := ce6_ BK236) | ((with_reducible refine gate_callee (f := 58) rfl ?_); (try refine ug_ (by rfl) ?_); refine goesA_ (some 48) Try.func58 #[.agg #[.int .u64 t246, .int .u64 t247]] ?_; (with_reducible refine (wide_Small.calls t246 t247 t251 t252 _ A13.out).mono ?_); rintro e w39 ⟨rfl, hb⟩; refine ⟨_, rfl, ?_⟩; replace BK236 := Aside0.mk (blk_below (g := gb236) (o := .cells #[.int .i64 a0_0, .int .i64 a0_1, .int .i64 a0_2, .int .i64 a0_3, .int .i64 a0_4, .int .u64 a1] 51 (0, 0)) (blk_put (cs := #[.int .i64 a0_0, .int .i64 a0_1, .int .i64 a0_2, .int .i64 a0_3, .int .i64 a0_4, .int .u64 a0_5]) (bt_ BK236) 5 _ rfl) hb); replace BK237 := bf_ BK237 hb; replace BK245 := bf_ BK245 hb; replace BK250 := Aside0.mk (blk_below (g := gb250) (o := .cells #[.int .u64 t246, .int .u64 t247] 92 (0, 0)) (blk_far (bp2_ (bq_ BK250)) NB250_236.out _) hb); replace HB := bs_ w hb; clear hb; replace hc236 := ce6_ BK236; replace hc237 := ce6_ BK237))
    refine bodyPost_ret (results_cell_row rfl _ _ gb237 51 #[.int .i64 a0_0, .int .i64 a0_1, .int .i64 a0_2, .int .i64 a0_0, .int .i64 0, .int .u64 a1] (0, 0) _ rfl (bp6_ (bt_ BK237)) Try.underlying51 rfl (by kernel_rfl)) rfl ?_
    exact fi_
   ·rw [if_neg c15] at H
    have c15b0 : decide ((IntKind.u64.wrap (wrap64 (a0_0 - a0_3))) ≤ t251) = false := decide_eq_false c15
    clear c15
    simp only [Option.some.injEq, Prod.mk.injEq] at H
    obtain ⟨rfl, rfl, rfl, rfl, rfl, rfl⟩ := H
    go_enter Try.func42, Try.ntmps42
    try go_wp2_with (first | ((with_reducible refine gate_dst (N := 2) rfl ?_); (try refine ug_ (by rfl) ?_); refine bx_ #[.int .i64 a0_0, .int .i64 a0_1, .int .i64 a0_2, .int .i64 a0_3, .int .i64 a0_4, .int .u64 a0_5] 51 ?_; intro gb236 hg w42 BK236 hb; have GW236 := bz_ w hg; have GE236 := GW236; replace HB := bs_ w hb; clear hb hg) | ((with_reducible refine gate_dst (N := 4) rfl ?_); (try refine ug_ (by rfl) ?_); refine bx_ #[.int .i64 0, .int .i64 0, .int .i64 0, .int .i64 0, .int .i64 0, .int .u64 0] 51 ?_; intro gb237 hg w43 BK237 hb; have GW237 := bz_ w hg; have GE237 := GW237; have NB236_237 := bn_ BK236 hg; have NB237_236 := bm_ BK236 hg; replace BK236 := bb_ BK236 hb; replace HB := bs_ w hb; clear hb hg; replace hn236_237 := NB236_237.out; replace hn237_236 := NB237_236.out; replace hc236 := ce6_ BK236))
    replace BK236 := Aside0.mk (blk_drew BK236.out)
    replace BK237 := Aside0.mk (blk_drew BK237.out)
    replace HB := Aside0.mk (below_drew1 HB.out)
    refine start_ (n := 20) (S := fun w' => w'.cell? ⟨gb236, 0, none⟩ = some (.int .i64 a0_0) ∧ w'.cell? ⟨gb236, 1, none⟩ = some (.int .i64 a0_1) ∧ w'.cell? ⟨gb236, 2, none⟩ = some (.int .i64 a0_2) ∧ w'.cell? ⟨gb236, 3, none⟩ = some (.int .i64 a0_3) ∧ w'.cell? ⟨gb236, 4, none⟩ = some (.int .i64 a0_4) ∧ w'.cell? ⟨gb236, 5, none⟩ = some (.int .u64 a0_5)) (ds := []) (bl_ 20 0) (by kernel_rfl) rfl (by kernel_rfl) (cc6_ BK236) (fun hHeld => ?_); refine with_tabW bucket_fill.tab3 bucket_fill.bits3 (fun HT_ HW_ => ?_)
    generalize w43.drew = w46 at BK236 BK237 HB hHeld ⊢
    refine pa_ 0 (some 18) (bl_ 20 1) HT_ ?_
    refine pa_ 1 (some 19) (bl_ 20 3) HT_ ?_
    refine pa_ 4 (some 22) (bl_ 20 19) HT_ ?_
    refine pa_ 5 (some 23) (bl_ 20 51) HT_ ?_
    refine pa_ 9 (some 27) (bl_ 20 563) HT_ ?_
    refine ta_ 2 (some 20) (bl_ 20 567) HT_ HW_ hHeld ?_
    refine pa_ 3 (some 21) (bl_ 20 575) HT_ ?_
    refine ta_ 6 (some 24) (bl_ 20 639) HT_ HW_ hHeld ?_
    refine pa_ 7 (some 25) (bl_ 20 767) HT_ ?_
    refine ta_ 10 (some 28) (bl_ 20 1791) HT_ HW_ hHeld ?_
    refine pa_ 11 (some 29) (bl_ 20 3839) HT_ ?_
    refine join_ (σ := Nat) 2 (bl_ 20 262143) (fun s_ => [(26, .agg #[.int .u64 t238, .int .u64 t239]), (30, .agg #[.int .u64 t240, .int .u64 t241]), (31, .tuple #[.agg #[.int .u64 t242, .int .u64 t243], .int .i64 t244]), (5, .pointer (some ⟨s_, 0, none⟩)), (17, .tuple #[.agg #[.int .u64 t242, .int .u64 t243], .int .i64 t244]), (32, .agg #[.int .u64 t242, .int .u64 t243]), (33, .int .i64 t244)]) (fun s_ w' => (w'.cell? ⟨gb236, 0, none⟩ = some (.int .i64 a0_0) ∧ w'.cell? ⟨gb236, 1, none⟩ = some (.int .i64 a0_1) ∧ w'.cell? ⟨gb236, 2, none⟩ = some (.int .i64 a0_2) ∧ w'.cell? ⟨gb236, 3, none⟩ = some (.int .i64 a0_3) ∧ w'.cell? ⟨gb236, 4, none⟩ = some (.int .i64 a0_4) ∧ w'.cell? ⟨gb236, 5, none⟩ = some (.int .u64 a0_5)) ∧ (w'.heap[gb236]? = some (.cells #[.int .i64 a0_0, .int .i64 a0_1, .int .i64 a0_2, .int .i64 a0_3, .int .i64 a0_4, .int .u64 a0_5] 51 (0, 0))) ∧ (w'.heap[gb237]? = some (.cells #[.int .i64 0, .int .i64 0, .int .i64 0, .int .i64 0, .int .i64 0, .int .u64 0] 51 (0, 0))) ∧ (w'.heap[s_]? = some (.cells #[.int .u64 0, .int .u64 0] 92 (0, 0))) ∧ (w.heap.size ≤ s_) ∧ (w.heap.size ≤ s_) ∧ (gb236 ≠ s_) ∧ (s_ ≠ gb236) ∧ (gb237 ≠ s_) ∧ (s_ ≠ gb237) ∧ (Below w.heap.size w w')) ?_ ?_
    rotate_left
    ·intro hCont
     refine tw_ 8 17 (some 26) (some 5) (bl_ 20 4095) (bl_ 20 134911) HT_ (fun K hK => ?_) fun K hK => ?_
     ·refine goesB_ Try.func49 #[.int .u64 (IntKind.u64.wrap (a1 - a0_5)), .int .u64 (IntKind.u64.wrap (a0_1))] ?_
      with_reducible refine (wide_Mul.calls (IntKind.u64.wrap (a1 - a0_5)) (IntKind.u64.wrap (a0_1)) t238 t239 _ A9.out).mono ?_
      rintro e w47 ⟨rfl, hb⟩
      refine ⟨_, rfl, ?_⟩
      replace BK236 := bb_ BK236 hb
      replace BK237 := bb_ BK237 hb
      replace HB := bs_ w hb
      clear hb
      refine hK.out _ _ (cc6_ BK236) (fun hHeld => ?_)
      clear hK K
      refine nm_ (some 26) ?_
      refine tw_ 12 17 (some 30) (some 5) (bl_ 20 8191) (bl_ 20 135167) HT_ (fun K hK => ?_) fun K hK => ?_
      ·refine goesB_ Try.func51 #[.int .u64 (IntKind.u64.wrap (a0_4))] ?_
       with_reducible refine (wide_Of.calls (IntKind.u64.wrap (a0_4)) t240 t241 _ A10.out).mono ?_
       rintro e w48 ⟨rfl, hb⟩
       refine ⟨_, rfl, ?_⟩
       replace BK236 := bb_ BK236 hb
       replace BK237 := bb_ BK237 hb
       replace HB := bs_ w hb
       clear hb
       refine hK.out _ _ (cc6_ BK236) (fun hHeld => ?_)
       clear hK K
       refine nm_ (some 30) ?_
       refine tw_ 13 17 (some 31) (some 5) (bl_ 20 16383) (bl_ 20 139263) HT_ (fun K hK => ?_) fun K hK => ?_
       ·refine goesB_ Try.func57 #[.agg #[.int .u64 t238, .int .u64 t239], .agg #[.int .u64 t240, .int .u64 t241]] ?_
        with_reducible refine (wide_Add.calls t238 t239 t240 t241 t242 t243 t244 _ A11.out).mono ?_
        rintro e w49 ⟨rfl, hb⟩
        refine ⟨_, rfl, ?_⟩
        replace BK236 := bb_ BK236 hb
        replace BK237 := bb_ BK237 hb
        replace HB := bs_ w hb
        clear hb
        refine hK.out _ _ (cc6_ BK236) (fun hHeld => ?_)
        clear hK K
        refine nm_ (some 31) ?_
        refine pa_ 14 (some 17) (bl_ 20 32767) HT_ ?_
        refine pa_ 15 (some 32) (bl_ 20 65535) HT_ ?_
        refine pa_ 16 (some 33) (bl_ 20 131071) HT_ ?_
        refine oa_ 17 (some 5) (bl_ 20 262143) HT_ fun K hK => ?_
        refine bs2_ #[.int .u64 0, .int .u64 0] 92 ?_
        intro gb245 hg w50 BK245 hb
        have GW245 := bz_ w hg
        have GE245 := GW245
        have NB236_245 := bn_ BK236 hg
        have NB245_236 := bm_ BK236 hg
        have NB237_245 := bn_ BK237 hg
        have NB245_237 := bm_ BK237 hg
        replace BK236 := bb_ BK236 hb
        replace BK237 := bb_ BK237 hb
        replace HB := bs_ w hb
        clear hb hg
        refine hK.out _ _ (cc6_ BK236) (fun hHeld => ?_)
        clear hK K
        refine nm_ (some 5) ?_
        exact no_ (hCont (gb245) _ ⟨hHeld, (bq_ BK236), (bq_ BK237), (bq_ BK245), GW245.out, GE245.out, NB236_245.out, NB245_236.out, NB237_245.out, NB245_237.out, bh_⟩)
       ·refine bs2_ #[.int .u64 0, .int .u64 0] 92 ?_
        intro gb245 hg w49 BK245 hb
        have GW245 := bz_ w hg
        have GE245 := GW245
        have NB236_245 := bn_ BK236 hg
        have NB245_236 := bm_ BK236 hg
        have NB237_245 := bn_ BK237 hg
        have NB245_237 := bm_ BK237 hg
        replace BK236 := bb_ BK236 hb
        replace BK237 := bb_ BK237 hb
        replace HB := bs_ w hb
        clear hb hg
        refine hK.out _ _ (cc6_ BK236) (fun hHeld => ?_)
        clear hK K
        refine nm_ (some 5) ?_
        refine oa_ 13 (some 31) (bl_ 20 147455) HT_ fun K hK => ?_
        refine goesB_ Try.func57 #[.agg #[.int .u64 t238, .int .u64 t239], .agg #[.int .u64 t240, .int .u64 t241]] ?_
        with_reducible refine (wide_Add.calls t238 t239 t240 t241 t242 t243 t244 _ A11.out).mono ?_
        rintro e w50 ⟨rfl, hb⟩
        refine ⟨_, rfl, ?_⟩
        replace BK236 := bb_ BK236 hb
        replace BK237 := bb_ BK237 hb
        replace BK245 := bb_ BK245 hb
        replace HB := bs_ w hb
        clear hb
        refine hK.out _ _ (cc6_ BK236) (fun hHeld => ?_)
        clear hK K
        refine nm_ (some 31) ?_
        refine pa_ 14 (some 17) (bl_ 20 163839) HT_ ?_
        refine pa_ 15 (some 32) (bl_ 20 196607) HT_ ?_
        refine pa_ 16 (some 33) (bl_ 20 262143) HT_ ?_
        exact no_ (hCont (gb245) _ ⟨hHeld, (bq_ BK236), (bq_ BK237), (bq_ BK245), GW245.out, GE245.out, NB236_245.out, NB245_236.out, NB237_245.out, NB245_237.out, bh_⟩)
      ·refine bs2_ #[.int .u64 0, .int .u64 0] 92 ?_
       intro gb245 hg w48 BK245 hb
       have GW245 := bz_ w hg
       have GE245 := GW245
       have NB236_245 := bn_ BK236 hg
       have NB245_236 := bm_ BK236 hg
       have NB237_245 := bn_ BK237 hg
       have NB245_237 := bm_ BK237 hg
       replace BK236 := bb_ BK236 hb
       replace BK237 := bb_ BK237 hb
       replace HB := bs_ w hb
       clear hb hg
       refine hK.out _ _ (cc6_ BK236) (fun hHeld => ?_)
       clear hK K
       refine nm_ (some 5) ?_
       refine oa_ 12 (some 30) (bl_ 20 139263) HT_ fun K hK => ?_
       refine goesB_ Try.func51 #[.int .u64 (IntKind.u64.wrap (a0_4))] ?_
       with_reducible refine (wide_Of.calls (IntKind.u64.wrap (a0_4)) t240 t241 _ A10.out).mono ?_
       rintro e w49 ⟨rfl, hb⟩
       refine ⟨_, rfl, ?_⟩
       replace BK236 := bb_ BK236 hb
       replace BK237 := bb_ BK237 hb
       replace BK245 := bb_ BK245 hb
       replace HB := bs_ w hb
       clear hb
       refine hK.out _ _ (cc6_ BK236) (fun hHeld => ?_)
       clear hK K
       refine nm_ (some 30) ?_
       refine oa_ 13 (some 31) (bl_ 20 147455) HT_ fun K hK => ?_
       refine goesB_ Try.func57 #[.agg #[.int .u64 t238, .int .u64 t239], .agg #[.int .u64 t240, .int .u64 t241]] ?_
       with_reducible refine (wide_Add.calls t238 t239 t240 t241 t242 t243 t244 _ A11.out).mono ?_
       rintro e w50 ⟨rfl, hb⟩
       refine ⟨_, rfl, ?_⟩
       replace BK236 := bb_ BK236 hb
       replace BK237 := bb_ BK237 hb
       replace BK245 := bb_ BK245 hb
       replace HB := bs_ w hb
       clear hb
       refine hK.out _ _ (cc6_ BK236) (fun hHeld => ?_)
       clear hK K
       refine nm_ (some 31) ?_
       refine pa_ 14 (some 17) (bl_ 20 163839) HT_ ?_
       refine pa_ 15 (some 32) (bl_ 20 196607) HT_ ?_
       refine pa_ 16 (some 33) (bl_ 20 262143) HT_ ?_
       exact no_ (hCont (gb245) _ ⟨hHeld, (bq_ BK236), (bq_ BK237), (bq_ BK245), GW245.out, GE245.out, NB236_245.out, NB245_236.out, NB237_245.out, NB245_237.out, bh_⟩)
     ·refine bs2_ #[.int .u64 0, .int .u64 0] 92 ?_
      intro gb245 hg w47 BK245 hb
      have GW245 := bz_ w hg
      have GE245 := GW245
      have NB236_245 := bn_ BK236 hg
      have NB245_236 := bm_ BK236 hg
      have NB237_245 := bn_ BK237 hg
      have NB245_237 := bm_ BK237 hg
      replace BK236 := bb_ BK236 hb
      replace BK237 := bb_ BK237 hb
      replace HB := bs_ w hb
      clear hb hg
      refine hK.out _ _ (cc6_ BK236) (fun hHeld => ?_)
      clear hK K
      refine nm_ (some 5) ?_
      refine oa_ 8 (some 26) (bl_ 20 135167) HT_ fun K hK => ?_
      refine goesB_ Try.func49 #[.int .u64 (IntKind.u64.wrap (a1 - a0_5)), .int .u64 (IntKind.u64.wrap (a0_1))] ?_
      with_reducible refine (wide_Mul.calls (IntKind.u64.wrap (a1 - a0_5)) (IntKind.u64.wrap (a0_1)) t238 t239 _ A9.out).mono ?_
      rintro e w48 ⟨rfl, hb⟩
      refine ⟨_, rfl, ?_⟩
      replace BK236 := bb_ BK236 hb
      replace BK237 := bb_ BK237 hb
      replace BK245 := bb_ BK245 hb
      replace HB := bs_ w hb
      clear hb
      refine hK.out _ _ (cc6_ BK236) (fun hHeld => ?_)
      clear hK K
      refine nm_ (some 26) ?_
      refine oa_ 12 (some 30) (bl_ 20 139263) HT_ fun K hK => ?_
      refine goesB_ Try.func51 #[.int .u64 (IntKind.u64.wrap (a0_4))] ?_
      with_reducible refine (wide_Of.calls (IntKind.u64.wrap (a0_4)) t240 t241 _ A10.out).mono ?_
      rintro e w49 ⟨rfl, hb⟩
      refine ⟨_, rfl, ?_⟩
      replace BK236 := bb_ BK236 hb
      replace BK237 := bb_ BK237 hb
      replace BK245 := bb_ BK245 hb
      replace HB := bs_ w hb
      clear hb
      refine hK.out _ _ (cc6_ BK236) (fun hHeld => ?_)
      clear hK K
      refine nm_ (some 30) ?_
      refine oa_ 13 (some 31) (bl_ 20 147455) HT_ fun K hK => ?_
      refine goesB_ Try.func57 #[.agg #[.int .u64 t238, .int .u64 t239], .agg #[.int .u64 t240, .int .u64 t241]] ?_
      with_reducible refine (wide_Add.calls t238 t239 t240 t241 t242 t243 t244 _ A11.out).mono ?_
      rintro e w50 ⟨rfl, hb⟩
      refine ⟨_, rfl, ?_⟩
      replace BK236 := bb_ BK236 hb
      replace BK237 := bb_ BK237 hb
      replace BK245 := bb_ BK245 hb
      replace HB := bs_ w hb
      clear hb
      refine hK.out _ _ (cc6_ BK236) (fun hHeld => ?_)
      clear hK K
      refine nm_ (some 31) ?_
      refine pa_ 14 (some 17) (bl_ 20 163839) HT_ ?_
      refine pa_ 15 (some 32) (bl_ 20 196607) HT_ ?_
      refine pa_ 16 (some 33) (bl_ 20 262143) HT_ ?_
      exact no_ (hCont (gb245) _ ⟨hHeld, (bq_ BK236), (bq_ BK237), (bq_ BK245), GW245.out, GE245.out, NB236_245.out, NB245_236.out, NB237_245.out, NB245_237.out, bh_⟩)
    rintro gb245 w51 ⟨hS_, h0_, h1_, h2_, h3_, h4_, h5_, h6_, h7_, h8_, h9_⟩
    have BK245 := Aside0.mk h2_
    have GW245 := Aside0.mk h3_
    have GE245 := Aside0.mk h4_
    have NB236_245 := Aside0.mk h5_
    have NB245_236 := Aside0.mk h6_
    have NB237_245 := Aside0.mk h7_
    have NB245_237 := Aside0.mk h8_
    replace BK236 := Aside0.mk h0_
    replace BK237 := Aside0.mk h1_
    replace HB := Aside0.mk h9_
    clear h0_ h1_ h2_ h3_ h4_ h5_ h6_ h7_ h8_ h9_
    have hHeld := hS_
    refine nq_ ?_
    refine oa_ 18 none (bl_ 20 524287) HT_ fun K hK => ?_
    have hs52 : w51.cell? ⟨gb245, 0, none⟩ = some (.int .u64 0) := (blk_cell BK245.out 0).trans rfl
    have hfs52 := blk_frozen BK245.out 0
    have hns52_0 := NB236_245.out
    have hns52_1 := NB237_245.out
    have hms52_0 := NB245_236.out
    have hms52_1 := NB245_237.out
    have hs53 : w51.cell? ⟨gb245, 1, none⟩ = some (.int .u64 0) := (blk_cell BK245.out 1).trans rfl
    have hfs53 := blk_frozen BK245.out 1
    have hns53_0 := NB236_245.out
    have hns53_1 := NB237_245.out
    have hms53_0 := NB245_236.out
    have hms53_1 := NB245_237.out
    refine sk_ ?_
    refine hK.out _ _ (cf6_ hHeld) (fun hHeld => ?_)
    clear hK K
    refine pa_ 19 (some 6) (bl_ 20 1048575) HT_ ?_
    refine done_ (done_of HT_.out (by kernel_rfl)) ?_
    replace hn245_236 := NB245_236.out
    replace hn236_245 := NB236_245.out
    replace hn245_237 := NB245_237.out
    replace hn237_245 := NB237_245.out
    replace hc245 := ce2_ BK245
    replace hc236 := ce6_ BK236
    try go_wp2_with (first | ((with_reducible refine gate_callee (f := 48) rfl ?_); (try refine ug_ (by rfl) ?_); refine goesA_ (some 40) Try.func48 #[.agg #[.int .u64 t242, .int .u64 t243], .int .u64 (IntKind.u64.wrap (a0_2))] ?_; (with_reducible refine (wide_Div.calls k t242 t243 (IntKind.u64.wrap (a0_2)) t246 t247 t248 t249 _ A12.out).mono ?_); rintro e w58 ⟨rfl, hb⟩; refine ⟨_, rfl, ?_⟩; replace BK236 := bf_ BK236 hb; replace BK237 := bf_ BK237 hb; replace BK245 := Aside0.mk (blk_below (g := gb245) (o := .cells #[.int .u64 t242, .int .u64 t243] 92 (0, 0)) (bp2_ (bq_ BK245)) hb); replace HB := bs_ w hb; clear hb) | ((with_reducible refine gate_dst (N := 7) rfl ?_); (try refine ug_ (by rfl) ?_); refine bx_ #[.int .u64 0, .int .u64 0] 92 ?_; intro gb250 hg w59 BK250 hb; have GW250 := bz_ w hg; have GE250 := GW250; have NB236_250 := bn_ BK236 hg; have NB250_236 := bm_ BK236 hg; have NB237_250 := bn_ BK237 hg; have NB250_237 := bm_ BK237 hg; have NB245_250 := bn_ BK245 hg; have NB250_245 := bm_ BK245 hg; replace BK236 := bb_ BK236 hb; replace BK237 := bb_ BK237 hb; replace BK245 := bb_ BK245 hb; replace HB := bs_ w hb; clear hb hg; replace hn250_236 := NB250_236.out; replace hn236_250 := NB236_250.out; replace hn250_237 := NB250_237.out; replace hn237_250 := NB237_250.out; replace hn250_245 := NB250_245.out; replace hn245_250 := NB245_250.out; replace hc250 := ce2_ BK250; replace hc236 := ce6_ BK236) | ((with_reducible refine gate_callee (f := 58) rfl ?_); (try refine ug_ (by rfl) ?_); refine goesA_ (some 48) Try.func58 #[.agg #[.int .u64 t246, .int .u64 t247]] ?_; (with_reducible refine (wide_Small.calls t246 t247 t251 t252 _ A13.out).mono ?_); rintro e w65 ⟨rfl, hb⟩; refine ⟨_, rfl, ?_⟩; replace BK236 := Aside0.mk (blk_below (g := gb236) (o := .cells #[.int .i64 a0_0, .int .i64 a0_1, .int .i64 a0_2, .int .i64 a0_3, .int .i64 a0_4, .int .u64 a1] 51 (0, 0)) (blk_put (cs := #[.int .i64 a0_0, .int .i64 a0_1, .int .i64 a0_2, .int .i64 a0_3, .int .i64 a0_4, .int .u64 a0_5]) (bt_ BK236) 5 _ rfl) hb); replace BK237 := bf_ BK237 hb; replace BK245 := bf_ BK245 hb; replace BK250 := Aside0.mk (blk_below (g := gb250) (o := .cells #[.int .u64 t246, .int .u64 t247] 92 (0, 0)) (blk_far (bp2_ (bq_ BK250)) NB250_236.out _) hb); replace HB := bs_ w hb; clear hb; replace hc236 := ce6_ BK236; replace hc237 := ce6_ BK237))
    refine bodyPost_ret (results_cell_row rfl _ _ gb237 51 #[.int .i64 a0_0, .int .i64 a0_1, .int .i64 a0_2, .int .i64 (wrap64 (a0_3 + (wrap64 (t251)))), .int .i64 (wrap64 (t248)), .int .u64 a1] (0, 0) _ rfl (bp6_ (bt_ BK237)) Try.underlying51 rfl (by kernel_rfl)) rfl ?_
    exact fi_
  ·rw [if_neg c14] at H
   have c14b0 : (t252 == 0) = false := beq_eq_false_iff_ne.mpr c14
   have c14b1 : (t252 != 0) = true := bne_iff_ne.mpr c14
   simp only [Option.some.injEq, Prod.mk.injEq] at H
   obtain ⟨rfl, rfl, rfl, rfl, rfl, rfl⟩ := H
   go_enter Try.func42, Try.ntmps42
   try go_wp2_with (first | ((with_reducible refine gate_dst (N := 2) rfl ?_); (try refine ug_ (by rfl) ?_); refine bx_ #[.int .i64 a0_0, .int .i64 a0_1, .int .i64 a0_2, .int .i64 a0_3, .int .i64 a0_4, .int .u64 a0_5] 51 ?_; intro gb236 hg w68 BK236 hb; have GW236 := bz_ w hg; have GE236 := GW236; replace HB := bs_ w hb; clear hb hg) | ((with_reducible refine gate_dst (N := 4) rfl ?_); (try refine ug_ (by rfl) ?_); refine bx_ #[.int .i64 0, .int .i64 0, .int .i64 0, .int .i64 0, .int .i64 0, .int .u64 0] 51 ?_; intro gb237 hg w69 BK237 hb; have GW237 := bz_ w hg; have GE237 := GW237; have NB236_237 := bn_ BK236 hg; have NB237_236 := bm_ BK236 hg; replace BK236 := bb_ BK236 hb; replace HB := bs_ w hb; clear hb hg; replace hn236_237 := NB236_237.out; replace hn237_236 := NB237_236.out; replace hc236 := ce6_ BK236))
   replace BK236 := Aside0.mk (blk_drew BK236.out)
   replace BK237 := Aside0.mk (blk_drew BK237.out)
   replace HB := Aside0.mk (below_drew1 HB.out)
   refine start_ (n := 20) (S := fun w' => w'.cell? ⟨gb236, 0, none⟩ = some (.int .i64 a0_0) ∧ w'.cell? ⟨gb236, 1, none⟩ = some (.int .i64 a0_1) ∧ w'.cell? ⟨gb236, 2, none⟩ = some (.int .i64 a0_2) ∧ w'.cell? ⟨gb236, 3, none⟩ = some (.int .i64 a0_3) ∧ w'.cell? ⟨gb236, 4, none⟩ = some (.int .i64 a0_4) ∧ w'.cell? ⟨gb236, 5, none⟩ = some (.int .u64 a0_5)) (ds := []) (bl_ 20 0) (by kernel_rfl) rfl (by kernel_rfl) (cc6_ BK236) (fun hHeld => ?_); refine with_tabW bucket_fill.tab3 bucket_fill.bits3 (fun HT_ HW_ => ?_)
   generalize w69.drew = w72 at BK236 BK237 HB hHeld ⊢
   refine pa_ 0 (some 18) (bl_ 20 1) HT_ ?_
   refine pa_ 1 (some 19) (bl_ 20 3) HT_ ?_
   refine pa_ 4 (some 22) (bl_ 20 19) HT_ ?_
   refine pa_ 5 (some 23) (bl_ 20 51) HT_ ?_
   refine pa_ 9 (some 27) (bl_ 20 563) HT_ ?_
   refine ta_ 2 (some 20) (bl_ 20 567) HT_ HW_ hHeld ?_
   refine pa_ 3 (some 21) (bl_ 20 575) HT_ ?_
   refine ta_ 6 (some 24) (bl_ 20 639) HT_ HW_ hHeld ?_
   refine pa_ 7 (some 25) (bl_ 20 767) HT_ ?_
   refine ta_ 10 (some 28) (bl_ 20 1791) HT_ HW_ hHeld ?_
   refine pa_ 11 (some 29) (bl_ 20 3839) HT_ ?_
   refine join_ (σ := Nat) 2 (bl_ 20 262143) (fun s_ => [(26, .agg #[.int .u64 t238, .int .u64 t239]), (30, .agg #[.int .u64 t240, .int .u64 t241]), (31, .tuple #[.agg #[.int .u64 t242, .int .u64 t243], .int .i64 t244]), (5, .pointer (some ⟨s_, 0, none⟩)), (17, .tuple #[.agg #[.int .u64 t242, .int .u64 t243], .int .i64 t244]), (32, .agg #[.int .u64 t242, .int .u64 t243]), (33, .int .i64 t244)]) (fun s_ w' => (w'.cell? ⟨gb236, 0, none⟩ = some (.int .i64 a0_0) ∧ w'.cell? ⟨gb236, 1, none⟩ = some (.int .i64 a0_1) ∧ w'.cell? ⟨gb236, 2, none⟩ = some (.int .i64 a0_2) ∧ w'.cell? ⟨gb236, 3, none⟩ = some (.int .i64 a0_3) ∧ w'.cell? ⟨gb236, 4, none⟩ = some (.int .i64 a0_4) ∧ w'.cell? ⟨gb236, 5, none⟩ = some (.int .u64 a0_5)) ∧ (w'.heap[gb236]? = some (.cells #[.int .i64 a0_0, .int .i64 a0_1, .int .i64 a0_2, .int .i64 a0_3, .int .i64 a0_4, .int .u64 a0_5] 51 (0, 0))) ∧ (w'.heap[gb237]? = some (.cells #[.int .i64 0, .int .i64 0, .int .i64 0, .int .i64 0, .int .i64 0, .int .u64 0] 51 (0, 0))) ∧ (w'.heap[s_]? = some (.cells #[.int .u64 0, .int .u64 0] 92 (0, 0))) ∧ (w.heap.size ≤ s_) ∧ (w.heap.size ≤ s_) ∧ (gb236 ≠ s_) ∧ (s_ ≠ gb236) ∧ (gb237 ≠ s_) ∧ (s_ ≠ gb237) ∧ (Below w.heap.size w w')) ?_ ?_
   rotate_left
   ·intro hCont
    refine tw_ 8 17 (some 26) (some 5) (bl_ 20 4095) (bl_ 20 134911) HT_ (fun K hK => ?_) fun K hK => ?_
    ·refine goesB_ Try.func49 #[.int .u64 (IntKind.u64.wrap (a1 - a0_5)), .int .u64 (IntKind.u64.wrap (a0_1))] ?_
     with_reducible refine (wide_Mul.calls (IntKind.u64.wrap (a1 - a0_5)) (IntKind.u64.wrap (a0_1)) t238 t239 _ A9.out).mono ?_
     rintro e w73 ⟨rfl, hb⟩
     refine ⟨_, rfl, ?_⟩
     replace BK236 := bb_ BK236 hb
     replace BK237 := bb_ BK237 hb
     replace HB := bs_ w hb
     clear hb
     refine hK.out _ _ (cc6_ BK236) (fun hHeld => ?_)
     clear hK K
     refine nm_ (some 26) ?_
     refine tw_ 12 17 (some 30) (some 5) (bl_ 20 8191) (bl_ 20 135167) HT_ (fun K hK => ?_) fun K hK => ?_
     ·refine goesB_ Try.func51 #[.int .u64 (IntKind.u64.wrap (a0_4))] ?_
      with_reducible refine (wide_Of.calls (IntKind.u64.wrap (a0_4)) t240 t241 _ A10.out).mono ?_
      rintro e w74 ⟨rfl, hb⟩
      refine ⟨_, rfl, ?_⟩
      replace BK236 := bb_ BK236 hb
      replace BK237 := bb_ BK237 hb
      replace HB := bs_ w hb
      clear hb
      refine hK.out _ _ (cc6_ BK236) (fun hHeld => ?_)
      clear hK K
      refine nm_ (some 30) ?_
      refine tw_ 13 17 (some 31) (some 5) (bl_ 20 16383) (bl_ 20 139263) HT_ (fun K hK => ?_) fun K hK => ?_
      ·refine goesB_ Try.func57 #[.agg #[.int .u64 t238, .int .u64 t239], .agg #[.int .u64 t240, .int .u64 t241]] ?_
       with_reducible refine (wide_Add.calls t238 t239 t240 t241 t242 t243 t244 _ A11.out).mono ?_
       rintro e w75 ⟨rfl, hb⟩
       refine ⟨_, rfl, ?_⟩
       replace BK236 := bb_ BK236 hb
       replace BK237 := bb_ BK237 hb
       replace HB := bs_ w hb
       clear hb
       refine hK.out _ _ (cc6_ BK236) (fun hHeld => ?_)
       clear hK K
       refine nm_ (some 31) ?_
       refine pa_ 14 (some 17) (bl_ 20 32767) HT_ ?_
       refine pa_ 15 (some 32) (bl_ 20 65535) HT_ ?_
       refine pa_ 16 (some 33) (bl_ 20 131071) HT_ ?_
       refine oa_ 17 (some 5) (bl_ 20 262143) HT_ fun K hK => ?_
       refine bs2_ #[.int .u64 0, .int .u64 0] 92 ?_
       intro gb245 hg w76 BK245 hb
       have GW245 := bz_ w hg
       have GE245 := GW245
       have NB236_245 := bn_ BK236 hg
       have NB245_236 := bm_ BK236 hg
       have NB237_245 := bn_ BK237 hg
       have NB245_237 := bm_ BK237 hg
       replace BK236 := bb_ BK236 hb
       replace BK237 := bb_ BK237 hb
       replace HB := bs_ w hb
       clear hb hg
       refine hK.out _ _ (cc6_ BK236) (fun hHeld => ?_)
       clear hK K
       refine nm_ (some 5) ?_
       exact no_ (hCont (gb245) _ ⟨hHeld, (bq_ BK236), (bq_ BK237), (bq_ BK245), GW245.out, GE245.out, NB236_245.out, NB245_236.out, NB237_245.out, NB245_237.out, bh_⟩)
      ·refine bs2_ #[.int .u64 0, .int .u64 0] 92 ?_
       intro gb245 hg w75 BK245 hb
       have GW245 := bz_ w hg
       have GE245 := GW245
       have NB236_245 := bn_ BK236 hg
       have NB245_236 := bm_ BK236 hg
       have NB237_245 := bn_ BK237 hg
       have NB245_237 := bm_ BK237 hg
       replace BK236 := bb_ BK236 hb
       replace BK237 := bb_ BK237 hb
       replace HB := bs_ w hb
       clear hb hg
       refine hK.out _ _ (cc6_ BK236) (fun hHeld => ?_)
       clear hK K
       refine nm_ (some 5) ?_
       refine oa_ 13 (some 31) (bl_ 20 147455) HT_ fun K hK => ?_
       refine goesB_ Try.func57 #[.agg #[.int .u64 t238, .int .u64 t239], .agg #[.int .u64 t240, .int .u64 t241]] ?_
       with_reducible refine (wide_Add.calls t238 t239 t240 t241 t242 t243 t244 _ A11.out).mono ?_
       rintro e w76 ⟨rfl, hb⟩
       refine ⟨_, rfl, ?_⟩
       replace BK236 := bb_ BK236 hb
       replace BK237 := bb_ BK237 hb
       replace BK245 := bb_ BK245 hb
       replace HB := bs_ w hb
       clear hb
       refine hK.out _ _ (cc6_ BK236) (fun hHeld => ?_)
       clear hK K
       refine nm_ (some 31) ?_
       refine pa_ 14 (some 17) (bl_ 20 163839) HT_ ?_
       refine pa_ 15 (some 32) (bl_ 20 196607) HT_ ?_
       refine pa_ 16 (some 33) (bl_ 20 262143) HT_ ?_
       exact no_ (hCont (gb245) _ ⟨hHeld, (bq_ BK236), (bq_ BK237), (bq_ BK245), GW245.out, GE245.out, NB236_245.out, NB245_236.out, NB237_245.out, NB245_237.out, bh_⟩)
     ·refine bs2_ #[.int .u64 0, .int .u64 0] 92 ?_
      intro gb245 hg w74 BK245 hb
      have GW245 := bz_ w hg
      have GE245 := GW245
      have NB236_245 := bn_ BK236 hg
      have NB245_236 := bm_ BK236 hg
      have NB237_245 := bn_ BK237 hg
      have NB245_237 := bm_ BK237 hg
      replace BK236 := bb_ BK236 hb
      replace BK237 := bb_ BK237 hb
      replace HB := bs_ w hb
      clear hb hg
      refine hK.out _ _ (cc6_ BK236) (fun hHeld => ?_)
      clear hK K
      refine nm_ (some 5) ?_
      refine oa_ 12 (some 30) (bl_ 20 139263) HT_ fun K hK => ?_
      refine goesB_ Try.func51 #[.int .u64 (IntKind.u64.wrap (a0_4))] ?_
      with_reducible refine (wide_Of.calls (IntKind.u64.wrap (a0_4)) t240 t241 _ A10.out).mono ?_
      rintro e w75 ⟨rfl, hb⟩
      refine ⟨_, rfl, ?_⟩
      replace BK236 := bb_ BK236 hb
      replace BK237 := bb_ BK237 hb
      replace BK245 := bb_ BK245 hb
      replace HB := bs_ w hb
      clear hb
      refine hK.out _ _ (cc6_ BK236) (fun hHeld => ?_)
      clear hK K
      refine nm_ (some 30) ?_
      refine oa_ 13 (some 31) (bl_ 20 147455) HT_ fun K hK => ?_
      refine goesB_ Try.func57 #[.agg #[.int .u64 t238, .int .u64 t239], .agg #[.int .u64 t240, .int .u64 t241]] ?_
      with_reducible refine (wide_Add.calls t238 t239 t240 t241 t242 t243 t244 _ A11.out).mono ?_
      rintro e w76 ⟨rfl, hb⟩
      refine ⟨_, rfl, ?_⟩
      replace BK236 := bb_ BK236 hb
      replace BK237 := bb_ BK237 hb
      replace BK245 := bb_ BK245 hb
      replace HB := bs_ w hb
      clear hb
      refine hK.out _ _ (cc6_ BK236) (fun hHeld => ?_)
      clear hK K
      refine nm_ (some 31) ?_
      refine pa_ 14 (some 17) (bl_ 20 163839) HT_ ?_
      refine pa_ 15 (some 32) (bl_ 20 196607) HT_ ?_
      refine pa_ 16 (some 33) (bl_ 20 262143) HT_ ?_
      exact no_ (hCont (gb245) _ ⟨hHeld, (bq_ BK236), (bq_ BK237), (bq_ BK245), GW245.out, GE245.out, NB236_245.out, NB245_236.out, NB237_245.out, NB245_237.out, bh_⟩)
    ·refine bs2_ #[.int .u64 0, .int .u64 0] 92 ?_
     intro gb245 hg w73 BK245 hb
     have GW245 := bz_ w hg
     have GE245 := GW245
     have NB236_245 := bn_ BK236 hg
     have NB245_236 := bm_ BK236 hg
     have NB237_245 := bn_ BK237 hg
     have NB245_237 := bm_ BK237 hg
     replace BK236 := bb_ BK236 hb
     replace BK237 := bb_ BK237 hb
     replace HB := bs_ w hb
     clear hb hg
     refine hK.out _ _ (cc6_ BK236) (fun hHeld => ?_)
     clear hK K
     refine nm_ (some 5) ?_
     refine oa_ 8 (some 26) (bl_ 20 135167) HT_ fun K hK => ?_
     refine goesB_ Try.func49 #[.int .u64 (IntKind.u64.wrap (a1 - a0_5)), .int .u64 (IntKind.u64.wrap (a0_1))] ?_
     with_reducible refine (wide_Mul.calls (IntKind.u64.wrap (a1 - a0_5)) (IntKind.u64.wrap (a0_1)) t238 t239 _ A9.out).mono ?_
     rintro e w74 ⟨rfl, hb⟩
     refine ⟨_, rfl, ?_⟩
     replace BK236 := bb_ BK236 hb
     replace BK237 := bb_ BK237 hb
     replace BK245 := bb_ BK245 hb
     replace HB := bs_ w hb
     clear hb
     refine hK.out _ _ (cc6_ BK236) (fun hHeld => ?_)
     clear hK K
     refine nm_ (some 26) ?_
     refine oa_ 12 (some 30) (bl_ 20 139263) HT_ fun K hK => ?_
     refine goesB_ Try.func51 #[.int .u64 (IntKind.u64.wrap (a0_4))] ?_
     with_reducible refine (wide_Of.calls (IntKind.u64.wrap (a0_4)) t240 t241 _ A10.out).mono ?_
     rintro e w75 ⟨rfl, hb⟩
     refine ⟨_, rfl, ?_⟩
     replace BK236 := bb_ BK236 hb
     replace BK237 := bb_ BK237 hb
     replace BK245 := bb_ BK245 hb
     replace HB := bs_ w hb
     clear hb
     refine hK.out _ _ (cc6_ BK236) (fun hHeld => ?_)
     clear hK K
     refine nm_ (some 30) ?_
     refine oa_ 13 (some 31) (bl_ 20 147455) HT_ fun K hK => ?_
     refine goesB_ Try.func57 #[.agg #[.int .u64 t238, .int .u64 t239], .agg #[.int .u64 t240, .int .u64 t241]] ?_
     with_reducible refine (wide_Add.calls t238 t239 t240 t241 t242 t243 t244 _ A11.out).mono ?_
     rintro e w76 ⟨rfl, hb⟩
     refine ⟨_, rfl, ?_⟩
     replace BK236 := bb_ BK236 hb
     replace BK237 := bb_ BK237 hb
     replace BK245 := bb_ BK245 hb
     replace HB := bs_ w hb
     clear hb
     refine hK.out _ _ (cc6_ BK236) (fun hHeld => ?_)
     clear hK K
     refine nm_ (some 31) ?_
     refine pa_ 14 (some 17) (bl_ 20 163839) HT_ ?_
     refine pa_ 15 (some 32) (bl_ 20 196607) HT_ ?_
     refine pa_ 16 (some 33) (bl_ 20 262143) HT_ ?_
     exact no_ (hCont (gb245) _ ⟨hHeld, (bq_ BK236), (bq_ BK237), (bq_ BK245), GW245.out, GE245.out, NB236_245.out, NB245_236.out, NB237_245.out, NB245_237.out, bh_⟩)
   rintro gb245 w77 ⟨hS_, h0_, h1_, h2_, h3_, h4_, h5_, h6_, h7_, h8_, h9_⟩
   have BK245 := Aside0.mk h2_
   have GW245 := Aside0.mk h3_
   have GE245 := Aside0.mk h4_
   have NB236_245 := Aside0.mk h5_
   have NB245_236 := Aside0.mk h6_
   have NB237_245 := Aside0.mk h7_
   have NB245_237 := Aside0.mk h8_
   replace BK236 := Aside0.mk h0_
   replace BK237 := Aside0.mk h1_
   replace HB := Aside0.mk h9_
   clear h0_ h1_ h2_ h3_ h4_ h5_ h6_ h7_ h8_ h9_
   have hHeld := hS_
   refine nq_ ?_
   refine oa_ 18 none (bl_ 20 524287) HT_ fun K hK => ?_
   have hs78 : w77.cell? ⟨gb245, 0, none⟩ = some (.int .u64 0) := (blk_cell BK245.out 0).trans rfl
   have hfs78 := blk_frozen BK245.out 0
   have hns78_0 := NB236_245.out
   have hns78_1 := NB237_245.out
   have hms78_0 := NB245_236.out
   have hms78_1 := NB245_237.out
   have hs79 : w77.cell? ⟨gb245, 1, none⟩ = some (.int .u64 0) := (blk_cell BK245.out 1).trans rfl
   have hfs79 := blk_frozen BK245.out 1
   have hns79_0 := NB236_245.out
   have hns79_1 := NB237_245.out
   have hms79_0 := NB245_236.out
   have hms79_1 := NB245_237.out
   refine sk_ ?_
   refine hK.out _ _ (cf6_ hHeld) (fun hHeld => ?_)
   clear hK K
   refine pa_ 19 (some 6) (bl_ 20 1048575) HT_ ?_
   refine done_ (done_of HT_.out (by kernel_rfl)) ?_
   replace hn245_236 := NB245_236.out
   replace hn236_245 := NB236_245.out
   replace hn245_237 := NB245_237.out
   replace hn237_245 := NB237_245.out
   replace hc245 := ce2_ BK245
   replace hc236 := ce6_ BK236
   try go_wp2_with (first | ((with_reducible refine gate_callee (f := 48) rfl ?_); (try refine ug_ (by rfl) ?_); refine goesA_ (some 40) Try.func48 #[.agg #[.int .u64 t242, .int .u64 t243], .int .u64 (IntKind.u64.wrap (a0_2))] ?_; (with_reducible refine (wide_Div.calls k t242 t243 (IntKind.u64.wrap (a0_2)) t246 t247 t248 t249 _ A12.out).mono ?_); rintro e w84 ⟨rfl, hb⟩; refine ⟨_, rfl, ?_⟩; replace BK236 := bf_ BK236 hb; replace BK237 := bf_ BK237 hb; replace BK245 := Aside0.mk (blk_below (g := gb245) (o := .cells #[.int .u64 t242, .int .u64 t243] 92 (0, 0)) (bp2_ (bq_ BK245)) hb); replace HB := bs_ w hb; clear hb) | ((with_reducible refine gate_dst (N := 7) rfl ?_); (try refine ug_ (by rfl) ?_); refine bx_ #[.int .u64 0, .int .u64 0] 92 ?_; intro gb250 hg w85 BK250 hb; have GW250 := bz_ w hg; have GE250 := GW250; have NB236_250 := bn_ BK236 hg; have NB250_236 := bm_ BK236 hg; have NB237_250 := bn_ BK237 hg; have NB250_237 := bm_ BK237 hg; have NB245_250 := bn_ BK245 hg; have NB250_245 := bm_ BK245 hg; replace BK236 := bb_ BK236 hb; replace BK237 := bb_ BK237 hb; replace BK245 := bb_ BK245 hb; replace HB := bs_ w hb; clear hb hg; replace hn250_236 := NB250_236.out; replace hn236_250 := NB236_250.out; replace hn250_237 := NB250_237.out; replace hn237_250 := NB237_250.out; replace hn250_245 := NB250_245.out; replace hn245_250 := NB245_250.out; replace hc250 := ce2_ BK250; replace hc236 := ce6_ BK236) | ((with_reducible refine gate_callee (f := 58) rfl ?_); (try refine ug_ (by rfl) ?_); refine goesA_ (some 48) Try.func58 #[.agg #[.int .u64 t246, .int .u64 t247]] ?_; (with_reducible refine (wide_Small.calls t246 t247 t251 t252 _ A13.out).mono ?_); rintro e w91 ⟨rfl, hb⟩; refine ⟨_, rfl, ?_⟩; replace BK236 := Aside0.mk (blk_below (g := gb236) (o := .cells #[.int .i64 a0_0, .int .i64 a0_1, .int .i64 a0_2, .int .i64 a0_3, .int .i64 a0_4, .int .u64 a1] 51 (0, 0)) (blk_put (cs := #[.int .i64 a0_0, .int .i64 a0_1, .int .i64 a0_2, .int .i64 a0_3, .int .i64 a0_4, .int .u64 a0_5]) (bt_ BK236) 5 _ rfl) hb); replace BK237 := bf_ BK237 hb; replace BK245 := bf_ BK245 hb; replace BK250 := Aside0.mk (blk_below (g := gb250) (o := .cells #[.int .u64 t246, .int .u64 t247] 92 (0, 0)) (blk_far (bp2_ (bq_ BK250)) NB250_236.out _) hb); replace HB := bs_ w hb; clear hb; replace hc236 := ce6_ BK236; replace hc237 := ce6_ BK237))
   refine bodyPost_ret (results_cell_row rfl _ _ gb237 51 #[.int .i64 a0_0, .int .i64 a0_1, .int .i64 a0_2, .int .i64 a0_0, .int .i64 0, .int .u64 a1] (0, 0) _ rfl (bp6_ (bt_ BK237)) Try.underlying51 rfl (by kernel_rfl)) rfl ?_
   exact fi_

end Go.Proofs.Ytimhghmfhfggoaa.X
