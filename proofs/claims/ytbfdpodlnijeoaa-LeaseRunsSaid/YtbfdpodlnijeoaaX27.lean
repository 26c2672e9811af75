-- written by xprint.py, a program of this session over the kit's print
import Derived.Test.YtbfdpodlnijeoaaX0
import Derived.Test.YtbfdpodlnijeoaaX24
import Derived.Test.YtbfdpodlnijeoaaX25
import Derived.Test.YtbfdpodlnijeoaaX26
namespace Go.Proofs.Ytbfdpodlnijeoaa.X
open Go.RowKit Go.Proofs.YtbfdpodlnijeoaaW.PrintWords Go.Proofs.YtbfdpodlnijeoaaW.PrintLast Go.Proofs.YtbfdpodlnijeoaaW.PrintMore
attribute [local go_sem] max2_int min2_int max_two min_two max_three min_three max_four min_four   -- for this text's walks alone
set_option linter.unusedVariables false
set_option linter.unusedSimpArgs false

/-! ### spigotref03_Filled: function 33 -/
def spigotref03_Filled.f (k : Nat) (a0_0 : Int) (a0_1 : Int) (a0_2 : Int) (a0_3 : Int) (a0_4 : Int) (a0_5 : Int) (a1 : Int) : Option (Int × Int × Int × Int × Int × Int) := if a1 < a0_5 then (some (a0_0, a0_1, a0_2, a0_3, a0_4, a0_5)) else ((spigotref01_Mul.f (IntKind.u64.wrap (a1 - a0_5)) (IntKind.u64.wrap (a0_1))).bind fun bt392 => ((spigotref01_Add.f bt392.1 bt392.2 0 (IntKind.u64.wrap (a0_4))).bind fun bt394 => ((spigotref01_Div.f k bt394.1 bt394.2.1 (IntKind.u64.wrap (a0_2))).bind fun bt398 => ((spigotref01_Cmp.f k bt398.1 bt398.2.1 0 (IntKind.u64.wrap (wrap64 (a0_0 - a0_3)))).bind fun t403 => (if t403 ≥ 0 then (some (a0_0, a0_1, a0_2, a0_0, 0, a1)) else (some (a0_0, a0_1, a0_2, wrap64 (a0_3 + (wrap64 (bt398.2.1))), wrap64 (bt398.2.2.1), a1)))))))
theorem spigotref03_Filled.mono : ∀ a0 a1 a2 a3 a4 a5 a6 k, LeO (spigotref03_Filled.f k a0 a1 a2 a3 a4 a5 a6) (spigotref03_Filled.f (k + 1) a0 a1 a2 a3 a4 a5 a6) := by
  intro a0 a1 a2 a3 a4 a5 a6 k
  unfold spigotref03_Filled.f
  repeat' first
      | (with_reducible exact spigotref01_Cmp.mono _ _ _ _ _)
      | (with_reducible exact spigotref01_Div.mono _ _ _ _)
      | (with_reducible exact LeO.refl _)
      | (with_reducible exact LeO.none _)
      | (with_reducible refine LeO.ite ?_ ?_)
      | (with_reducible refine LeO.bind ?_ (fun _ => ?_))
      | exact spigotref01_Cmp.mono _ _ _ _ _
      | exact spigotref01_Div.mono _ _ _ _
      | exact LeO.none _
      | refine LeO.ite ?_ ?_
      | refine LeO.bind ?_ (fun _ => ?_)
def spigotref03_Filled.T3 : Bool × List (List Nat × List Nat) := (true, [([], []), ([], []), ([1], [1]), ([0, 2], [0, 2]), ([], []), ([4], [4]), ([5], [5]), ([6], [6]), ([3, 7], [3, 7]), ([], []), ([9], [9]), ([10], [10]), ([11], [11]), ([8, 12, 8], [8, 12]), ([13], [13]), ([14], [14]), ([14], [14]), ([], []), ([17, 15, 13, 0, 1, 2, 3, 4, 5, 6, 7, 8, 9, 10, 11, 12, 13, 14, 15, 17], [15, 17]), ([16, 18, 0, 1, 2, 3, 4, 5, 6, 7, 8, 9, 10, 11, 12, 13, 14, 15, 16, 17, 18], [16])])
def spigotref03_Filled.B3 : List Nat := [0, 0, 2, 7, 0, 16, 48, 112, 255, 0, 512, 1536, 3584, 8191, 16383, 32767, 32767, 0, 196607, 524287]
theorem spigotref03_Filled.tab3 : rtab .any (opsOf Try.f33 3) = spigotref03_Filled.T3 := by kernel_rfl
theorem spigotref03_Filled.bits3 : waitsOk spigotref03_Filled.T3.2 spigotref03_Filled.B3 = true := by kernel_rfl
set_option maxHeartbeats 8000000 in
set_option maxRecDepth 100000 in
theorem spigotref03_Filled.calls (k : Nat) (a0_0 : Int) (a0_1 : Int) (a0_2 : Int) (a0_3 : Int) (a0_4 : Int) (a0_5 : Int) (a1 : Int) (r1 : Int) (r2 : Int) (r3 : Int) (r4 : Int) (r5 : Int) (r6 : Int) (w : World) (h : spigotref03_Filled.f k a0_0 a0_1 a0_2 a0_3 a0_4 a0_5 a1 = some (r1, r2, r3, r4, r5, r6)) :
  Calls Try.prog 33 #[.agg #[.int .i64 a0_0, .int .i64 a0_1, .int .i64 a0_2, .int .i64 a0_3, .int .i64 a0_4, .int .u64 a0_5], .int .u64 a1] w fun e w' => e = .returned (.agg #[.int .i64 r1, .int .i64 r2, .int .i64 r3, .int .i64 r4, .int .i64 r5, .int .u64 r6]) ∧ Below w.heap.size w w' := by
 have hu26 := Try.underlying26
 have hu82 := Try.underlying82
 have HB := Aside0.mk (Below.refl w.heap.size w)
 have H : (if a1 < a0_5 then (some (a0_0, a0_1, a0_2, a0_3, a0_4, a0_5)) else ((spigotref01_Mul.f (IntKind.u64.wrap (a1 - a0_5)) (IntKind.u64.wrap (a0_1))).bind fun bt392 => ((spigotref01_Add.f bt392.1 bt392.2 0 (IntKind.u64.wrap (a0_4))).bind fun bt394 => ((spigotref01_Div.f k bt394.1 bt394.2.1 (IntKind.u64.wrap (a0_2))).bind fun bt398 => ((spigotref01_Cmp.f k bt398.1 bt398.2.1 0 (IntKind.u64.wrap (wrap64 (a0_0 - a0_3)))).bind fun t403 => (if t403 ≥ 0 then (some (a0_0, a0_1, a0_2, a0_0, 0, a1)) else (some (a0_0, a0_1, a0_2, wrap64 (a0_3 + (wrap64 (bt398.2.1))), wrap64 (bt398.2.2.1), a1)))))))) = some (r1, r2, r3, r4, r5, r6) := h
 clear h
 by_cases c3 : a1 < a0_5
 ·rw [if_pos c3] at H
  have c3b0 : decide (a1 < a0_5) = true := decide_eq_true c3
  clear c3
  simp only [Option.some.injEq, Prod.mk.injEq] at H
  obtain ⟨rfl, rfl, rfl, rfl, rfl, rfl⟩ := H
  go_enter Try.func33, Try.ntmps33
  go_wp2_with (first | ((with_reducible refine gate_dst (N := 2) rfl ?_); refine bx_ #[.int .i64 a0_0, .int .i64 a0_1, .int .i64 a0_2, .int .i64 a0_3, .int .i64 a0_4, .int .u64 a0_5] 26 ?_; intro gb390 hg w4 BK390 hb; have GW390 := bz_ w hg; have GE390 := GW390; replace HB := bs_ w hb; clear hb hg) | ((with_reducible refine gate_dst (N := 4) rfl ?_); refine bx_ #[.int .i64 0, .int .i64 0, .int .i64 0, .int .i64 0, .int .i64 0, .int .u64 0] 26 ?_; intro gb391 hg w5 BK391 hb; have GW391 := bz_ w hg; have GE391 := GW391; have NB390_391 := bn_ BK390 hg; have NB391_390 := bm_ BK390 hg; replace BK390 := bb_ BK390 hb; replace HB := bs_ w hb; clear hb hg; replace hn390_391 := NB390_391.out; replace hn391_390 := NB391_390.out; replace hc390 := ce6_ BK390; replace hc391 := ce6_ BK391))
  refine bodyPost_ret (results_cell_row rfl _ _ gb391 26 #[.int .i64 a0_0, .int .i64 a0_1, .int .i64 a0_2, .int .i64 a0_3, .int .i64 a0_4, .int .u64 a0_5] (0, 0) _ rfl (bp6_ (bq_ BK391)) Try.underlying26 rfl (by kernel_rfl)) rfl ?_
  exact fi_
 ·rw [if_neg c3] at H
  have c3b0 : decide (a1 < a0_5) = false := decide_eq_false c3
  clear c3
  obtain ⟨⟨t392, t393⟩, A9, H⟩ := bo_ H
  try dsimp only at H
  obtain ⟨⟨t394, t395, t396⟩, A10, H⟩ := bo_ H
  try dsimp only at H
  obtain ⟨⟨t398, t399, t400, t401⟩, A11, H⟩ := bo_ H
  try dsimp only at H
  obtain ⟨t403, A12, H⟩ := bo_ H
  try dsimp only at H
  by_cases c13 : t403 ≥ 0
  ·rw [if_pos c13] at H
   have c13b0 : decide (0 ≤ t403) = true := decide_eq_true c13
   clear c13
   simp only [Option.some.injEq, Prod.mk.injEq] at H
   obtain ⟨rfl, rfl, rfl, rfl, rfl, rfl⟩ := H
   go_enter Try.func33, Try.ntmps33
   try go_wp2_with (first | ((with_reducible refine gate_dst (N := 2) rfl ?_); refine bx_ #[.int .i64 a0_0, .int .i64 a0_1, .int .i64 a0_2, .int .i64 a0_3, .int .i64 a0_4, .int .u64 a0_5] 26 ?_; intro gb390 hg w14 BK390 hb; have GW390 := bz_ w hg; have GE390 := GW390; replace HB := bs_ w hb; clear hb hg) | ((with_reducible refine gate_dst (N := 4) rfl ?_); refine bx_ #[.int .i64 0, .int .i64 0, .int .i64 0, .int .i64 0, .int .i64 0, .int .u64 0] 26 ?_; intro gb391 hg w15 BK391 hb; have GW391 := bz_ w hg; have GE391 := GW391; have NB390_391 := bn_ BK390 hg; have NB391_390 := bm_ BK390 hg; replace BK390 := bb_ BK390 hb; replace HB := bs_ w hb; clear hb hg; replace hn390_391 := NB390_391.out; replace hn391_390 := NB391_390.out; replace hc390 := ce6_ BK390))
   replace BK390 := Aside0.mk (blk_drew BK390.out)
   replace BK391 := Aside0.mk (blk_drew BK391.out)
   replace HB := Aside0.mk (below_drew1 HB.out)
   refine start_ (n := 20) (S := fun w' => w'.cell? ⟨gb390, 0, none⟩ = some (.int .i64 a0_0) ∧ w'.cell? ⟨gb390, 1, none⟩ = some (.int .i64 a0_1) ∧ w'.cell? ⟨gb390, 2, none⟩ = some (.int .i64 a0_2) ∧ w'.cell? ⟨gb390, 3, none⟩ = some (.int .i64 a0_3) ∧ w'.cell? ⟨gb390, 4, none⟩ = some (.int .i64 a0_4) ∧ w'.cell? ⟨gb390, 5, none⟩ = some (.int .u64 a0_5)) (ds := []) (bl_ 20 0) (by kernel_rfl) rfl (by kernel_rfl) (cc6_ BK390) (fun hHeld => ?_); refine with_tabW spigotref03_Filled.tab3 spigotref03_Filled.bits3 (fun HT_ HW_ => ?_)
   generalize w15.drew = w18 at BK390 BK391 HB hHeld ⊢
   refine pa_ 0 (some 16) (bl_ 20 1) HT_ ?_
   refine pa_ 1 (some 17) (bl_ 20 3) HT_ ?_
   refine pa_ 4 (some 20) (bl_ 20 19) HT_ ?_
   refine pa_ 5 (some 21) (bl_ 20 51) HT_ ?_
   refine pa_ 9 (some 25) (bl_ 20 563) HT_ ?_
   refine ta_ 2 (some 18) (bl_ 20 567) HT_ HW_ hHeld ?_
   refine pa_ 3 (some 19) (bl_ 20 575) HT_ ?_
   refine ta_ 6 (some 22) (bl_ 20 639) HT_ HW_ hHeld ?_
   refine pa_ 7 (some 23) (bl_ 20 767) HT_ ?_
   refine ta_ 10 (some 26) (bl_ 20 1791) HT_ HW_ hHeld ?_
   refine pa_ 11 (some 27) (bl_ 20 3839) HT_ ?_
   refine pa_ 12 (some 28) (bl_ 20 7935) HT_ ?_
   refine join_ (σ := Nat) 2 (bl_ 20 262143) (fun s_ => [(24, .agg #[.int .u64 t392, .int .u64 t393]), (29, .tuple #[.agg #[.int .u64 t394, .int .u64 t395], .int .i64 t396]), (5, .pointer (some ⟨s_, 0, none⟩)), (15, .tuple #[.agg #[.int .u64 t394, .int .u64 t395], .int .i64 t396]), (30, .agg #[.int .u64 t394, .int .u64 t395]), (31, .int .i64 t396)]) (fun s_ w' => (w'.cell? ⟨gb390, 0, none⟩ = some (.int .i64 a0_0) ∧ w'.cell? ⟨gb390, 1, none⟩ = some (.int .i64 a0_1) ∧ w'.cell? ⟨gb390, 2, none⟩ = some (.int .i64 a0_2) ∧ w'.cell? ⟨gb390, 3, none⟩ = some (.int .i64 a0_3) ∧ w'.cell? ⟨gb390, 4, none⟩ = some (.int .i64 a0_4) ∧ w'.cell? ⟨gb390, 5, none⟩ = some (.int .u64 a0_5)) ∧ (w'.heap[gb390]? = some (.cells #[.int .i64 a0_0, .int .i64 a0_1, .int .i64 a0_2, .int .i64 a0_3, .int .i64 a0_4, .int .u64 a0_5] 26 (0, 0))) ∧ (w'.heap[gb391]? = some (.cells #[.int .i64 0, .int .i64 0, .int .i64 0, .int .i64 0, .int .i64 0, .int .u64 0] 26 (0, 0))) ∧ (w'.heap[s_]? = some (.cells #[.int .u64 0, .int .u64 0] 82 (0, 0))) ∧ (w.heap.size ≤ s_) ∧ (w.heap.size ≤ s_) ∧ (gb390 ≠ s_) ∧ (s_ ≠ gb390) ∧ (gb391 ≠ s_) ∧ (s_ ≠ gb391) ∧ (Below w.heap.size w w')) ?_ ?_
   rotate_left
   ·intro hCont
    refine tw_ 8 17 (some 24) (some 5) (bl_ 20 8191) (bl_ 20 139007) HT_ (fun K hK => ?_) fun K hK => ?_
    ·refine goesB_ Try.func40 #[.int .u64 (IntKind.u64.wrap (a1 - a0_5)), .int .u64 (IntKind.u64.wrap (a0_1))] ?_
     with_reducible refine (spigotref01_Mul.calls (IntKind.u64.wrap (a1 - a0_5)) (IntKind.u64.wrap (a0_1)) t392 t393 _ A9.out).mono ?_
     rintro e w19 ⟨rfl, hb⟩
     refine ⟨_, rfl, ?_⟩
     replace BK390 := bb_ BK390 hb
     replace BK391 := bb_ BK391 hb
     replace HB := bs_ w hb
     clear hb
     refine hK.out _ _ (cc6_ BK390) (fun hHeld => ?_)
     clear hK K
     refine nm_ (some 24) ?_
     refine tw_ 13 17 (some 29) (some 5) (bl_ 20 16383) (bl_ 20 139263) HT_ (fun K hK => ?_) fun K hK => ?_
     ·refine goesB_ Try.func39 #[.agg #[.int .u64 t392, .int .u64 t393], .agg #[.int .u64 0, .int .u64 (IntKind.u64.wrap (a0_4))]] ?_
      with_reducible refine (spigotref01_Add.calls t392 t393 0 (IntKind.u64.wrap (a0_4)) t394 t395 t396 _ A10.out).mono ?_
      rintro e w20 ⟨rfl, hb⟩
      refine ⟨_, rfl, ?_⟩
      replace BK390 := bb_ BK390 hb
      replace BK391 := bb_ BK391 hb
      replace HB := bs_ w hb
      clear hb
      refine hK.out _ _ (cc6_ BK390) (fun hHeld => ?_)
      clear hK K
      refine nm_ (some 29) ?_
      refine pa_ 14 (some 15) (bl_ 20 32767) HT_ ?_
      refine pa_ 15 (some 30) (bl_ 20 65535) HT_ ?_
      refine pa_ 16 (some 31) (bl_ 20 131071) HT_ ?_
      refine oa_ 17 (some 5) (bl_ 20 262143) HT_ fun K hK => ?_
      refine bs2_ #[.int .u64 0, .int .u64 0] 82 ?_
      intro gb397 hg w21 BK397 hb
      have GW397 := bz_ w hg
      have GE397 := GW397
      have NB390_397 := bn_ BK390 hg
      have NB397_390 := bm_ BK390 hg
      have NB391_397 := bn_ BK391 hg
      have NB397_391 := bm_ BK391 hg
      replace BK390 := bb_ BK390 hb
      replace BK391 := bb_ BK391 hb
      replace HB := bs_ w hb
      clear hb hg
      refine hK.out _ _ (cc6_ BK390) (fun hHeld => ?_)
      clear hK K
      refine nm_ (some 5) ?_
      exact no_ (hCont (gb397) _ ⟨hHeld, (bq_ BK390), (bq_ BK391), (bq_ BK397), GW397.out, GE397.out, NB390_397.out, NB397_390.out, NB391_397.out, NB397_391.out, bh_⟩)
     ·refine bs2_ #[.int .u64 0, .int .u64 0] 82 ?_
      intro gb397 hg w20 BK397 hb
      have GW397 := bz_ w hg
      have GE397 := GW397
      have NB390_397 := bn_ BK390 hg
      have NB397_390 := bm_ BK390 hg
      have NB391_397 := bn_ BK391 hg
      have NB397_391 := bm_ BK391 hg
      replace BK390 := bb_ BK390 hb
      replace BK391 := bb_ BK391 hb
      replace HB := bs_ w hb
      clear hb hg
      refine hK.out _ _ (cc6_ BK390) (fun hHeld => ?_)
      clear hK K
      refine nm_ (some 5) ?_
      refine oa_ 13 (some 29) (bl_ 20 147455) HT_ fun K hK => ?_
      refine goesB_ Try.func39 #[.agg #[.int .u64 t392, .int .u64 t393], .agg #[.int .u64 0, .int .u64 (IntKind.u64.wrap (a0_4))]] ?_
      with_reducible refine (spigotref01_Add.calls t392 t393 0 (IntKind.u64.wrap (a0_4)) t394 t395 t396 _ A10.out).mono ?_
      rintro e w21 ⟨rfl, hb⟩
      refine ⟨_, rfl, ?_⟩
      replace BK390 := bb_ BK390 hb
      replace BK391 := bb_ BK391 hb
      replace BK397 := bb_ BK397 hb
      replace HB := bs_ w hb
      clear hb
      refine hK.out _ _ (cc6_ BK390) (fun hHeld => ?_)
      clear hK K
      refine nm_ (some 29) ?_
      refine pa_ 14 (some 15) (bl_ 20 163839) HT_ ?_
      refine pa_ 15 (some 30) (bl_ 20 196607) HT_ ?_
      refine pa_ 16 (some 31) (bl_ 20 262143) HT_ ?_
      exact no_ (hCont (gb397) _ ⟨hHeld, (bq_ BK390), (bq_ BK391), (bq_ BK397), GW397.out, GE397.out, NB390_397.out, NB397_390.out, NB391_397.out, NB397_391.out, bh_⟩)
    ·refine bs2_ #[.int .u64 0, .int .u64 0] 82 ?_
     intro gb397 hg w19 BK397 hb
     have GW397 := bz_ w hg
     have GE397 := GW397
     have NB390_397 := bn_ BK390 hg
     have NB397_390 := bm_ BK390 hg
     have NB391_397 := bn_ BK391 hg
     have NB397_391 := bm_ BK391 hg
     replace BK390 := bb_ BK390 hb
     replace BK391 := bb_ BK391 hb
     replace HB := bs_ w hb
     clear hb hg
     refine hK.out _ _ (cc6_ BK390) (fun hHeld => ?_)
     clear hK K
     refine nm_ (some 5) ?_
     refine oa_ 8 (some 24) (bl_ 20 139263) HT_ fun K hK => ?_
     refine goesB_ Try.func40 #[.int .u64 (IntKind.u64.wrap (a1 - a0_5)), .int .u64 (IntKind.u64.wrap (a0_1))] ?_
     with_reducible refine (spigotref01_Mul.calls (IntKind.u64.wrap (a1 - a0_5)) (IntKind.u64.wrap (a0_1)) t392 t393 _ A9.out).mono ?_
     rintro e w20 ⟨rfl, hb⟩
     refine ⟨_, rfl, ?_⟩
     replace BK390 := bb_ BK390 hb
     replace BK391 := bb_ BK391 hb
     replace BK397 := bb_ BK397 hb
     replace HB := bs_ w hb
     clear hb
     refine hK.out _ _ (cc6_ BK390) (fun hHeld => ?_)
     clear hK K
     refine nm_ (some 24) ?_
     refine oa_ 13 (some 29) (bl_ 20 147455) HT_ fun K hK => ?_
     refine goesB_ Try.func39 #[.agg #[.int .u64 t392, .int .u64 t393], .agg #[.int .u64 0, .int .u64 (IntKind.u64.wrap (a0_4))]] ?_
     with_reducible refine (spigotref01_Add.calls t392 t393 0 (IntKind.u64.wrap (a0_4)) t394 t395 t396 _ A10.out).mono ?_
     rintro e w21 ⟨rfl, hb⟩
     refine ⟨_, rfl, ?_⟩
     replace BK390 := bb_ BK390 hb
     replace BK391 := bb_ BK391 hb
     replace BK397 := bb_ BK397 hb
     replace HB := bs_ w hb
     clear hb
     refine hK.out _ _ (cc6_ BK390) (fun hHeld => ?_)
     clear hK K
     refine nm_ (some 29) ?_
     refine pa_ 14 (some 15) (bl_ 20 163839) HT_ ?_
     refine pa_ 15 (some 30) (bl_ 20 196607) HT_ ?_
     refine pa_ 16 (some 31) (bl_ 20 262143) HT_ ?_
     exact no_ (hCont (gb397) _ ⟨hHeld, (bq_ BK390), (bq_ BK391), (bq_ BK397), GW397.out, GE397.out, NB390_397.out, NB397_390.out, NB391_397.out, NB397_391.out, bh_⟩)
   rintro gb397 w22 ⟨hS_, h0_, h1_, h2_, h3_, h4_, h5_, h6_, h7_, h8_, h9_⟩
   have BK397 := Aside0.mk h2_
   have GW397 := Aside0.mk h3_
   have GE397 := Aside0.mk h4_
   have NB390_397 := Aside0.mk h5_
   have NB397_390 := Aside0.mk h6_
   have NB391_397 := Aside0.mk h7_
   have NB397_391 := Aside0.mk h8_
   replace BK390 := Aside0.mk h0_
   replace BK391 := Aside0.mk h1_
   replace HB := Aside0.mk h9_
   clear h0_ h1_ h2_ h3_ h4_ h5_ h6_ h7_ h8_ h9_
   have hHeld := hS_
   refine nq_ ?_
   refine oa_ 18 none (bl_ 20 524287) HT_ fun K hK => ?_
   have hs23 : w22.cell? ⟨gb397, 0, none⟩ = some (.int .u64 0) := (blk_cell BK397.out 0).trans rfl
   have hfs23 := blk_frozen BK397.out 0
   have hns23_0 := NB390_397.out
   have hns23_1 := NB391_397.out
   have hms23_0 := NB397_390.out
   have hms23_1 := NB397_391.out
   have hs24 : w22.cell? ⟨gb397, 1, none⟩ = some (.int .u64 0) := (blk_cell BK397.out 1).trans rfl
   have hfs24 := blk_frozen BK397.out 1
   have hns24_0 := NB390_397.out
   have hns24_1 := NB391_397.out
   have hms24_0 := NB397_390.out
   have hms24_1 := NB397_391.out
   refine sk_ ?_
   refine hK.out _ _ (cf6_ hHeld) (fun hHeld => ?_)
   clear hK K
   refine pa_ 19 (some 6) (bl_ 20 1048575) HT_ ?_
   refine done_ (done_of HT_.out (by kernel_rfl)) ?_
   replace hn397_390 := NB397_390.out
   replace hn390_397 := NB390_397.out
   replace hn397_391 := NB397_391.out
   replace hn391_397 := NB391_397.out
   replace hc397 := ce2_ BK397
   replace hc390 := ce6_ BK390
   try go_wp2_with (first | ((with_reducible refine gate_callee (f := 41) rfl ?_); refine goesA_ (some 38) Try.func41 #[.agg #[.int .u64 t394, .int .u64 t395], .int .u64 (IntKind.u64.wrap (a0_2))] ?_; (with_reducible refine (spigotref01_Div.calls k t394 t395 (IntKind.u64.wrap (a0_2)) t398 t399 t400 t401 _ A11.out).mono ?_); rintro e w29 ⟨rfl, hb⟩; refine ⟨_, rfl, ?_⟩; replace BK390 := bf_ BK390 hb; replace BK391 := bf_ BK391 hb; replace BK397 := Aside0.mk (blk_below (g := gb397) (o := .cells #[.int .u64 t394, .int .u64 t395] 82 (0, 0)) (bp2_ (bq_ BK397)) hb); replace HB := bs_ w hb; clear hb) | ((with_reducible refine gate_dst (N := 7) rfl ?_); refine bx_ #[.int .u64 0, .int .u64 0] 82 ?_; intro gb402 hg w30 BK402 hb; have GW402 := bz_ w hg; have GE402 := GW402; have NB390_402 := bn_ BK390 hg; have NB402_390 := bm_ BK390 hg; have NB391_402 := bn_ BK391 hg; have NB402_391 := bm_ BK391 hg; have NB397_402 := bn_ BK397 hg; have NB402_397 := bm_ BK397 hg; replace BK390 := bb_ BK390 hb; replace BK391 := bb_ BK391 hb; replace BK397 := bb_ BK397 hb; replace HB := bs_ w hb; clear hb hg; replace hn402_390 := NB402_390.out; replace hn390_402 := NB390_402.out; replace hn402_391 := NB402_391.out; replace hn391_402 := NB391_402.out; replace hn402_397 := NB402_397.out; replace hn397_402 := NB397_402.out; replace hc402 := ce2_ BK402; replace hc390 := ce6_ BK390) | ((with_reducible refine gate_callee (f := 47) rfl ?_); refine goesA_ (some 53) Try.func47 #[.agg #[.int .u64 t398, .int .u64 t399], .agg #[.int .u64 0, .int .u64 (IntKind.u64.wrap (wrap64 (a0_0 - a0_3)))]] ?_; (with_reducible refine (spigotref01_Cmp.calls k t398 t399 0 (IntKind.u64.wrap (wrap64 (a0_0 - a0_3))) t403 _ A12.out).mono ?_); rintro e w36 ⟨rfl, hb⟩; refine ⟨_, rfl, ?_⟩; replace BK390 := Aside0.mk (blk_below (g := gb390) (o := .cells #[.int .i64 a0_0, .int .i64 a0_1, .int .i64 a0_2, .int .i64 a0_3, .int .i64 a0_4, .int .u64 a1] 26 (0, 0)) (blk_put (cs := #[.int .i64 a0_0, .int .i64 a0_1, .int .i64 a0_2, .int .i64 a0_3, .int .i64 a0_4, .int .u64 a0_5]) (bt_ BK390) 5 _ rfl) hb); replace BK391 := bf_ BK391 hb; replace BK397 := bf_ BK397 hb; replace BK402 := Aside0.mk (blk_below (g := gb402) (o := .cells #[.int .u64 t398, .int .u64 t399] 82 (0, 0)) (blk_far (bp2_ (bq_ BK402)) NB402_390.out _) hb); replace HB := bs_ w hb; clear hb; replace hc390 := ce6_ BK390; replace hc391 := ce6_ BK391))
   refine bodyPost_ret (results_cell_row rfl _ _ gb391 26 #[.int .i64 a0_0, .int .i64 a0_1, .int .i64 a0_2, .int .i64 a0_0, .int .i64 0, .int .u64 a1] (0, 0) _ rfl (blk_put (cs := #[.int .i64 a0_0, .int .i64 a0_1, .int .i64 a0_2, .int .i64 a0_0, .int .i64 0, .int .u64 0]) (blk_put (cs := #[.int .i64 a0_0, .int .i64 a0_1, .int .i64 a0_2, .int .i64 a0_0, .int .i64 0, .int .u64 0]) (blk_put (cs := #[.int .i64 a0_0, .int .i64 a0_1, .int .i64 a0_2, .int .i64 0, .int .i64 0, .int .u64 0]) (blk_put (cs := #[.int .i64 a0_0, .int .i64 a0_1, .int .i64 0, .int .i64 0, .int .i64 0, .int .u64 0]) (blk_put (cs := #[.int .i64 a0_0, .int .i64 0, .int .i64 0, .int .i64 0, .int .i64 0, .int .u64 0]) (blk_put (cs := #[.int .i64 0, .int .i64 0, .int .i64 0, .int .i64 0, .int .i64 0, .int .u64 0]) (bt_ BK391) 0 _ rfl) 1 _ rfl) 2 _ rfl) 3 _ rfl) 4 _ rfl) 5 _ rfl) Try.underlying26 rfl (by kernel_rfl)) rfl ?_
   exact fi_
  ·rw [if_neg c13] at H
   have c13b0 : decide (0 ≤ t403) = false := decide_eq_false c13
   clear c13
   simp only [Option.some.injEq, Prod.mk.injEq] at H
   obtain ⟨rfl, rfl, rfl, rfl, rfl, rfl⟩ := H
   go_enter Try.func33, Try.ntmps33
   try go_wp2_with (first | ((with_reducible refine gate_dst (N := 2) rfl ?_); refine bx_ #[.int .i64 a0_0, .int .i64 a0_1, .int .i64 a0_2, .int .i64 a0_3, .int .i64 a0_4, .int .u64 a0_5] 26 ?_; intro gb390 hg w39 BK390 hb; have GW390 := bz_ w hg; have GE390 := GW390; replace HB := bs_ w hb; clear hb hg) | ((with_reducible refine gate_dst (N := 4) rfl ?_); refine bx_ #[.int .i64 0, .int .i64 0, .int .i64 0, .int .i64 0, .int .i64 0, .int .u64 0] 26 ?_; intro gb391 hg w40 BK391 hb; have GW391 := bz_ w hg; have GE391 := GW391; have NB390_391 := bn_ BK390 hg; have NB391_390 := bm_ BK390 hg; replace BK390 := bb_ BK390 hb; replace HB := bs_ w hb; clear hb hg; replace hn390_391 := NB390_391.out; replace hn391_390 := NB391_390.out; replace hc390 := ce6_ BK390))
   replace BK390 := Aside0.mk (blk_drew BK390.out)
   replace BK391 := Aside0.mk (blk_drew BK391.out)
   replace HB := Aside0.mk (below_drew1 HB.out)
   refine start_ (n := 20) (S := fun w' => w'.cell? ⟨gb390, 0, none⟩ = some (.int .i64 a0_0) ∧ w'.cell? ⟨gb390, 1, none⟩ = some (.int .i64 a0_1) ∧ w'.cell? ⟨gb390, 2, none⟩ = some (.int .i64 a0_2) ∧ w'.cell? ⟨gb390, 3, none⟩ = some (.int .i64 a0_3) ∧ w'.cell? ⟨gb390, 4, none⟩ = some (.int .i64 a0_4) ∧ w'.cell? ⟨gb390, 5, none⟩ = some (.int .u64 a0_5)) (ds := []) (bl_ 20 0) (by kernel_rfl) rfl (by kernel_rfl) (cc6_ BK390) (fun hHeld => ?_); refine with_tabW spigotref03_Filled.tab3 spigotref03_Filled.bits3 (fun HT_ HW_ => ?_)
   generalize w40.drew = w43 at BK390 BK391 HB hHeld ⊢
   refine pa_ 0 (some 16) (bl_ 20 1) HT_ ?_
   refine pa_ 1 (some 17) (bl_ 20 3) HT_ ?_
   refine pa_ 4 (some 20) (bl_ 20 19) HT_ ?_
   refine pa_ 5 (some 21) (bl_ 20 51) HT_ ?_
   refine pa_ 9 (some 25) (bl_ 20 563) HT_ ?_
   refine ta_ 2 (some 18) (bl_ 20 567) HT_ HW_ hHeld ?_
   refine pa_ 3 (some 19) (bl_ 20 575) HT_ ?_
   refine ta_ 6 (some 22) (bl_ 20 639) HT_ HW_ hHeld ?_
   refine pa_ 7 (some 23) (bl_ 20 767) HT_ ?_
   refine ta_ 10 (some 26) (bl_ 20 1791) HT_ HW_ hHeld ?_
   refine pa_ 11 (some 27) (bl_ 20 3839) HT_ ?_
   refine pa_ 12 (some 28) (bl_ 20 7935) HT_ ?_
   refine join_ (σ := Nat) 2 (bl_ 20 262143) (fun s_ => [(24, .agg #[.int .u64 t392, .int .u64 t393]), (29, .tuple #[.agg #[.int .u64 t394, .int .u64 t395], .int .i64 t396]), (5, .pointer (some ⟨s_, 0, none⟩)), (15, .tuple #[.agg #[.int .u64 t394, .int .u64 t395], .int .i64 t396]), (30, .agg #[.int .u64 t394, .int .u64 t395]), (31, .int .i64 t396)]) (fun s_ w' => (w'.cell? ⟨gb390, 0, none⟩ = some (.int .i64 a0_0) ∧ w'.cell? ⟨gb390, 1, none⟩ = some (.int .i64 a0_1) ∧ w'.cell? ⟨gb390, 2, none⟩ = some (.int .i64 a0_2) ∧ w'.cell? ⟨gb390, 3, none⟩ = some (.int .i64 a0_3) ∧ w'.cell? ⟨gb390, 4, none⟩ = some (.int .i64 a0_4) ∧ w'.cell? ⟨gb390, 5, none⟩ = some (.int .u64 a0_5)) ∧ (w'.heap[gb390]? = some (.cells #[.int .i64 a0_0, .int .i64 a0_1, .int .i64 a0_2, .int .i64 a0_3, .int .i64 a0_4, .int .u64 a0_5] 26 (0, 0))) ∧ (w'.heap[gb391]? = some (.cells #[.int .i64 0, .int .i64 0, .int .i64 0, .int .i64 0, .int .i64 0, .int .u64 0] 26 (0, 0))) ∧ (w'.heap[s_]? = some (.cells #[.int .u64 0, .int .u64 0] 82 (0, 0))) ∧ (w.heap.size ≤ s_) ∧ (w.heap.size ≤ s_) ∧ (gb390 ≠ s_) ∧ (s_ ≠ gb390) ∧ (gb391 ≠ s_) ∧ (s_ ≠ gb391) ∧ (Below w.heap.size w w')) ?_ ?_
   rotate_left
   ·intro hCont
    refine tw_ 8 17 (some 24) (some 5) (bl_ 20 8191) (bl_ 20 139007) HT_ (fun K hK => ?_) fun K hK => ?_
    ·refine goesB_ Try.func40 #[.int .u64 (IntKind.u64.wrap (a1 - a0_5)), .int .u64 (IntKind.u64.wrap (a0_1))] ?_
     with_reducible refine (spigotref01_Mul.calls (IntKind.u64.wrap (a1 - a0_5)) (IntKind.u64.wrap (a0_1)) t392 t393 _ A9.out).mono ?_
     rintro e w44 ⟨rfl, hb⟩
     refine ⟨_, rfl, ?_⟩
     replace BK390 := bb_ BK390 hb
     replace BK391 := bb_ BK391 hb
     replace HB := bs_ w hb
     clear hb
     refine hK.out _ _ (cc6_ BK390) (fun hHeld => ?_)
     clear hK K
     refine nm_ (some 24) ?_
     refine tw_ 13 17 (some 29) (some 5) (bl_ 20 16383) (bl_ 20 139263) HT_ (fun K hK => ?_) fun K hK => ?_
     ·refine goesB_ Try.func39 #[.agg #[.int .u64 t392, .int .u64 t393], .agg #[.int .u64 0, .int .u64 (IntKind.u64.wrap (a0_4))]] ?_
      with_reducible refine (spigotref01_Add.calls t392 t393 0 (IntKind.u64.wrap (a0_4)) t394 t395 t396 _ A10.out).mono ?_
      rintro e w45 ⟨rfl, hb⟩
      refine ⟨_, rfl, ?_⟩
      replace BK390 := bb_ BK390 hb
      replace BK391 := bb_ BK391 hb
      replace HB := bs_ w hb
      clear hb
      refine hK.out _ _ (cc6_ BK390) (fun hHeld => ?_)
      clear hK K
      refine nm_ (some 29) ?_
      refine pa_ 14 (some 15) (bl_ 20 32767) HT_ ?_
      refine pa_ 15 (some 30) (bl_ 20 65535) HT_ ?_
      refine pa_ 16 (some 31) (bl_ 20 131071) HT_ ?_
      refine oa_ 17 (some 5) (bl_ 20 262143) HT_ fun K hK => ?_
      refine bs2_ #[.int .u64 0, .int .u64 0] 82 ?_
      intro gb397 hg w46 BK397 hb
      have GW397 := bz_ w hg
      have GE397 := GW397
      have NB390_397 := bn_ BK390 hg
      have NB397_390 := bm_ BK390 hg
      have NB391_397 := bn_ BK391 hg
      have NB397_391 := bm_ BK391 hg
      replace BK390 := bb_ BK390 hb
      replace BK391 := bb_ BK391 hb
      replace HB := bs_ w hb
      clear hb hg
      refine hK.out _ _ (cc6_ BK390) (fun hHeld => ?_)
      clear hK K
      refine nm_ (some 5) ?_
      exact no_ (hCont (gb397) _ ⟨hHeld, (bq_ BK390), (bq_ BK391), (bq_ BK397), GW397.out, GE397.out, NB390_397.out, NB397_390.out, NB391_397.out, NB397_391.out, bh_⟩)
     ·refine bs2_ #[.int .u64 0, .int .u64 0] 82 ?_
      intro gb397 hg w45 BK397 hb
      have GW397 := bz_ w hg
      have GE397 := GW397
      have NB390_397 := bn_ BK390 hg
      have NB397_390 := bm_ BK390 hg
      have NB391_397 := bn_ BK391 hg
      have NB397_391 := bm_ BK391 hg
      replace BK390 := bb_ BK390 hb
      replace BK391 := bb_ BK391 hb
      replace HB := bs_ w hb
      clear hb hg
      refine hK.out _ _ (cc6_ BK390) (fun hHeld => ?_)
      clear hK K
      refine nm_ (some 5) ?_
      refine oa_ 13 (some 29) (bl_ 20 147455) HT_ fun K hK => ?_
      refine goesB_ Try.func39 #[.agg #[.int .u64 t392, .int .u64 t393], .agg #[.int .u64 0, .int .u64 (IntKind.u64.wrap (a0_4))]] ?_
      with_reducible refine (spigotref01_Add.calls t392 t393 0 (IntKind.u64.wrap (a0_4)) t394 t395 t396 _ A10.out).mono ?_
      rintro e w46 ⟨rfl, hb⟩
      refine ⟨_, rfl, ?_⟩
      replace BK390 := bb_ BK390 hb
      replace BK391 := bb_ BK391 hb
      replace BK397 := bb_ BK397 hb
      replace HB := bs_ w hb
      clear hb
      refine hK.out _ _ (cc6_ BK390) (fun hHeld => ?_)
      clear hK K
      refine nm_ (some 29) ?_
      refine pa_ 14 (some 15) (bl_ 20 163839) HT_ ?_
      refine pa_ 15 (some 30) (bl_ 20 196607) HT_ ?_
      refine pa_ 16 (some 31) (bl_ 20 262143) HT_ ?_
      exact no_ (hCont (gb397) _ ⟨hHeld, (bq_ BK390), (bq_ BK391), (bq_ BK397), GW397.out, GE397.out, NB390_397.out, NB397_390.out, NB391_397.out, NB397_391.out, bh_⟩)
    ·refine bs2_ #[.int .u64 0, .int .u64 0] 82 ?_
     intro gb397 hg w44 BK397 hb
     have GW397 := bz_ w hg
     have GE397 := GW397
     have NB390_397 := bn_ BK390 hg
     have NB397_390 := bm_ BK390 hg
     have NB391_397 := bn_ BK391 hg
     have NB397_391 := bm_ BK391 hg
     replace BK390 := bb_ BK390 hb
     replace BK391 := bb_ BK391 hb
     replace HB := bs_ w hb
     clear hb hg
     refine hK.out _ _ (cc6_ BK390) (fun hHeld => ?_)
     clear hK K
     refine nm_ (some 5) ?_
     refine oa_ 8 (some 24) (bl_ 20 139263) HT_ fun K hK => ?_
     refine goesB_ Try.func40 #[.int .u64 (IntKind.u64.wrap (a1 - a0_5)), .int .u64 (IntKind.u64.wrap (a0_1))] ?_
     with_reducible refine (spigotref01_Mul.calls (IntKind.u64.wrap (a1 - a0_5)) (IntKind.u64.wrap (a0_1)) t392 t393 _ A9.out).mono ?_
     rintro e w45 ⟨rfl, hb⟩
     refine ⟨_, rfl, ?_⟩
     replace BK390 := bb_ BK390 hb
     replace BK391 := bb_ BK391 hb
     replace BK397 := bb_ BK397 hb
     replace HB := bs_ w hb
     clear hb
     refine hK.out _ _ (cc6_ BK390) (fun hHeld => ?_)
     clear hK K
     refine nm_ (some 24) ?_
     refine oa_ 13 (some 29) (bl_ 20 147455) HT_ fun K hK => ?_
     refine goesB_ Try.func39 #[.agg #[.int .u64 t392, .int .u64 t393], .agg #[.int .u64 0, .int .u64 (IntKind.u64.wrap (a0_4))]] ?_
     with_reducible refine (spigotref01_Add.calls t392 t393 0 (IntKind.u64.wrap (a0_4)) t394 t395 t396 _ A10.out).mono ?_
     rintro e w46 ⟨rfl, hb⟩
     refine ⟨_, rfl, ?_⟩
     replace BK390 := bb_ BK390 hb
     replace BK391 := bb_ BK391 hb
     replace BK397 := bb_ BK397 hb
     replace HB := bs_ w hb
     clear hb
     refine hK.out _ _ (cc6_ BK390) (fun hHeld => ?_)
     clear hK K
     refine nm_ (some 29) ?_
     refine pa_ 14 (some 15) (bl_ 20 163839) HT_ ?_
     refine pa_ 15 (some 30) (bl_ 20 196607) HT_ ?_
     refine pa_ 16 (some 31) (bl_ 20 262143) HT_ ?_
     exact no_ (hCont (gb397) _ ⟨hHeld, (bq_ BK390), (bq_ BK391), (bq_ BK397), GW397.out, GE397.out, NB390_397.out, NB397_390.out, NB391_397.out, NB397_391.out, bh_⟩)
   rintro gb397 w47 ⟨hS_, h0_, h1_, h2_, h3_, h4_, h5_, h6_, h7_, h8_, h9_⟩
   have BK397 := Aside0.mk h2_
   have GW397 := Aside0.mk h3_
   have GE397 := Aside0.mk h4_
   have NB390_397 := Aside0.mk h5_
   have NB397_390 := Aside0.mk h6_
   have NB391_397 := Aside0.mk h7_
   have NB397_391 := Aside0.mk h8_
   replace BK390 := Aside0.mk h0_
   replace BK391 := Aside0.mk h1_
   replace HB := Aside0.mk h9_
   clear h0_ h1_ h2_ h3_ h4_ h5_ h6_ h7_ h8_ h9_
   have hHeld := hS_
   refine nq_ ?_
   refine oa_ 18 none (bl_ 20 524287) HT_ fun K hK => ?_
   have hs48 : w47.cell? ⟨gb397, 0, none⟩ = some (.int .u64 0) := (blk_cell BK397.out 0).trans rfl
   have hfs48 := blk_frozen BK397.out 0
   have hns48_0 := NB390_397.out
   have hns48_1 := NB391_397.out
   have hms48_0 := NB397_390.out
   have hms48_1 := NB397_391.out
   have hs49 : w47.cell? ⟨gb397, 1, none⟩ = some (.int .u64 0) := (blk_cell BK397.out 1).trans rfl
   have hfs49 := blk_frozen BK397.out 1
   have hns49_0 := NB390_397.out
   have hns49_1 := NB391_397.out
   have hms49_0 := NB397_390.out
   have hms49_1 := NB397_391.out
   refine sk_ ?_
   refine hK.out _ _ (cf6_ hHeld) (fun hHeld => ?_)
   clear hK K
   refine pa_ 19 (some 6) (bl_ 20 1048575) HT_ ?_
   refine done_ (done_of HT_.out (by kernel_rfl)) ?_
   replace hn397_390 := NB397_390.out
   replace hn390_397 := NB390_397.out
   replace hn397_391 := NB397_391.out
   replace hn391_397 := NB391_397.out
   replace hc397 := ce2_ BK397
   replace hc390 := ce6_ BK390
   try go_wp2_with (first | ((with_reducible refine gate_callee (f := 41) rfl ?_); refine goesA_ (some 38) Try.func41 #[.agg #[.int .u64 t394, .int .u64 t395], .int .u64 (IntKind.u64.wrap (a0_2))] ?_; (with_reducible refine (spigotref01_Div.calls k t394 t395 (IntKind.u64.wrap (a0_2)) t398 t399 t400 t401 _ A11.out).mono ?_); rintro e w54 ⟨rfl, hb⟩; refine ⟨_, rfl, ?_⟩; replace BK390 := bf_ BK390 hb; replace BK391 := bf_ BK391 hb; replace BK397 := Aside0.mk (blk_below (g := gb397) (o := .cells #[.int .u64 t394, .int .u64 t395] 82 (0, 0)) (bp2_ (bq_ BK397)) hb); replace HB := bs_ w hb; clear hb) | ((with_reducible refine gate_dst (N := 7) rfl ?_); refine bx_ #[.int .u64 0, .int .u64 0] 82 ?_; intro gb402 hg w55 BK402 hb; have GW402 := bz_ w hg; have GE402 := GW402; have NB390_402 := bn_ BK390 hg; have NB402_390 := bm_ BK390 hg; have NB391_402 := bn_ BK391 hg; have NB402_391 := bm_ BK391 hg; have NB397_402 := bn_ BK397 hg; have NB402_397 := bm_ BK397 hg; replace BK390 := bb_ BK390 hb; replace BK391 := bb_ BK391 hb; replace BK397 := bb_ BK397 hb; replace HB := bs_ w hb; clear hb hg; replace hn402_390 := NB402_390.out; replace hn390_402 := NB390_402.out; replace hn402_391 := NB402_391.out; replace hn391_402 := NB391_402.out; replace hn402_397 := NB402_397.out; replace hn397_402 := NB397_402.out; replace hc402 := ce2_ BK402; replace hc390 := ce6_ BK390) | ((with_reducible refine gate_callee (f := 47) rfl ?_); refine goesA_ (some 53) Try.func47 #[.agg #[.int .u64 t398, .int .u64 t399], .agg #[.int .u64 0, .int .u64 (IntKind.u64.wrap (wrap64 (a0_0 - a0_3)))]] ?_; (with_reducible refine (spigotref01_Cmp.calls k t398 t399 0 (IntKind.u64.wrap (wrap64 (a0_0 - a0_3))) t403 _ A12.out).mono ?_); rintro e w61 ⟨rfl, hb⟩; refine ⟨_, rfl, ?_⟩; replace BK390 := Aside0.mk (blk_below (g := gb390) (o := .cells #[.int .i64 a0_0, .int .i64 a0_1, .int .i64 a0_2, .int .i64 a0_3, .int .i64 a0_4, .int .u64 a1] 26 (0, 0)) (blk_put (cs := #[.int .i64 a0_0, .int .i64 a0_1, .int .i64 a0_2, .int .i64 a0_3, .int .i64 a0_4, .int .u64 a0_5]) (bt_ BK390) 5 _ rfl) hb); replace BK391 := bf_ BK391 hb; replace BK397 := bf_ BK397 hb; replace BK402 := Aside0.mk (blk_below (g := gb402) (o := .cells #[.int .u64 t398, .int .u64 t399] 82 (0, 0)) (blk_far (bp2_ (bq_ BK402)) NB402_390.out _) hb); replace HB := bs_ w hb; clear hb; replace hc390 := ce6_ BK390; replace hc402 := ce2_ BK402; replace hc391 := ce6_ BK391))
   refine bodyPost_ret (results_cell_row rfl _ _ gb391 26 #[.int .i64 a0_0, .int .i64 a0_1, .int .i64 a0_2, .int .i64 (wrap64 (a0_3 + (wrap64 (t399)))), .int .i64 (wrap64 (t400)), .int .u64 a1] (0, 0) _ rfl (blk_put (cs := #[.int .i64 a0_0, .int .i64 a0_1, .int .i64 a0_2, .int .i64 (wrap64 (a0_3 + (wrap64 (t399)))), .int .i64 (wrap64 (t400)), .int .u64 0]) (blk_put (cs := #[.int .i64 a0_0, .int .i64 a0_1, .int .i64 a0_2, .int .i64 (wrap64 (a0_3 + (wrap64 (t399)))), .int .i64 0, .int .u64 0]) (blk_put (cs := #[.int .i64 a0_0, .int .i64 a0_1, .int .i64 a0_2, .int .i64 0, .int .i64 0, .int .u64 0]) (blk_put (cs := #[.int .i64 a0_0, .int .i64 a0_1, .int .i64 0, .int .i64 0, .int .i64 0, .int .u64 0]) (blk_put (cs := #[.int .i64 a0_0, .int .i64 0, .int .i64 0, .int .i64 0, .int .i64 0, .int .u64 0]) (blk_put (cs := #[.int .i64 0, .int .i64 0, .int .i64 0, .int .i64 0, .int .i64 0, .int .u64 0]) (bt_ BK391) 0 _ rfl) 1 _ rfl) 2 _ rfl) 3 _ rfl) 4 _ rfl) 5 _ rfl) Try.underlying26 rfl (by kernel_rfl)) rfl ?_
   exact fi_

end Go.Proofs.Ytbfdpodlnijeoaa.X
