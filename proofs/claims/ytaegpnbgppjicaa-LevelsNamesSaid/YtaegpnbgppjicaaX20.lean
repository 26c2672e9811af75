-- written by xprint.py, a program of this session over the kit's print
import Derived.Test.YtaegpnbgppjicaaX0
import Derived.Test.YtaegpnbgppjicaaX17
import Derived.Test.YtaegpnbgppjicaaX19
namespace Go.Proofs.Ytaegpnbgppjicaa.X
open Go.RowKit Go.Proofs.YtaegpnbgppjicaaW.PrintWords Go.Proofs.YtaegpnbgppjicaaW.PrintLast Go.Proofs.YtaegpnbgppjicaaW.PrintMore
attribute [local go_sem] max2_int min2_int max_two min_two max_three min_three max_four min_four   -- for this text's walks alone
set_option linter.unusedVariables false
set_option linter.unusedSimpArgs false

/-! ### spigotref03_Filled: function 56 -/
def spigotref03_Filled.f (k : Nat) (a0_0 : Int) (a0_1 : Int) (a0_2 : Int) (a0_3 : Int) (a0_4 : Int) (a0_5 : Int) (a1 : Int) : Option (Int × Int × Int × Int × Int × Int) := if a1 < a0_5 then (some (a0_0, a0_1, a0_2, a0_3, a0_4, a0_5)) else ((spigotref01_Mul.f (IntKind.u64.wrap (a1 - a0_5)) (IntKind.u64.wrap (a0_1))).bind fun bt218 => ((spigotref01_Add.f bt218.1 bt218.2 0 (IntKind.u64.wrap (a0_4))).bind fun bt220 => ((spigotref01_Div.f k bt220.1 bt220.2.1 (IntKind.u64.wrap (a0_2))).bind fun bt224 => ((spigotref01_Cmp.f k bt224.1 bt224.2.1 0 (IntKind.u64.wrap (wrap64 (a0_0 - a0_3)))).bind fun t229 => (if t229 ≥ 0 then (some (a0_0, a0_1, a0_2, a0_0, 0, a1)) else (some (a0_0, a0_1, a0_2, wrap64 (a0_3 + (wrap64 (bt224.2.1))), wrap64 (bt224.2.2.1), a1)))))))
theorem spigotref03_Filled.mono : ∀ a0 a1 a2 a3 a4 a5 a6 k, LeO (spigotref03_Filled.f k a0 a1 a2 a3 a4 a5 a6) (spigotref03_Filled.f (k + 1) a0 a1 a2 a3 a4 a5 a6) := by
  intro a0 a1 a2 a3 a4 a5 a6 k
  unfold spigotref03_Filled.f
  repeat' first
      | (with_reducible exact spigotref01_Cmp.mono _ _ _ _ _)
      | (with_reducible exact spigotref01_Div.mono _ _ _ _)
      | (with_reducible exact LeO.refl _)
      | (with_reducible exact LeO.none _)
      | (with_reducible refine LeO.ite ?_ ?_)
      | (with_reducible refine LeO.bind ?_ (fun _ => ?_))
      | exact spigotref01_Cmp.mono _ _ _ _ _
      | exact spigotref01_Div.mono _ _ _ _
      | exact LeO.none _
      | refine LeO.ite ?_ ?_
      | refine LeO.bind ?_ (fun _ => ?_)
def spigotref03_Filled.T3 : Bool × List (List Nat × List Nat) := (true, [([], []), ([], []), ([1], [1]), ([0, 2], [0, 2]), ([], []), ([4], [4]), ([5], [5]), ([6], [6]), ([3, 7], [3, 7]), ([], []), ([9], [9]), ([10], [10]), ([11], [11]), ([8, 12, 8], [8, 12]), ([13], [13]), ([14], [14]), ([14], [14]), ([], []), ([17, 15, 13, 0, 1, 2, 3, 4, 5, 6, 7, 8, 9, 10, 11, 12, 13, 14, 15, 17], [15, 17]), ([16, 18, 0, 1, 2, 3, 4, 5, 6, 7, 8, 9, 10, 11, 12, 13, 14, 15, 16, 17, 18], [16])])
def spigotref03_Filled.B3 : List Nat := [0, 0, 2, 7, 0, 16, 48, 112, 255, 0, 512, 1536, 3584, 8191, 16383, 32767, 32767, 0, 196607, 524287]
theorem spigotref03_Filled.tab3 : rtab .any (opsOf Try.f56 3) = spigotref03_Filled.T3 := by kernel_rfl
theorem spigotref03_Filled.bits3 : waitsOk spigotref03_Filled.T3.2 spigotref03_Filled.B3 = true := by kernel_rfl
set_option maxHeartbeats 8000000 in
set_option maxRecDepth 100000 in
theorem spigotref03_Filled.calls (k : Nat) (a0_0 : Int) (a0_1 : Int) (a0_2 : Int) (a0_3 : Int) (a0_4 : Int) (a0_5 : Int) (a1 : Int) (r1 : Int) (r2 : Int) (r3 : Int) (r4 : Int) (r5 : Int) (r6 : Int) (w : World) (h : spigotref03_Filled.f k a0_0 a0_1 a0_2 a0_3 a0_4 a0_5 a1 = some (r1, r2, r3, r4, r5, r6)) :
  Calls Try.prog 56 #[.agg #[.int .i64 a0_0, .int .i64 a0_1, .int .i64 a0_2, .int .i64 a0_3, .int .i64 a0_4, .int .u64 a0_5], .int .u64 a1] w fun e w' => e = .returned (.agg #[.int .i64 r1, .int .i64 r2, .int .i64 r3, .int .i64 r4, .int .i64 r5, .int .u64 r6]) ∧ Below w.heap.size w w' := by
 have hu37 := Try.underlying37
 have hu83 := Try.underlying83
 have HB := Aside0.mk (Below.refl w.heap.size w)
 have H : (if a1 < a0_5 then (some (a0_0, a0_1, a0_2, a0_3, a0_4, a0_5)) else ((spigotref01_Mul.f (IntKind.u64.wrap (a1 - a0_5)) (IntKind.u64.wrap (a0_1))).bind fun bt218 => ((spigotref01_Add.f bt218.1 bt218.2 0 (IntKind.u64.wrap (a0_4))).bind fun bt220 => ((spigotref01_Div.f k bt220.1 bt220.2.1 (IntKind.u64.wrap (a0_2))).bind fun bt224 => ((spigotref01_Cmp.f k bt224.1 bt224.2.1 0 (IntKind.u64.wrap (wrap64 (a0_0 - a0_3)))).bind fun t229 => (if t229 ≥ 0 then (some (a0_0, a0_1, a0_2, a0_0, 0, a1)) else (some (a0_0, a0_1, a0_2, wrap64 (a0_3 + (wrap64 (bt224.2.1))), wrap64 (bt224.2.2.1), a1)))))))) = some (r1, r2, r3, r4, r5, r6) := h
 clear h
 by_cases c3 : a1 < a0_5
 ·rw [if_pos c3] at H
  have c3b0 : decide (a1 < a0_5) = true := decide_eq_true c3
  clear c3
  simp only [Option.some.injEq, Prod.mk.injEq] at H
  obtain ⟨rfl, rfl, rfl, rfl, rfl, rfl⟩ := H
  go_enter Try.func56, Try.ntmps56
  go_wp2_with (first | ((with_reducible refine gate_dst (N := 2) rfl ?_); refine bx_ #[.int .i64 a0_0, .int .i64 a0_1, .int .i64 a0_2, .int .i64 a0_3, .int .i64 a0_4, .int .u64 a0_5] 37 ?_; intro gb216 hg w4 BK216 hb; have GW216 := bz_ w hg; have GE216 := GW216; replace HB := bs_ w hb; clear hb hg) | ((with_reducible refine gate_dst (N := 4) rfl ?_); refine bx_ #[.int .i64 0, .int .i64 0, .int .i64 0, .int .i64 0, .int .i64 0, .int .u64 0] 37 ?_; intro gb217 hg w5 BK217 hb; have GW217 := bz_ w hg; have GE217 := GW217; have NB216_217 := bn_ BK216 hg; have NB217_216 := bm_ BK216 hg; replace BK216 := bb_ BK216 hb; replace HB := bs_ w hb; clear hb hg; replace hn216_217 := NB216_217.out; replace hn217_216 := NB217_216.out; replace hc216 := ce6_ BK216; replace hc217 := ce6_ BK217))
  refine bodyPost_ret (results_cell_row rfl _ _ gb217 37 #[.int .i64 a0_0, .int .i64 a0_1, .int .i64 a0_2, .int .i64 a0_3, .int .i64 a0_4, .int .u64 a0_5] (0, 0) _ rfl (bp6_ (bq_ BK217)) Try.underlying37 rfl (by kernel_rfl)) rfl ?_
  exact fi_
 ·rw [if_neg c3] at H
  have c3b0 : decide (a1 < a0_5) = false := decide_eq_false c3
  clear c3
  have H0_ := bo_ H; clear H; obtain ⟨⟨t218, t219⟩, A9, H⟩ := H0_
  try dsimp only at H
  have H0_ := bo_ H; clear H; obtain ⟨⟨t220, t221, t222⟩, A10, H⟩ := H0_
  try dsimp only at H
  have H0_ := bo_ H; clear H; obtain ⟨⟨t224, t225, t226, t227⟩, A11, H⟩ := H0_
  try dsimp only at H
  have H0_ := bo_ H; clear H; obtain ⟨t229, A12, H⟩ := H0_
  try dsimp only at H
  by_cases c13 : t229 ≥ 0
  ·rw [if_pos c13] at H
   have c13b0 : decide (0 ≤ t229) = true := decide_eq_true c13
   clear c13
   simp only [Option.some.injEq, Prod.mk.injEq] at H
   obtain ⟨rfl, rfl, rfl, rfl, rfl, rfl⟩ := H
   go_enter Try.func56, Try.ntmps56
   try go_wp2_with (first | ((with_reducible refine gate_dst (N := 2) rfl ?_); refine bx_ #[.int .i64 a0_0, .int .i64 a0_1, .int .i64 a0_2, .int .i64 a0_3, .int .i64 a0_4, .int .u64 a0_5] 37 ?_; intro gb216 hg w14 BK216 hb; have GW216 := bz_ w hg; have GE216 := GW216; replace HB := bs_ w hb; clear hb hg) | ((with_reducible refine gate_dst (N := 4) rfl ?_); refine bx_ #[.int .i64 0, .int .i64 0, .int .i64 0, .int .i64 0, .int .i64 0, .int .u64 0] 37 ?_; intro gb217 hg w15 BK217 hb; have GW217 := bz_ w hg; have GE217 := GW217; have NB216_217 := bn_ BK216 hg; have NB217_216 := bm_ BK216 hg; replace BK216 := bb_ BK216 hb; replace HB := bs_ w hb; clear hb hg; replace hn216_217 := NB216_217.out; replace hn217_216 := NB217_216.out; replace hc216 := ce6_ BK216))
   replace BK216 := Aside0.mk (blk_drew BK216.out)
   replace BK217 := Aside0.mk (blk_drew BK217.out)
   replace HB := Aside0.mk (below_drew1 HB.out)
   refine start_ (n := 20) (S := fun w' => w'.cell? ⟨gb216, 0, none⟩ = some (.int .i64 a0_0) ∧ w'.cell? ⟨gb216, 1, none⟩ = some (.int .i64 a0_1) ∧ w'.cell? ⟨gb216, 2, none⟩ = some (.int .i64 a0_2) ∧ w'.cell? ⟨gb216, 3, none⟩ = some (.int .i64 a0_3) ∧ w'.cell? ⟨gb216, 4, none⟩ = some (.int .i64 a0_4) ∧ w'.cell? ⟨gb216, 5, none⟩ = some (.int .u64 a0_5)) (ds := []) (bl_ 20 0) (by kernel_rfl) rfl (by kernel_rfl) (cc6_ BK216) (fun hHeld => ?_); refine with_tabW spigotref03_Filled.tab3 spigotref03_Filled.bits3 (fun HT_ HW_ => ?_)
   generalize w15.drew = w18 at BK216 BK217 HB hHeld ⊢
   refine pa_ 0 (some 16) (bl_ 20 1) HT_ ?_
   refine pa_ 1 (some 17) (bl_ 20 3) HT_ ?_
   refine pa_ 4 (some 20) (bl_ 20 19) HT_ ?_
   refine pa_ 5 (some 21) (bl_ 20 51) HT_ ?_
   refine pa_ 9 (some 25) (bl_ 20 563) HT_ ?_
   refine ta_ 2 (some 18) (bl_ 20 567) HT_ HW_ hHeld ?_
   refine pa_ 3 (some 19) (bl_ 20 575) HT_ ?_
   refine ta_ 6 (some 22) (bl_ 20 639) HT_ HW_ hHeld ?_
   refine pa_ 7 (some 23) (bl_ 20 767) HT_ ?_
   refine ta_ 10 (some 26) (bl_ 20 1791) HT_ HW_ hHeld ?_
   refine pa_ 11 (some 27) (bl_ 20 3839) HT_ ?_
   refine pa_ 12 (some 28) (bl_ 20 7935) HT_ ?_
   refine join_ (σ := Nat) 2 (bl_ 20 262143) (fun s_ => [(24, .agg #[.int .u64 t218, .int .u64 t219]), (29, .tuple #[.agg #[.int .u64 t220, .int .u64 t221], .int .i64 t222]), (5, .pointer (some ⟨s_, 0, none⟩)), (15, .tuple #[.agg #[.int .u64 t220, .int .u64 t221], .int .i64 t222]), (30, .agg #[.int .u64 t220, .int .u64 t221]), (31, .int .i64 t222)]) (fun s_ w' => (w'.cell? ⟨gb216, 0, none⟩ = some (.int .i64 a0_0) ∧ w'.cell? ⟨gb216, 1, none⟩ = some (.int .i64 a0_1) ∧ w'.cell? ⟨gb216, 2, none⟩ = some (.int .i64 a0_2) ∧ w'.cell? ⟨gb216, 3, none⟩ = some (.int .i64 a0_3) ∧ w'.cell? ⟨gb216, 4, none⟩ = some (.int .i64 a0_4) ∧ w'.cell? ⟨gb216, 5, none⟩ = some (.int .u64 a0_5)) ∧ (w'.heap[gb216]? = some (.cells #[.int .i64 a0_0, .int .i64 a0_1, .int .i64 a0_2, .int .i64 a0_3, .int .i64 a0_4, .int .u64 a0_5] 37 (0, 0))) ∧ (w'.heap[gb217]? = some (.cells #[.int .i64 0, .int .i64 0, .int .i64 0, .int .i64 0, .int .i64 0, .int .u64 0] 37 (0, 0))) ∧ (w'.heap[s_]? = some (.cells #[.int .u64 0, .int .u64 0] 83 (0, 0))) ∧ (w.heap.size ≤ s_) ∧ (w.heap.size ≤ s_) ∧ (gb216 ≠ s_) ∧ (s_ ≠ gb216) ∧ (gb217 ≠ s_) ∧ (s_ ≠ gb217) ∧ (Below w.heap.size w w')) ?_ ?_
   rotate_left
   ·intro hCont
    refine tw_ 8 17 (some 24) (some 5) (bl_ 20 8191) (bl_ 20 139007) HT_ (fun K hK => ?_) fun K hK => ?_
    ·refine goesB_ Try.func65 #[.int .u64 (IntKind.u64.wrap (a1 - a0_5)), .int .u64 (IntKind.u64.wrap (a0_1))] ?_
     with_reducible refine (spigotref01_Mul.calls (IntKind.u64.wrap (a1 - a0_5)) (IntKind.u64.wrap (a0_1)) t218 t219 _ A9.out).mono ?_
     rintro e w19 ⟨rfl, hb⟩
     refine ⟨_, rfl, ?_⟩
     replace BK216 := bb_ BK216 hb
     replace BK217 := bb_ BK217 hb
     replace HB := bs_ w hb
     clear hb
     refine hK.out _ _ (cc6_ BK216) (fun hHeld => ?_)
     clear hK K
     refine nm_ (some 24) ?_
     refine tw_ 13 17 (some 29) (some 5) (bl_ 20 16383) (bl_ 20 139263) HT_ (fun K hK => ?_) fun K hK => ?_
     ·refine goesB_ Try.func64 #[.agg #[.int .u64 t218, .int .u64 t219], .agg #[.int .u64 0, .int .u64 (IntKind.u64.wrap (a0_4))]] ?_
      with_reducible refine (spigotref01_Add.calls t218 t219 0 (IntKind.u64.wrap (a0_4)) t220 t221 t222 _ A10.out).mono ?_
      rintro e w20 ⟨rfl, hb⟩
      refine ⟨_, rfl, ?_⟩
      replace BK216 := bb_ BK216 hb
      replace BK217 := bb_ BK217 hb
      replace HB := bs_ w hb
      clear hb
      refine hK.out _ _ (cc6_ BK216) (fun hHeld => ?_)
      clear hK K
      refine nm_ (some 29) ?_
      refine pa_ 14 (some 15) (bl_ 20 32767) HT_ ?_
      refine pa_ 15 (some 30) (bl_ 20 65535) HT_ ?_
      refine pa_ 16 (some 31) (bl_ 20 131071) HT_ ?_
      refine oa_ 17 (some 5) (bl_ 20 262143) HT_ fun K hK => ?_
      refine bs2_ #[.int .u64 0, .int .u64 0] 83 ?_
      intro gb223 hg w21 BK223 hb
      have GW223 := bz_ w hg
      have GE223 := GW223
      have NB216_223 := bn_ BK216 hg
      have NB223_216 := bm_ BK216 hg
      have NB217_223 := bn_ BK217 hg
      have NB223_217 := bm_ BK217 hg
      replace BK216 := bb_ BK216 hb
      replace BK217 := bb_ BK217 hb
      replace HB := bs_ w hb
      clear hb hg
      refine hK.out _ _ (cc6_ BK216) (fun hHeld => ?_)
      clear hK K
      refine nm_ (some 5) ?_
      exact no_ (hCont (gb223) _ ⟨hHeld, (bq_ BK216), (bq_ BK217), (bq_ BK223), GW223.out, GE223.out, NB216_223.out, NB223_216.out, NB217_223.out, NB223_217.out, bh_⟩)
     ·refine bs2_ #[.int .u64 0, .int .u64 0] 83 ?_
      intro gb223 hg w20 BK223 hb
      have GW223 := bz_ w hg
      have GE223 := GW223
      have NB216_223 := bn_ BK216 hg
      have NB223_216 := bm_ BK216 hg
      have NB217_223 := bn_ BK217 hg
      have NB223_217 := bm_ BK217 hg
      replace BK216 := bb_ BK216 hb
      replace BK217 := bb_ BK217 hb
      replace HB := bs_ w hb
      clear hb hg
      refine hK.out _ _ (cc6_ BK216) (fun hHeld => ?_)
      clear hK K
      refine nm_ (some 5) ?_
      refine oa_ 13 (some 29) (bl_ 20 147455) HT_ fun K hK => ?_
      refine goesB_ Try.func64 #[.agg #[.int .u64 t218, .int .u64 t219], .agg #[.int .u64 0, .int .u64 (IntKind.u64.wrap (a0_4))]] ?_
      with_reducible refine (spigotref01_Add.calls t218 t219 0 (IntKind.u64.wrap (a0_4)) t220 t221 t222 _ A10.out).mono ?_
      rintro e w21 ⟨rfl, hb⟩
      refine ⟨_, rfl, ?_⟩
      replace BK216 := bb_ BK216 hb
      replace BK217 := bb_ BK217 hb
      replace BK223 := bb_ BK223 hb
      replace HB := bs_ w hb
      clear hb
      refine hK.out _ _ (cc6_ BK216) (fun hHeld => ?_)
      clear hK K
      refine nm_ (some 29) ?_
      refine pa_ 14 (some 15) (bl_ 20 163839) HT_ ?_
      refine pa_ 15 (some 30) (bl_ 20 196607) HT_ ?_
      refine pa_ 16 (some 31) (bl_ 20 262143) HT_ ?_
      exact no_ (hCont (gb223) _ ⟨hHeld, (bq_ BK216), (bq_ BK217), (bq_ BK223), GW223.out, GE223.out, NB216_223.out, NB223_216.out, NB217_223.out, NB223_217.out, bh_⟩)
    ·refine bs2_ #[.int .u64 0, .int .u64 0] 83 ?_
     intro gb223 hg w19 BK223 hb
     have GW223 := bz_ w hg
     have GE223 := GW223
     have NB216_223 := bn_ BK216 hg
     have NB223_216 := bm_ BK216 hg
     have NB217_223 := bn_ BK217 hg
     have NB223_217 := bm_ BK217 hg
     replace BK216 := bb_ BK216 hb
     replace BK217 := bb_ BK217 hb
     replace HB := bs_ w hb
     clear hb hg
     refine hK.out _ _ (cc6_ BK216) (fun hHeld => ?_)
     clear hK K
     refine nm_ (some 5) ?_
     refine oa_ 8 (some 24) (bl_ 20 139263) HT_ fun K hK => ?_
     refine goesB_ Try.func65 #[.int .u64 (IntKind.u64.wrap (a1 - a0_5)), .int .u64 (IntKind.u64.wrap (a0_1))] ?_
     with_reducible refine (spigotref01_Mul.calls (IntKind.u64.wrap (a1 - a0_5)) (IntKind.u64.wrap (a0_1)) t218 t219 _ A9.out).mono ?_
     rintro e w20 ⟨rfl, hb⟩
     refine ⟨_, rfl, ?_⟩
     replace BK216 := bb_ BK216 hb
     replace BK217 := bb_ BK217 hb
     replace BK223 := bb_ BK223 hb
     replace HB := bs_ w hb
     clear hb
     refine hK.out _ _ (cc6_ BK216) (fun hHeld => ?_)
     clear hK K
     refine nm_ (some 24) ?_
     refine oa_ 13 (some 29) (bl_ 20 147455) HT_ fun K hK => ?_
     refine goesB_ Try.func64 #[.agg #[.int .u64 t218, .int .u64 t219], .agg #[.int .u64 0, .int .u64 (IntKind.u64.wrap (a0_4))]] ?_
     with_reducible refine (spigotref01_Add.calls t218 t219 0 (IntKind.u64.wrap (a0_4)) t220 t221 t222 _ A10.out).mono ?_
     rintro e w21 ⟨rfl, hb⟩
     refine ⟨_, rfl, ?_⟩
     replace BK216 := bb_ BK216 hb
     replace BK217 := bb_ BK217 hb
     replace BK223 := bb_ BK223 hb
     replace HB := bs_ w hb
     clear hb
     refine hK.out _ _ (cc6_ BK216) (fun hHeld => ?_)
     clear hK K
     refine nm_ (some 29) ?_
     refine pa_ 14 (some 15) (bl_ 20 163839) HT_ ?_
     refine pa_ 15 (some 30) (bl_ 20 196607) HT_ ?_
     refine pa_ 16 (some 31) (bl_ 20 262143) HT_ ?_
     exact no_ (hCont (gb223) _ ⟨hHeld, (bq_ BK216), (bq_ BK217), (bq_ BK223), GW223.out, GE223.out, NB216_223.out, NB223_216.out, NB217_223.out, NB223_217.out, bh_⟩)
   rintro gb223 w22 ⟨hS_, h0_, h1_, h2_, h3_, h4_, h5_, h6_, h7_, h8_, h9_⟩
   have BK223 := Aside0.mk h2_
   have GW223 := Aside0.mk h3_
   have GE223 := Aside0.mk h4_
   have NB216_223 := Aside0.mk h5_
   have NB223_216 := Aside0.mk h6_
   have NB217_223 := Aside0.mk h7_
   have NB223_217 := Aside0.mk h8_
   replace BK216 := Aside0.mk h0_
   replace BK217 := Aside0.mk h1_
   replace HB := Aside0.mk h9_
   clear h0_ h1_ h2_ h3_ h4_ h5_ h6_ h7_ h8_ h9_
   have hHeld := hS_
   refine nq_ ?_
   refine oa_ 18 none (bl_ 20 524287) HT_ fun K hK => ?_
   have hs23 : w22.cell? ⟨gb223, 0, none⟩ = some (.int .u64 0) := (blk_cell BK223.out 0).trans rfl
   have hfs23 := blk_frozen BK223.out 0
   have hns23_0 := NB216_223.out
   have hns23_1 := NB217_223.out
   have hms23_0 := NB223_216.out
   have hms23_1 := NB223_217.out
   have hs24 : w22.cell? ⟨gb223, 1, none⟩ = some (.int .u64 0) := (blk_cell BK223.out 1).trans rfl
   have hfs24 := blk_frozen BK223.out 1
   have hns24_0 := NB216_223.out
   have hns24_1 := NB217_223.out
   have hms24_0 := NB223_216.out
   have hms24_1 := NB223_217.out
   refine sk_ ?_
   refine hK.out _ _ (cf6_ hHeld) (fun hHeld => ?_)
   clear hK K
   refine pa_ 19 (some 6) (bl_ 20 1048575) HT_ ?_
   refine done_ (done_of HT_.out (by kernel_rfl)) ?_
   replace hn223_216 := NB223_216.out
   replace hn216_223 := NB216_223.out
   replace hn223_217 := NB223_217.out
   replace hn217_223 := NB217_223.out
   replace hc223 := ce2_ BK223
   replace hc216 := ce6_ BK216
   try go_wp2_with (first | ((with_reducible refine gate_callee (f := 66) rfl ?_); refine goesA_ (some 38) Try.func66 #[.agg #[.int .u64 t220, .int .u64 t221], .int .u64 (IntKind.u64.wrap (a0_2))] ?_; (with_reducible refine (spigotref01_Div.calls k t220 t221 (IntKind.u64.wrap (a0_2)) t224 t225 t226 t227 _ A11.out).mono ?_); rintro e w29 ⟨rfl, hb⟩; refine ⟨_, rfl, ?_⟩; replace BK216 := bf_ BK216 hb; replace BK217 := bf_ BK217 hb; replace BK223 := Aside0.mk (blk_below (g := gb223) (o := .cells #[.int .u64 t220, .int .u64 t221] 83 (0, 0)) (bp2_ (bq_ BK223)) hb); replace HB := bs_ w hb; clear hb) | ((with_reducible refine gate_dst (N := 7) rfl ?_); refine bx_ #[.int .u64 0, .int .u64 0] 83 ?_; intro gb228 hg w30 BK228 hb; have GW228 := bz_ w hg; have GE228 := GW228; have NB216_228 := bn_ BK216 hg; have NB228_216 := bm_ BK216 hg; have NB217_228 := bn_ BK217 hg; have NB228_217 := bm_ BK217 hg; have NB223_228 := bn_ BK223 hg; have NB228_223 := bm_ BK223 hg; replace BK216 := bb_ BK216 hb; replace BK217 := bb_ BK217 hb; replace BK223 := bb_ BK223 hb; replace HB := bs_ w hb; clear hb hg; replace hn228_216 := NB228_216.out; replace hn216_228 := NB216_228.out; replace hn228_217 := NB228_217.out; replace hn217_228 := NB217_228.out; replace hn228_223 := NB228_223.out; replace hn223_228 := NB223_228.out; replace hc228 := ce2_ BK228; replace hc216 := ce6_ BK216) | ((with_reducible refine gate_callee (f := 67) rfl ?_); refine goesA_ (some 53) Try.func67 #[.agg #[.int .u64 t224, .int .u64 t225], .agg #[.int .u64 0, .int .u64 (IntKind.u64.wrap (wrap64 (a0_0 - a0_3)))]] ?_; (with_reducible refine (spigotref01_Cmp.calls k t224 t225 0 (IntKind.u64.wrap (wrap64 (a0_0 - a0_3))) t229 _ A12.out).mono ?_); rintro e w36 ⟨rfl, hb⟩; refine ⟨_, rfl, ?_⟩; replace BK216 := Aside0.mk (blk_below (g := gb216) (o := .cells #[.int .i64 a0_0, .int .i64 a0_1, .int .i64 a0_2, .int .i64 a0_3, .int .i64 a0_4, .int .u64 a1] 37 (0, 0)) (blk_put (cs := #[.int .i64 a0_0, .int .i64 a0_1, .int .i64 a0_2, .int .i64 a0_3, .int .i64 a0_4, .int .u64 a0_5]) (bt_ BK216) 5 _ rfl) hb); replace BK217 := bf_ BK217 hb; replace BK223 := bf_ BK223 hb; replace BK228 := Aside0.mk (blk_below (g := gb228) (o := .cells #[.int .u64 t224, .int .u64 t225] 83 (0, 0)) (blk_far (bp2_ (bq_ BK228)) NB228_216.out _) hb); replace HB := bs_ w hb; clear hb; replace hc216 := ce6_ BK216; replace hc217 := ce6_ BK217))
   refine bodyPost_ret (results_cell_row rfl _ _ gb217 37 #[.int .i64 a0_0, .int .i64 a0_1, .int .i64 a0_2, .int .i64 a0_0, .int .i64 0, .int .u64 a1] (0, 0) _ rfl (bp6_ (bt_ BK217)) Try.underlying37 rfl (by kernel_rfl)) rfl ?_
   exact fi_
  ·rw [if_neg c13] at H
   have c13b0 : decide (0 ≤ t229) = false := decide_eq_false c13
   clear c13
   simp only [Option.some.injEq, Prod.mk.injEq] at H
   obtain ⟨rfl, rfl, rfl, rfl, rfl, rfl⟩ := H
   go_enter Try.func56, Try.ntmps56
   try go_wp2_with (first | ((with_reducible refine gate_dst (N := 2) rfl ?_); refine bx_ #[.int .i64 a0_0, .int .i64 a0_1, .int .i64 a0_2, .int .i64 a0_3, .int .i64 a0_4, .int .u64 a0_5] 37 ?_; intro gb216 hg w39 BK216 hb; have GW216 := bz_ w hg; have GE216 := GW216; replace HB := bs_ w hb; clear hb hg) | ((with_reducible refine gate_dst (N := 4) rfl ?_); refine bx_ #[.int .i64 0, .int .i64 0, .int .i64 0, .int .i64 0, .int .i64 0, .int .u64 0] 37 ?_; intro gb217 hg w40 BK217 hb; have GW217 := bz_ w hg; have GE217 := GW217; have NB216_217 := bn_ BK216 hg; have NB217_216 := bm_ BK216 hg; replace BK216 := bb_ BK216 hb; replace HB := bs_ w hb; clear hb hg; replace hn216_217 := NB216_217.out; replace hn217_216 := NB217_216.out; replace hc216 := ce6_ BK216))
   replace BK216 := Aside0.mk (blk_drew BK216.out)
   replace BK217 := Aside0.mk (blk_drew BK217.out)
   replace HB := Aside0.mk (below_drew1 HB.out)
   refine start_ (n := 20) (S := fun w' => w'.cell? ⟨gb216, 0, none⟩ = some (.int .i64 a0_0) ∧ w'.cell? ⟨gb216, 1, none⟩ = some (.int .i64 a0_1) ∧ w'.cell? ⟨gb216, 2, none⟩ = some (.int .i64 a0_2) ∧ w'.cell? ⟨gb216, 3, none⟩ = some (.int .i64 a0_3) ∧ w'.cell? ⟨gb216, 4, none⟩ = some (.int .i64 a0_4) ∧ w'.cell? ⟨gb216, 5, none⟩ = some (.int .u64 a0_5)) (ds := []) (bl_ 20 0) (by kernel_rfl) rfl (by kernel_rfl) (cc6_ BK216) (fun hHeld => ?_); refine with_tabW spigotref03_Filled.tab3 spigotref03_Filled.bits3 (fun HT_ HW_ => ?_)
   generalize w40.drew = w43 at BK216 BK217 HB hHeld ⊢
   refine pa_ 0 (some 16) (bl_ 20 1) HT_ ?_
   refine pa_ 1 (some 17) (bl_ 20 3) HT_ ?_
   refine pa_ 4 (some 20) (bl_ 20 19) HT_ ?_
   refine pa_ 5 (some 21) (bl_ 20 51) HT_ ?_
   refine pa_ 9 (some 25) (bl_ 20 563) HT_ ?_
   refine ta_ 2 (some 18) (bl_ 20 567) HT_ HW_ hHeld ?_
   refine pa_ 3 (some 19) (bl_ 20 575) HT_ ?_
   refine ta_ 6 (some 22) (bl_ 20 639) HT_ HW_ hHeld ?_
   refine pa_ 7 (some 23) (bl_ 20 767) HT_ ?_
   refine ta_ 10 (some 26) (bl_ 20 1791) HT_ HW_ hHeld ?_
   refine pa_ 11 (some 27) (bl_ 20 3839) HT_ ?_
   refine pa_ 12 (some 28) (bl_ 20 7935) HT_ ?_
   refine join_ (σ := Nat) 2 (bl_ 20 262143) (fun s_ => [(24, .agg #[.int .u64 t218, .int .u64 t219]), (29, .tuple #[.agg #[.int .u64 t220, .int .u64 t221], .int .i64 t222]), (5, .pointer (some ⟨s_, 0, none⟩)), (15, .tuple #[.agg #[.int .u64 t220, .int .u64 t221], .int .i64 t222]), (30, .agg #[.int .u64 t220, .int .u64 t221]), (31, .int .i64 t222)]) (fun s_ w' => (w'.cell? ⟨gb216, 0, none⟩ = some (.int .i64 a0_0) ∧ w'.cell? ⟨gb216, 1, none⟩ = some (.int .i64 a0_1) ∧ w'.cell? ⟨gb216, 2, none⟩ = some (.int .i64 a0_2) ∧ w'.cell? ⟨gb216, 3, none⟩ = some (.int .i64 a0_3) ∧ w'.cell? ⟨gb216, 4, none⟩ = some (.int .i64 a0_4) ∧ w'.cell? ⟨gb216, 5, none⟩ = some (.int .u64 a0_5)) ∧ (w'.heap[gb216]? = some (.cells #[.int .i64 a0_0, .int .i64 a0_1, .int .i64 a0_2, .int .i64 a0_3, .int .i64 a0_4, .int .u64 a0_5] 37 (0, 0))) ∧ (w'.heap[gb217]? = some (.cells #[.int .i64 0, .int .i64 0, .int .i64 0, .int .i64 0, .int .i64 0, .int .u64 0] 37 (0, 0))) ∧ (w'.heap[s_]? = some (.cells #[.int .u64 0, .int .u64 0] 83 (0, 0))) ∧ (w.heap.size ≤ s_) ∧ (w.heap.size ≤ s_) ∧ (gb216 ≠ s_) ∧ (s_ ≠ gb216) ∧ (gb217 ≠ s_) ∧ (s_ ≠ gb217) ∧ (Below w.heap.size w w')) ?_ ?_
   rotate_left
   ·intro hCont
    refine tw_ 8 17 (some 24) (some 5) (bl_ 20 8191) (bl_ 20 139007) HT_ (fun K hK => ?_) fun K hK => ?_
    ·refine goesB_ Try.func65 #[.int .u64 (IntKind.u64.wrap (a1 - a0_5)), .int .u64 (IntKind.u64.wrap (a0_1))] ?_
     with_reducible refine (spigotref01_Mul.calls (IntKind.u64.wrap (a1 - a0_5)) (IntKind.u64.wrap (a0_1)) t218 t219 _ A9.out).mono ?_
     rintro e w44 ⟨rfl, hb⟩
     refine ⟨_, rfl, ?_⟩
     replace BK216 := bb_ BK216 hb
     replace BK217 := bb_ BK217 hb
     replace HB := bs_ w hb
     clear hb
     refine hK.out _ _ (cc6_ BK216) (fun hHeld => ?_)
     clear hK K
     refine nm_ (some 24) ?_
     refine tw_ 13 17 (some 29) (some 5) (bl_ 20 16383) (bl_ 20 139263) HT_ (fun K hK => ?_) fun K hK => ?_
     ·refine goesB_ Try.func64 #[.agg #[.int .u64 t218, .int .u64 t219], .agg #[.int .u64 0, .int .u64 (IntKind.u64.wrap (a0_4))]] ?_
      with_reducible refine (spigotref01_Add.calls t218 t219 0 (IntKind.u64.wrap (a0_4)) t220 t221 t222 _ A10.out).mono ?_
      rintro e w45 ⟨rfl, hb⟩
      refine ⟨_, rfl, ?_⟩
      replace BK216 := bb_ BK216 hb
      replace BK217 := bb_ BK217 hb
      replace HB := bs_ w hb
      clear hb
      refine hK.out _ _ (cc6_ BK216) (fun hHeld => ?_)
      clear hK K
      refine nm_ (some 29) ?_
      refine pa_ 14 (some 15) (bl_ 20 32767) HT_ ?_
      refine pa_ 15 (some 30) (bl_ 20 65535) HT_ ?_
      refine pa_ 16 (some 31) (bl_ 20 131071) HT_ ?_
      refine oa_ 17 (some 5) (bl_ 20 262143) HT_ fun K hK => ?_
      refine bs2_ #[.int .u64 0, .int .u64 0] 83 ?_
      intro gb223 hg w46 BK223 hb
      have GW223 := bz_ w hg
      have GE223 := GW223
      have NB216_223 := bn_ BK216 hg
      have NB223_216 := bm_ BK216 hg
      have NB217_223 := bn_ BK217 hg
      have NB223_217 := bm_ BK217 hg
      replace BK216 := bb_ BK216 hb
      replace BK217 := bb_ BK217 hb
      replace HB := bs_ w hb
      clear hb hg
      refine hK.out _ _ (cc6_ BK216) (fun hHeld => ?_)
      clear hK K
      refine nm_ (some 5) ?_
      exact no_ (hCont (gb223) _ ⟨hHeld, (bq_ BK216), (bq_ BK217), (bq_ BK223), GW223.out, GE223.out, NB216_223.out, NB223_216.out, NB217_223.out, NB223_217.out, bh_⟩)
     ·refine bs2_ #[.int .u64 0, .int .u64 0] 83 ?_
      intro gb223 hg w45 BK223 hb
      have GW223 := bz_ w hg
      have GE223 := GW223
      have NB216_223 := bn_ BK216 hg
      have NB223_216 := bm_ BK216 hg
      have NB217_223 := bn_ BK217 hg
      have NB223_217 := bm_ BK217 hg
      replace BK216 := bb_ BK216 hb
      replace BK217 := bb_ BK217 hb
      replace HB := bs_ w hb
      clear hb hg
      refine hK.out _ _ (cc6_ BK216) (fun hHeld => ?_)
      clear hK K
      refine nm_ (some 5) ?_
      refine oa_ 13 (some 29) (bl_ 20 147455) HT_ fun K hK => ?_
      refine goesB_ Try.func64 #[.agg #[.int .u64 t218, .int .u64 t219], .agg #[.int .u64 0, .int .u64 (IntKind.u64.wrap (a0_4))]] ?_
      with_reducible refine (spigotref01_Add.calls t218 t219 0 (IntKind.u64.wrap (a0_4)) t220 t221 t222 _ A10.out).mono ?_
      rintro e w46 ⟨rfl, hb⟩
      refine ⟨_, rfl, ?_⟩
      replace BK216 := bb_ BK216 hb
      replace BK217 := bb_ BK217 hb
      replace BK223 := bb_ BK223 hb
      replace HB := bs_ w hb
      clear hb
      refine hK.out _ _ (cc6_ BK216) (fun hHeld => ?_)
      clear hK K
      refine nm_ (some 29) ?_
      refine pa_ 14 (some 15) (bl_ 20 163839) HT_ ?_
      refine pa_ 15 (some 30) (bl_ 20 196607) HT_ ?_
      refine pa_ 16 (some 31) (bl_ 20 262143) HT_ ?_
      exact no_ (hCont (gb223) _ ⟨hHeld, (bq_ BK216), (bq_ BK217), (bq_ BK223), GW223.out, GE223.out, NB216_223.out, NB223_216.out, NB217_223.out, NB223_217.out, bh_⟩)
    ·refine bs2_ #[.int .u64 0, .int .u64 0] 83 ?_
     intro gb223 hg w44 BK223 hb
     have GW223 := bz_ w hg
     have GE223 := GW223
     have NB216_223 := bn_ BK216 hg
     have NB223_216 := bm_ BK216 hg
     have NB217_223 := bn_ BK217 hg
     have NB223_217 := bm_ BK217 hg
     replace BK216 := bb_ BK216 hb
     replace BK217 := bb_ BK217 hb
     replace HB := bs_ w hb
     clear hb hg
     refine hK.out _ _ (cc6_ BK216) (fun hHeld => ?_)
     clear hK K
     refine nm_ (some 5) ?_
     refine oa_ 8 (some 24) (bl_ 20 139263) HT_ fun K hK => ?_
     refine goesB_ Try.func65 #[.int .u64 (IntKind.u64.wrap (a1 - a0_5)), .int .u64 (IntKind.u64.wrap (a0_1))] ?_
     with_reducible refine (spigotref01_Mul.calls (IntKind.u64.wrap (a1 - a0_5)) (IntKind.u64.wrap (a0_1)) t218 t219 _ A9.out).mono ?_
     rintro e w45 ⟨rfl, hb⟩
     refine ⟨_, rfl, ?_⟩
     replace BK216 := bb_ BK216 hb
     replace BK217 := bb_ BK217 hb
     replace BK223 := bb_ BK223 hb
     replace HB := bs_ w hb
     clear hb
     refine hK.out _ _ (cc6_ BK216) (fun hHeld => ?_)
     clear hK K
     refine nm_ (some 24) ?_
     refine oa_ 13 (some 29) (bl_ 20 147455) HT_ fun K hK => ?_
     refine goesB_ Try.func64 #[.agg #[.int .u64 t218, .int .u64 t219], .agg #[.int .u64 0, .int .u64 (IntKind.u64.wrap (a0_4))]] ?_
     with_reducible refine (spigotref01_Add.calls t218 t219 0 (IntKind.u64.wrap (a0_4)) t220 t221 t222 _ A10.out).mono ?_
     rintro e w46 ⟨rfl, hb⟩
     refine ⟨_, rfl, ?_⟩
     replace BK216 := bb_ BK216 hb
     replace BK217 := bb_ BK217 hb
     replace BK223 := bb_ BK223 hb
     replace HB := bs_ w hb
     clear hb
     refine hK.out _ _ (cc6_ BK216) (fun hHeld => ?_)
     clear hK K
     refine nm_ (some 29) ?_
     refine pa_ 14 (some 15) (bl_ 20 163839) HT_ ?_
     refine pa_ 15 (some 30) (bl_ 20 196607) HT_ ?_
     refine pa_ 16 (some 31) (bl_ 20 262143) HT_ ?_
     exact no_ (hCont (gb223) _ ⟨hHeld, (bq_ BK216), (bq_ BK217), (bq_ BK223), GW223.out, GE223.out, NB216_223.out, NB223_216.out, NB217_223.out, NB223_217.out, bh_⟩)
   rintro gb223 w47 ⟨hS_, h0_, h1_, h2_, h3_, h4_, h5_, h6_, h7_, h8_, h9_⟩
   have BK223 := Aside0.mk h2_
   have GW223 := Aside0.mk h3_
   have GE223 := Aside0.mk h4_
   have NB216_223 := Aside0.mk h5_
   have NB223_216 := Aside0.mk h6_
   have NB217_223 := Aside0.mk h7_
   have NB223_217 := Aside0.mk h8_
   replace BK216 := Aside0.mk h0_
   replace BK217 := Aside0.mk h1_
   replace HB := Aside0.mk h9_
   clear h0_ h1_ h2_ h3_ h4_ h5_ h6_ h7_ h8_ h9_
   have hHeld := hS_
   refine nq_ ?_
   refine oa_ 18 none (bl_ 20 524287) HT_ fun K hK => ?_
   have hs48 : w47.cell? ⟨gb223, 0, none⟩ = some (.int .u64 0) := (blk_cell BK223.out 0).trans rfl
   have hfs48 := blk_frozen BK223.out 0
   have hns48_0 := NB216_223.out
   have hns48_1 := NB217_223.out
   have hms48_0 := NB223_216.out
   have hms48_1 := NB223_217.out
   have hs49 : w47.cell? ⟨gb223, 1, none⟩ = some (.int .u64 0) := (blk_cell BK223.out 1).trans rfl
   have hfs49 := blk_frozen BK223.out 1
   have hns49_0 := NB216_223.out
   have hns49_1 := NB217_223.out
   have hms49_0 := NB223_216.out
   have hms49_1 := NB223_217.out
   refine sk_ ?_
   refine hK.out _ _ (cf6_ hHeld) (fun hHeld => ?_)
   clear hK K
   refine pa_ 19 (some 6) (bl_ 20 1048575) HT_ ?_
   refine done_ (done_of HT_.out (by kernel_rfl)) ?_
   replace hn223_216 := NB223_216.out
   replace hn216_223 := NB216_223.out
   replace hn223_217 := NB223_217.out
   replace hn217_223 := NB217_223.out
   replace hc223 := ce2_ BK223
   replace hc216 := ce6_ BK216
   try go_wp2_with (first | ((with_reducible refine gate_callee (f := 66) rfl ?_); refine goesA_ (some 38) Try.func66 #[.agg #[.int .u64 t220, .int .u64 t221], .int .u64 (IntKind.u64.wrap (a0_2))] ?_; (with_reducible refine (spigotref01_Div.calls k t220 t221 (IntKind.u64.wrap (a0_2)) t224 t225 t226 t227 _ A11.out).mono ?_); rintro e w54 ⟨rfl, hb⟩; refine ⟨_, rfl, ?_⟩; replace BK216 := bf_ BK216 hb; replace BK217 := bf_ BK217 hb; replace BK223 := Aside0.mk (blk_below (g := gb223) (o := .cells #[.int .u64 t220, .int .u64 t221] 83 (0, 0)) (bp2_ (bq_ BK223)) hb); replace HB := bs_ w hb; clear hb) | ((with_reducible refine gate_dst (N := 7) rfl ?_); refine bx_ #[.int .u64 0, .int .u64 0] 83 ?_; intro gb228 hg w55 BK228 hb; have GW228 := bz_ w hg; have GE228 := GW228; have NB216_228 := bn_ BK216 hg; have NB228_216 := bm_ BK216 hg; have NB217_228 := bn_ BK217 hg; have NB228_217 := bm_ BK217 hg; have NB223_228 := bn_ BK223 hg; have NB228_223 := bm_ BK223 hg; replace BK216 := bb_ BK216 hb; replace BK217 := bb_ BK217 hb; replace BK223 := bb_ BK223 hb; replace HB := bs_ w hb; clear hb hg; replace hn228_216 := NB228_216.out; replace hn216_228 := NB216_228.out; replace hn228_217 := NB228_217.out; replace hn217_228 := NB217_228.out; replace hn228_223 := NB228_223.out; replace hn223_228 := NB223_228.out; replace hc228 := ce2_ BK228; replace hc216 := ce6_ BK216) | ((with_reducible refine gate_callee (f := 67) rfl ?_); refine goesA_ (some 53) Try.func67 #[.agg #[.int .u64 t224, .int .u64 t225], .agg #[.int .u64 0, .int .u64 (IntKind.u64.wrap (wrap64 (a0_0 - a0_3)))]] ?_; (with_reducible refine (spigotref01_Cmp.calls k t224 t225 0 (IntKind.u64.wrap (wrap64 (a0_0 - a0_3))) t229 _ A12.out).mono ?_); rintro e w61 ⟨rfl, hb⟩; refine ⟨_, rfl, ?_⟩; replace BK216 := Aside0.mk (blk_below (g := gb216) (o := .cells #[.int .i64 a0_0, .int .i64 a0_1, .int .i64 a0_2, .int .i64 a0_3, .int .i64 a0_4, .int .u64 a1] 37 (0, 0)) (blk_put (cs := #[.int .i64 a0_0, .int .i64 a0_1, .int .i64 a0_2, .int .i64 a0_3, .int .i64 a0_4, .int .u64 a0_5]) (bt_ BK216) 5 _ rfl) hb); replace BK217 := bf_ BK217 hb; replace BK223 := bf_ BK223 hb; replace BK228 := Aside0.mk (blk_below (g := gb228) (o := .cells #[.int .u64 t224, .int .u64 t225] 83 (0, 0)) (blk_far (bp2_ (bq_ BK228)) NB228_216.out _) hb); replace HB := bs_ w hb; clear hb; replace hc216 := ce6_ BK216; replace hc228 := ce2_ BK228; replace hc217 := ce6_ BK217))
   refine bodyPost_ret (results_cell_row rfl _ _ gb217 37 #[.int .i64 a0_0, .int .i64 a0_1, .int .i64 a0_2, .int .i64 (wrap64 (a0_3 + (wrap64 (t225)))), .int .i64 (wrap64 (t226)), .int .u64 a1] (0, 0) _ rfl (bp6_ (bt_ BK217)) Try.underlying37 rfl (by kernel_rfl)) rfl ?_
   exact fi_

end Go.Proofs.Ytaegpnbgppjicaa.X
