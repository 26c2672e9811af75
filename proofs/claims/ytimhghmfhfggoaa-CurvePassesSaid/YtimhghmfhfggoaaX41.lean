-- written by xprint.py, a program of this session over the kit's print
import Derived.Test.YtimhghmfhfggoaaX0
import Derived.Test.YtimhghmfhfggoaaX12
import Derived.Test.YtimhghmfhfggoaaX13
import Derived.Test.YtimhghmfhfggoaaX14
import Derived.Test.YtimhghmfhfggoaaX40
namespace Go.Proofs.Ytimhghmfhfggoaa.X
open Go.RowKit Go.Proofs.YtimhghmfhfggoaaW.PrintWords Go.Proofs.YtimhghmfhfggoaaW.PrintLast Go.Proofs.YtimhghmfhfggoaaW.PrintMore
attribute [local go_sem] max2_int min2_int max_two min_two max_three min_three max_four min_four   -- for this text's walks alone
set_option linter.unusedVariables false
set_option linter.unusedSimpArgs false

def spigotref03_Filled.f (k : Nat) (a0_0 : Int) (a0_1 : Int) (a0_2 : Int) (a0_3 : Int) (a0_4 : Int) (a0_5 : Int) (a1 : Int) : Option (Int × Int × Int × Int × Int × Int) := if a1 < a0_5 then (some (a0_0, a0_1, a0_2, a0_3, a0_4, a0_5)) else ((spigotref01_Mul.f (IntKind.u64.wrap (a1 - a0_5)) (IntKind.u64.wrap (a0_1))).bind fun bt447 => ((spigotref01_Add.f bt447.1 bt447.2 0 (IntKind.u64.wrap (a0_4))).bind fun bt449 => ((spigotref01_Div.f k bt449.1 bt449.2.1 (IntKind.u64.wrap (a0_2))).bind fun bt453 => ((spigotref01_Cmp.f k bt453.1 bt453.2.1 0 (IntKind.u64.wrap (wrap64 (a0_0 - a0_3)))).bind fun t458 => (if t458 ≥ 0 then (some (a0_0, a0_1, a0_2, a0_0, 0, a1)) else (some (a0_0, a0_1, a0_2, wrap64 (a0_3 + (wrap64 (bt453.2.1))), wrap64 (bt453.2.2.1), a1)))))))
def spigotref03_Filled.T3 : Bool × List (List Nat × List Nat) := (true, [([], []), ([], []), ([1], [1]), ([0, 2], [0, 2]), ([], []), ([4], [4]), ([5], [5]), ([6], [6]), ([3, 7], [3, 7]), ([], []), ([9], [9]), ([10], [10]), ([11], [11]), ([8, 12, 8], [8, 12]), ([13], [13]), ([14], [14]), ([14], [14]), ([], []), ([17, 15, 13, 0, 1, 2, 3, 4, 5, 6, 7, 8, 9, 10, 11, 12, 13, 14, 15, 17], [15, 17]), ([16, 18, 0, 1, 2, 3, 4, 5, 6, 7, 8, 9, 10, 11, 12, 13, 14, 15, 16, 17, 18], [16])])
def spigotref03_Filled.B3 : List Nat := [0, 0, 2, 7, 0, 16, 48, 112, 255, 0, 512, 1536, 3584, 8191, 16383, 32767, 32767, 0, 196607, 524287]
theorem spigotref03_Filled.tab3 : rtab .any (opsOf Try.f86 3) = spigotref03_Filled.T3 := by kernel_rfl
theorem spigotref03_Filled.bits3 : waitsOk spigotref03_Filled.T3.2 spigotref03_Filled.B3 = true := by kernel_rfl
set_option maxHeartbeats 8000000 in
set_option maxRecDepth 100000 in
theorem spigotref03_Filled.calls (k : Nat) (a0_0 : Int) (a0_1 : Int) (a0_2 : Int) (a0_3 : Int) (a0_4 : Int) (a0_5 : Int) (a1 : Int) (r1 : Int) (r2 : Int) (r3 : Int) (r4 : Int) (r5 : Int) (r6 : Int) (w : World) (h : spigotref03_Filled.f k a0_0 a0_1 a0_2 a0_3 a0_4 a0_5 a1 = some (r1, r2, r3, r4, r5, r6)) :
  Calls Try.prog 86 #[.agg #[.int .i64 a0_0, .int .i64 a0_1, .int .i64 a0_2, .int .i64 a0_3, .int .i64 a0_4, .int .u64 a0_5], .int .u64 a1] w fun e w' => e = .returned (.agg #[.int .i64 r1, .int .i64 r2, .int .i64 r3, .int .i64 r4, .int .i64 r5, .int .u64 r6]) ∧ Below w.heap.size w w' := by
 have hu51 := Try.underlying51
 have hu92 := Try.underlying92
 have HB := Aside0.mk (Below.refl w.heap.size w)
 have H : (if a1 < a0_5 then (some (a0_0, a0_1, a0_2, a0_3, a0_4, a0_5)) else ((spigotref01_Mul.f (IntKind.u64.wrap (a1 - a0_5)) (IntKind.u64.wrap (a0_1))).bind fun bt447 => ((spigotref01_Add.f bt447.1 bt447.2 0 (IntKind.u64.wrap (a0_4))).bind fun bt449 => ((spigotref01_Div.f k bt449.1 bt449.2.1 (IntKind.u64.wrap (a0_2))).bind fun bt453 => ((spigotref01_Cmp.f k bt453.1 bt453.2.1 0 (IntKind.u64.wrap (wrap64 (a0_0 - a0_3)))).bind fun t458 => (if t458 ≥ 0 then (some (a0_0, a0_1, a0_2, a0_0, 0, a1)) else (some (a0_0, a0_1, a0_2, wrap64 (a0_3 + (wrap64 (bt453.2.1))), wrap64 (bt453.2.2.1), a1)))))))) = some (r1, r2, r3, r4, r5, r6) := h
 clear h
 by_cases c3 : a1 < a0_5
 ·rw [if_pos c3] at H
  have c3b0 : decide (a1 < a0_5) = true := decide_eq_true c3
  clear c3
  simp only [Option.some.injEq, Prod.mk.injEq] at H
  obtain ⟨rfl, rfl, rfl, rfl, rfl, rfl⟩ := H
  go_enter Try.func86, Try.ntmps86
  go_wp2_with (first | ((with_reducible refine gate_dst (N := 2) rfl ?_); refine bx_ #[.int .i64 a0_0, .int .i64 a0_1, .int .i64 a0_2, .int .i64 a0_3, .int .i64 a0_4, .int .u64 a0_5] 51 ?_; intro gb445 hg w4 BK445 hb; have GW445 := bz_ w hg; have GE445 := GW445; replace HB := bs_ w hb; clear hb hg) | ((with_reducible refine gate_dst (N := 4) rfl ?_); refine bx_ #[.int .i64 0, .int .i64 0, .int .i64 0, .int .i64 0, .int .i64 0, .int .u64 0] 51 ?_; intro gb446 hg w5 BK446 hb; have GW446 := bz_ w hg; have GE446 := GW446; have NB445_446 := bn_ BK445 hg; have NB446_445 := bm_ BK445 hg; replace BK445 := bb_ BK445 hb; replace HB := bs_ w hb; clear hb hg; replace hn445_446 := NB445_446.out; replace hn446_445 := NB446_445.out; replace hc445 := ce6_ BK445; replace hc446 := ce6_ BK446))
  refine bodyPost_ret (results_cell_row rfl _ _ gb446 51 #[.int .i64 a0_0, .int .i64 a0_1, .int .i64 a0_2, .int .i64 a0_3, .int .i64 a0_4, .int .u64 a0_5] (0, 0) _ rfl (bp6_ (bq_ BK446)) Try.underlying51 rfl (by kernel_rfl)) rfl ?_
  exact fi_
 ·rw [if_neg c3] at H
  have c3b0 : decide (a1 < a0_5) = false := decide_eq_false c3
  clear c3
  have H0_ := bo_ H; clear H; obtain ⟨⟨t447, t448⟩, A9, H⟩ := H0_
  try dsimp only at H
  have H0_ := bo_ H; clear H; obtain ⟨⟨t449, t450, t451⟩, A10, H⟩ := H0_
  try dsimp only at H
  have H0_ := bo_ H; clear H; obtain ⟨⟨t453, t454, t455, t456⟩, A11, H⟩ := H0_
  try dsimp only at H
  have H0_ := bo_ H; clear H; obtain ⟨t458, A12, H⟩ := H0_
  try dsimp only at H
  by_cases c13 : t458 ≥ 0
  ·rw [if_pos c13] at H
   have c13b0 : decide (0 ≤ t458) = true := decide_eq_true c13
   clear c13
   simp only [Option.some.injEq, Prod.mk.injEq] at H
   obtain ⟨rfl, rfl, rfl, rfl, rfl, rfl⟩ := H
   go_enter Try.func86, Try.ntmps86
   try go_wp2_with (first | ((with_reducible refine gate_dst (N := 2) rfl ?_); refine bx_ #[.int .i64 a0_0, .int .i64 a0_1, .int .i64 a0_2, .int .i64 a0_3, .int .i64 a0_4, .int .u64 a0_5] 51 ?_; intro gb445 hg w14 BK445 hb; have GW445 := bz_ w hg; have GE445 := GW445; replace HB := bs_ w hb; clear hb hg) | ((with_reducible refine gate_dst (N := 4) rfl ?_); refine bx_ #[.int .i64 0, .int .i64 0, .int .i64 0, .int .i64 0, .int .i64 0, .int .u64 0] 51 ?_; intro gb446 hg w15 BK446 hb; have GW446 := bz_ w hg; have GE446 := GW446; have NB445_446 := bn_ BK445 hg; have NB446_445 := bm_ BK445 hg; replace BK445 := bb_ BK445 hb; replace HB := bs_ w hb; clear hb hg; replace hn445_446 := NB445_446.out; replace hn446_445 := NB446_445.out; replace hc445 := ce6_ BK445))
   replace BK445 := Aside0.mk (blk_drew BK445.out)
   replace BK446 := Aside0.mk (blk_drew BK446.out)
   replace HB := Aside0.mk (below_drew1 HB.out)
   refine start_ (n := 20) (S := fun w' => w'.cell? ⟨gb445, 0, none⟩ = some (.int .i64 a0_0) ∧ w'.cell? ⟨gb445, 1, none⟩ = some (.int .i64 a0_1) ∧ w'.cell? ⟨gb445, 2, none⟩ = some (.int .i64 a0_2) ∧ w'.cell? ⟨gb445, 3, none⟩ = some (.int .i64 a0_3) ∧ w'.cell? ⟨gb445, 4, none⟩ = some (.int .i64 a0_4) ∧ w'.cell? ⟨gb445, 5, none⟩ = some (.int .u64 a0_5)) (ds := []) (bl_ 20 0) (by kernel_rfl) rfl (by kernel_rfl) (cc6_ BK445) (fun hHeld => ?_); refine with_tabW spigotref03_Filled.tab3 spigotref03_Filled.bits3 (fun HT_ HW_ => ?_)
   generalize w15.drew = w18 at BK445 BK446 HB hHeld ⊢
   refine pa_ 0 (some 16) (bl_ 20 1) HT_ ?_
   refine pa_ 1 (some 17) (bl_ 20 3) HT_ ?_
   refine pa_ 4 (some 20) (bl_ 20 19) HT_ ?_
   refine pa_ 5 (some 21) (bl_ 20 51) HT_ ?_
   refine pa_ 9 (some 25) (bl_ 20 563) HT_ ?_
   refine ta_ 2 (some 18) (bl_ 20 567) HT_ HW_ hHeld ?_
   refine pa_ 3 (some 19) (bl_ 20 575) HT_ ?_
   refine ta_ 6 (some 22) (bl_ 20 639) HT_ HW_ hHeld ?_
   refine pa_ 7 (some 23) (bl_ 20 767) HT_ ?_
   refine ta_ 10 (some 26) (bl_ 20 1791) HT_ HW_ hHeld ?_
   refine pa_ 11 (some 27) (bl_ 20 3839) HT_ ?_
   refine pa_ 12 (some 28) (bl_ 20 7935) HT_ ?_
   refine join_ (σ := Nat) 2 (bl_ 20 262143) (fun s_ => [(24, .agg #[.int .u64 t447, .int .u64 t448]), (29, .tuple #[.agg #[.int .u64 t449, .int .u64 t450], .int .i64 t451]), (5, .pointer (some ⟨s_, 0, none⟩)), (15, .tuple #[.agg #[.int .u64 t449, .int .u64 t450], .int .i64 t451]), (30, .agg #[.int .u64 t449, .int .u64 t450]), (31, .int .i64 t451)]) (fun s_ w' => (w'.cell? ⟨gb445, 0, none⟩ = some (.int .i64 a0_0) ∧ w'.cell? ⟨gb445, 1, none⟩ = some (.int .i64 a0_1) ∧ w'.cell? ⟨gb445, 2, none⟩ = some (.int .i64 a0_2) ∧ w'.cell? ⟨gb445, 3, none⟩ = some (.int .i64 a0_3) ∧ w'.cell? ⟨gb445, 4, none⟩ = some (.int .i64 a0_4) ∧ w'.cell? ⟨gb445, 5, none⟩ = some (.int .u64 a0_5)) ∧ (w'.heap[gb445]? = some (.cells #[.int .i64 a0_0, .int .i64 a0_1, .int .i64 a0_2, .int .i64 a0_3, .int .i64 a0_4, .int .u64 a0_5] 51 (0, 0))) ∧ (w'.heap[gb446]? = some (.cells #[.int .i64 0, .int .i64 0, .int .i64 0, .int .i64 0, .int .i64 0, .int .u64 0] 51 (0, 0))) ∧ (w'.heap[s_]? = some (.cells #[.int .u64 0, .int .u64 0] 92 (0, 0))) ∧ (w.heap.size ≤ s_) ∧ (w.heap.size ≤ s_) ∧ (gb445 ≠ s_) ∧ (s_ ≠ gb445) ∧ (gb446 ≠ s_) ∧ (s_ ≠ gb446) ∧ (Below w.heap.size w w')) ?_ ?_
   rotate_left
   ·intro hCont
    refine tw_ 8 17 (some 24) (some 5) (bl_ 20 8191) (bl_ 20 139007) HT_ (fun K hK => ?_) fun K hK => ?_
    ·refine goesB_ Try.func53 #[.int .u64 (IntKind.u64.wrap (a1 - a0_5)), .int .u64 (IntKind.u64.wrap (a0_1))] ?_
     with_reducible refine (spigotref01_Mul.calls (IntKind.u64.wrap (a1 - a0_5)) (IntKind.u64.wrap (a0_1)) t447 t448 _ A9.out).mono ?_
     rintro e w19 ⟨rfl, hb⟩
     refine ⟨_, rfl, ?_⟩
     replace BK445 := bb_ BK445 hb
     replace BK446 := bb_ BK446 hb
     replace HB := bs_ w hb
     clear hb
     refine hK.out _ _ (cc6_ BK445) (fun hHeld => ?_)
     clear hK K
     refine nm_ (some 24) ?_
     refine tw_ 13 17 (some 29) (some 5) (bl_ 20 16383) (bl_ 20 139263) HT_ (fun K hK => ?_) fun K hK => ?_
     ·refine goesB_ Try.func90 #[.agg #[.int .u64 t447, .int .u64 t448], .agg #[.int .u64 0, .int .u64 (IntKind.u64.wrap (a0_4))]] ?_
      with_reducible refine (spigotref01_Add.calls t447 t448 0 (IntKind.u64.wrap (a0_4)) t449 t450 t451 _ A10.out).mono ?_
      rintro e w20 ⟨rfl, hb⟩
      refine ⟨_, rfl, ?_⟩
      replace BK445 := bb_ BK445 hb
      replace BK446 := bb_ BK446 hb
      replace HB := bs_ w hb
      clear hb
      refine hK.out _ _ (cc6_ BK445) (fun hHeld => ?_)
      clear hK K
      refine nm_ (some 29) ?_
      refine pa_ 14 (some 15) (bl_ 20 32767) HT_ ?_
      refine pa_ 15 (some 30) (bl_ 20 65535) HT_ ?_
      refine pa_ 16 (some 31) (bl_ 20 131071) HT_ ?_
      refine oa_ 17 (some 5) (bl_ 20 262143) HT_ fun K hK => ?_
      refine bs2_ #[.int .u64 0, .int .u64 0] 92 ?_
      intro gb452 hg w21 BK452 hb
      have GW452 := bz_ w hg
      have GE452 := GW452
      have NB445_452 := bn_ BK445 hg
      have NB452_445 := bm_ BK445 hg
      have NB446_452 := bn_ BK446 hg
      have NB452_446 := bm_ BK446 hg
      replace BK445 := bb_ BK445 hb
      replace BK446 := bb_ BK446 hb
      replace HB := bs_ w hb
      clear hb hg
      refine hK.out _ _ (cc6_ BK445) (fun hHeld => ?_)
      clear hK K
      refine nm_ (some 5) ?_
      exact no_ (hCont (gb452) _ ⟨hHeld, (bq_ BK445), (bq_ BK446), (bq_ BK452), GW452.out, GE452.out, NB445_452.out, NB452_445.out, NB446_452.out, NB452_446.out, bh_⟩)
     ·refine bs2_ #[.int .u64 0, .int .u64 0] 92 ?_
      intro gb452 hg w20 BK452 hb
      have GW452 := bz_ w hg
      have GE452 := GW452
      have NB445_452 := bn_ BK445 hg
      have NB452_445 := bm_ BK445 hg
      have NB446_452 := bn_ BK446 hg
      have NB452_446 := bm_ BK446 hg
      replace BK445 := bb_ BK445 hb
      replace BK446 := bb_ BK446 hb
      replace HB := bs_ w hb
      clear hb hg
      refine hK.out _ _ (cc6_ BK445) (fun hHeld => ?_)
      clear hK K
      refine nm_ (some 5) ?_
      refine oa_ 13 (some 29) (bl_ 20 147455) HT_ fun K hK => ?_
      refine goesB_ Try.func90 #[.agg #[.int .u64 t447, .int .u64 t448], .agg #[.int .u64 0, .int .u64 (IntKind.u64.wrap (a0_4))]] ?_
      with_reducible refine (spigotref01_Add.calls t447 t448 0 (IntKind.u64.wrap (a0_4)) t449 t450 t451 _ A10.out).mono ?_
      rintro e w21 ⟨rfl, hb⟩
      refine ⟨_, rfl, ?_⟩
      replace BK445 := bb_ BK445 hb
      replace BK446 := bb_ BK446 hb
      replace BK452 := bb_ BK452 hb
      replace HB := bs_ w hb
      clear hb
      refine hK.out _ _ (cc6_ BK445) (fun hHeld => ?_)
      clear hK K
      refine nm_ (some 29) ?_
      refine pa_ 14 (some 15) (bl_ 20 163839) HT_ ?_
      refine pa_ 15 (some 30) (bl_ 20 196607) HT_ ?_
      refine pa_ 16 (some 31) (bl_ 20 262143) HT_ ?_
      exact no_ (hCont (gb452) _ ⟨hHeld, (bq_ BK445), (bq_ BK446), (bq_ BK452), GW452.out, GE452.out, NB445_452.out, NB452_445.out, NB446_452.out, NB452_446.out, bh_⟩)
    ·refine bs2_ #[.int .u64 0, .int .u64 0] 92 ?_
     intro gb452 hg w19 BK452 hb
     have GW452 := bz_ w hg
     have GE452 := GW452
     have NB445_452 := bn_ BK445 hg
     have NB452_445 := bm_ BK445 hg
     have NB446_452 := bn_ BK446 hg
     have NB452_446 := bm_ BK446 hg
     replace BK445 := bb_ BK445 hb
     replace BK446 := bb_ BK446 hb
     replace HB := bs_ w hb
     clear hb hg
     refine hK.out _ _ (cc6_ BK445) (fun hHeld => ?_)
     clear hK K
     refine nm_ (some 5) ?_
     refine oa_ 8 (some 24) (bl_ 20 139263) HT_ fun K hK => ?_
     refine goesB_ Try.func53 #[.int .u64 (IntKind.u64.wrap (a1 - a0_5)), .int .u64 (IntKind.u64.wrap (a0_1))] ?_
     with_reducible refine (spigotref01_Mul.calls (IntKind.u64.wrap (a1 - a0_5)) (IntKind.u64.wrap (a0_1)) t447 t448 _ A9.out).mono ?_
     rintro e w20 ⟨rfl, hb⟩
     refine ⟨_, rfl, ?_⟩
     replace BK445 := bb_ BK445 hb
     replace BK446 := bb_ BK446 hb
     replace BK452 := bb_ BK452 hb
     replace HB := bs_ w hb
     clear hb
     refine hK.out _ _ (cc6_ BK445) (fun hHeld => ?_)
     clear hK K
     refine nm_ (some 24) ?_
     refine oa_ 13 (some 29) (bl_ 20 147455) HT_ fun K hK => ?_
     refine goesB_ Try.func90 #[.agg #[.int .u64 t447, .int .u64 t448], .agg #[.int .u64 0, .int .u64 (IntKind.u64.wrap (a0_4))]] ?_
     with_reducible refine (spigotref01_Add.calls t447 t448 0 (IntKind.u64.wrap (a0_4)) t449 t450 t451 _ A10.out).mono ?_
     rintro e w21 ⟨rfl, hb⟩
     refine ⟨_, rfl, ?_⟩
     replace BK445 := bb_ BK445 hb
     replace BK446 := bb_ BK446 hb
     replace BK452 := bb_ BK452 hb
     replace HB := bs_ w hb
     clear hb
     refine hK.out _ _ (cc6_ BK445) (fun hHeld => ?_)
     clear hK K
     refine nm_ (some 29) ?_
     refine pa_ 14 (some 15) (bl_ 20 163839) HT_ ?_
     refine pa_ 15 (some 30) (bl_ 20 196607) HT_ ?_
     refine pa_ 16 (some 31) (bl_ 20 262143) HT_ ?_
     exact no_ (hCont (gb452) _ ⟨hHeld, (bq_ BK445), (bq_ BK446), (bq_ BK452), GW452.out, GE452.out, NB445_452.out, NB452_445.out, NB446_452.out, NB452_446.out, bh_⟩)
   rintro gb452 w22 ⟨hS_, h0_, h1_, h2_, h3_, h4_, h5_, h6_, h7_, h8_, h9_⟩
   have BK452 := Aside0.mk h2_
   have GW452 := Aside0.mk h3_
   have GE452 := Aside0.mk h4_
   have NB445_452 := Aside0.mk h5_
   have NB452_445 := Aside0.mk h6_
   have NB446_452 := Aside0.mk h7_
   have NB452_446 := Aside0.mk h8_
   replace BK445 := Aside0.mk h0_
   replace BK446 := Aside0.mk h1_
   replace HB := Aside0.mk h9_
   clear h0_ h1_ h2_ h3_ h4_ h5_ h6_ h7_ h8_ h9_
   have hHeld := hS_
   refine nq_ ?_
   refine oa_ 18 none (bl_ 20 524287) HT_ fun K hK => ?_
   have hs23 : w22.cell? ⟨gb452, 0, none⟩ = some (.int .u64 0) := (blk_cell BK452.out 0).trans rfl
   have hfs23 := blk_frozen BK452.out 0
   have hns23_0 := NB445_452.out
   have hns23_1 := NB446_452.out
   have hms23_0 := NB452_445.out
   have hms23_1 := NB452_446.out
   have hs24 : w22.cell? ⟨gb452, 1, none⟩ = some (.int .u64 0) := (blk_cell BK452.out 1).trans rfl
   have hfs24 := blk_frozen BK452.out 1
   have hns24_0 := NB445_452.out
   have hns24_1 := NB446_452.out
   have hms24_0 := NB452_445.out
   have hms24_1 := NB452_446.out
   refine sk_ ?_
   refine hK.out _ _ (cf6_ hHeld) (fun hHeld => ?_)
   clear hK K
   refine pa_ 19 (some 6) (bl_ 20 1048575) HT_ ?_
   refine done_ (done_of HT_.out (by kernel_rfl)) ?_
   replace hn452_445 := NB452_445.out
   replace hn445_452 := NB445_452.out
   replace hn452_446 := NB452_446.out
   replace hn446_452 := NB446_452.out
   replace hc452 := ce2_ BK452
   replace hc445 := ce6_ BK445
   try go_wp2_with (first | ((with_reducible refine gate_callee (f := 52) rfl ?_); refine goesA_ (some 38) Try.func52 #[.agg #[.int .u64 t449, .int .u64 t450], .int .u64 (IntKind.u64.wrap (a0_2))] ?_; (with_reducible refine (spigotref01_Div.calls k t449 t450 (IntKind.u64.wrap (a0_2)) t453 t454 t455 t456 _ A11.out).mono ?_); rintro e w29 ⟨rfl, hb⟩; refine ⟨_, rfl, ?_⟩; replace BK445 := bf_ BK445 hb; replace BK446 := bf_ BK446 hb; replace BK452 := Aside0.mk (blk_below (g := gb452) (o := .cells #[.int .u64 t449, .int .u64 t450] 92 (0, 0)) (bp2_ (bq_ BK452)) hb); replace HB := bs_ w hb; clear hb) | ((with_reducible refine gate_dst (N := 7) rfl ?_); refine bx_ #[.int .u64 0, .int .u64 0] 92 ?_; intro gb457 hg w30 BK457 hb; have GW457 := bz_ w hg; have GE457 := GW457; have NB445_457 := bn_ BK445 hg; have NB457_445 := bm_ BK445 hg; have NB446_457 := bn_ BK446 hg; have NB457_446 := bm_ BK446 hg; have NB452_457 := bn_ BK452 hg; have NB457_452 := bm_ BK452 hg; replace BK445 := bb_ BK445 hb; replace BK446 := bb_ BK446 hb; replace BK452 := bb_ BK452 hb; replace HB := bs_ w hb; clear hb hg; replace hn457_445 := NB457_445.out; replace hn445_457 := NB445_457.out; replace hn457_446 := NB457_446.out; replace hn446_457 := NB446_457.out; replace hn457_452 := NB457_452.out; replace hn452_457 := NB452_457.out; replace hc457 := ce2_ BK457; replace hc445 := ce6_ BK445) | ((with_reducible refine gate_callee (f := 67) rfl ?_); refine goesA_ (some 53) Try.func67 #[.agg #[.int .u64 t453, .int .u64 t454], .agg #[.int .u64 0, .int .u64 (IntKind.u64.wrap (wrap64 (a0_0 - a0_3)))]] ?_; (with_reducible refine (spigotref01_Cmp.calls k t453 t454 0 (IntKind.u64.wrap (wrap64 (a0_0 - a0_3))) t458 _ A12.out).mono ?_); rintro e w36 ⟨rfl, hb⟩; refine ⟨_, rfl, ?_⟩; replace BK445 := Aside0.mk (blk_below (g := gb445) (o := .cells #[.int .i64 a0_0, .int .i64 a0_1, .int .i64 a0_2, .int .i64 a0_3, .int .i64 a0_4, .int .u64 a1] 51 (0, 0)) (blk_put (cs := #[.int .i64 a0_0, .int .i64 a0_1, .int .i64 a0_2, .int .i64 a0_3, .int .i64 a0_4, .int .u64 a0_5]) (bt_ BK445) 5 _ rfl) hb); replace BK446 := bf_ BK446 hb; replace BK452 := bf_ BK452 hb; replace BK457 := Aside0.mk (blk_below (g := gb457) (o := .cells #[.int .u64 t453, .int .u64 t454] 92 (0, 0)) (blk_far (bp2_ (bq_ BK457)) NB457_445.out _) hb); replace HB := bs_ w hb; clear hb; replace hc445 := ce6_ BK445; replace hc446 := ce6_ BK446))
   refine bodyPost_ret (results_cell_row rfl _ _ gb446 51 #[.int .i64 a0_0, .int .i64 a0_1, .int .i64 a0_2, .int .i64 a0_0, .int .i64 0, .int .u64 a1] (0, 0) _ rfl (bp6_ (bt_ BK446)) Try.underlying51 rfl (by kernel_rfl)) rfl ?_
   exact fi_
  ·rw [if_neg c13] at H
   have c13b0 : decide (0 ≤ t458) = false := decide_eq_false c13
   clear c13
   simp only [Option.some.injEq, Prod.mk.injEq] at H
   obtain ⟨rfl, rfl, rfl, rfl, rfl, rfl⟩ := H
   go_enter Try.func86, Try.ntmps86
   try go_wp2_with (first | ((with_reducible refine gate_dst (N := 2) rfl ?_); refine bx_ #[.int .i64 a0_0, .int .i64 a0_1, .int .i64 a0_2, .int .i64 a0_3, .int .i64 a0_4, .int .u64 a0_5] 51 ?_; intro gb445 hg w39 BK445 hb; have GW445 := bz_ w hg; have GE445 := GW445; replace HB := bs_ w hb; clear hb hg) | ((with_reducible refine gate_dst (N := 4) rfl ?_); refine bx_ #[.int .i64 0, .int .i64 0, .int .i64 0, .int .i64 0, .int .i64 0, .int .u64 0] 51 ?_; intro gb446 hg w40 BK446 hb; have GW446 := bz_ w hg; have GE446 := GW446; have NB445_446 := bn_ BK445 hg; have NB446_445 := bm_ BK445 hg; replace BK445 := bb_ BK445 hb; replace HB := bs_ w hb; clear hb hg; replace hn445_446 := NB445_446.out; replace hn446_445 := NB446_445.out; replace hc445 := ce6_ BK445))
   replace BK445 := Aside0.mk (blk_drew BK445.out)
   replace BK446 := Aside0.mk (blk_drew BK446.out)
   replace HB := Aside0.mk (below_drew1 HB.out)
   refine start_ (n := 20) (S := fun w' => w'.cell? ⟨gb445, 0, none⟩ = some (.int .i64 a0_0) ∧ w'.cell? ⟨gb445, 1, none⟩ = some (.int .i64 a0_1) ∧ w'.cell? ⟨gb445, 2, none⟩ = some (.int .i64 a0_2) ∧ w'.cell? ⟨gb445, 3, none⟩ = some (.int .i64 a0_3) ∧ w'.cell? ⟨gb445, 4, none⟩ = some (.int .i64 a0_4) ∧ w'.cell? ⟨gb445, 5, none⟩ = some (.int .u64 a0_5)) (ds := []) (bl_ 20 0) (by kernel_rfl) rfl (by kernel_rfl) (cc6_ BK445) (fun hHeld => ?_); refine with_tabW spigotref03_Filled.tab3 spigotref03_Filled.bits3 (fun HT_ HW_ => ?_)
   generalize w40.drew = w43 at BK445 BK446 HB hHeld ⊢
   refine pa_ 0 (some 16) (bl_ 20 1) HT_ ?_
   refine pa_ 1 (some 17) (bl_ 20 3) HT_ ?_
   refine pa_ 4 (some 20) (bl_ 20 19) HT_ ?_
   refine pa_ 5 (some 21) (bl_ 20 51) HT_ ?_
   refine pa_ 9 (some 25) (bl_ 20 563) HT_ ?_
   refine ta_ 2 (some 18) (bl_ 20 567) HT_ HW_ hHeld ?_
   refine pa_ 3 (some 19) (bl_ 20 575) HT_ ?_
   refine ta_ 6 (some 22) (bl_ 20 639) HT_ HW_ hHeld ?_
   refine pa_ 7 (some 23) (bl_ 20 767) HT_ ?_
   refine ta_ 10 (some 26) (bl_ 20 1791) HT_ HW_ hHeld ?_
   refine pa_ 11 (some 27) (bl_ 20 3839) HT_ ?_
   refine pa_ 12 (some 28) (bl_ 20 7935) HT_ ?_
   refine join_ (σ := Nat) 2 (bl_ 20 262143) (fun s_ => [(24, .agg #[.int .u64 t447, .int .u64 t448]), (29, .tuple #[.agg #[.int .u64 t449, .int .u64 t450], .int .i64 t451]), (5, .pointer (some ⟨s_, 0, none⟩)), (15, .tuple #[.agg #[.int .u64 t449, .int .u64 t450], .int .i64 t451]), (30, .agg #[.int .u64 t449, .int .u64 t450]), (31, .int .i64 t451)]) (fun s_ w' => (w'.cell? ⟨gb445, 0, none⟩ = some (.int .i64 a0_0) ∧ w'.cell? ⟨gb445, 1, none⟩ = some (.int .i64 a0_1) ∧ w'.cell? ⟨gb445, 2, none⟩ = some (.int .i64 a0_2) ∧ w'.cell? ⟨gb445, 3, none⟩ = some (.int .i64 a0_3) ∧ w'.cell? ⟨gb445, 4, none⟩ = some (.int .i64 a0_4) ∧ w'.cell? ⟨gb445, 5, none⟩ = some (.int .u64 a0_5)) ∧ (w'.heap[gb445]? = some (.cells #[.int .i64 a0_0, .int .i64 a0_1, .int .i64 a0_2, .int .i64 a0_3, .int .i64 a0_4, .int .u64 a0_5] 51 (0, 0))) ∧ (w'.heap[gb446]? = some (.cells #[.int .i64 0, .int .i64 0, .int .i64 0, .int .i64 0, .int .i64 0, .int .u64 0] 51 (0, 0))) ∧ (w'.heap[s_]? = some (.cells #[.int .u64 0, .int .u64 0] 92 (0, 0))) ∧ (w.heap.size ≤ s_) ∧ (w.heap.size ≤ s_) ∧ (gb445 ≠ s_) ∧ (s_ ≠ gb445) ∧ (gb446 ≠ s_) ∧ (s_ ≠ gb446) ∧ (Below w.heap.size w w')) ?_ ?_
   rotate_left
   ·intro hCont
    refine tw_ 8 17 (some 24) (some 5) (bl_ 20 8191) (bl_ 20 139007) HT_ (fun K hK => ?_) fun K hK => ?_
    ·refine goesB_ Try.func53 #[.int .u64 (IntKind.u64.wrap (a1 - a0_5)), .int .u64 (IntKind.u64.wrap (a0_1))] ?_
     with_reducible refine (spigotref01_Mul.calls (IntKind.u64.wrap (a1 - a0_5)) (IntKind.u64.wrap (a0_1)) t447 t448 _ A9.out).mono ?_
     rintro e w44 ⟨rfl, hb⟩
     refine ⟨_, rfl, ?_⟩
     replace BK445 := bb_ BK445 hb
     replace BK446 := bb_ BK446 hb
     replace HB := bs_ w hb
     clear hb
     refine hK.out _ _ (cc6_ BK445) (fun hHeld => ?_)
     clear hK K
     refine nm_ (some 24) ?_
     refine tw_ 13 17 (some 29) (some 5) (bl_ 20 16383) (bl_ 20 139263) HT_ (fun K hK => ?_) fun K hK => ?_
     ·refine goesB_ Try.func90 #[.agg #[.int .u64 t447, .int .u64 t448], .agg #[.int .u64 0, .int .u64 (IntKind.u64.wrap (a0_4))]] ?_
      with_reducible refine (spigotref01_Add.calls t447 t448 0 (IntKind.u64.wrap (a0_4)) t449 t450 t451 _ A10.out).mono ?_
      rintro e w45 ⟨rfl, hb⟩
      refine ⟨_, rfl, ?_⟩
      replace BK445 := bb_ BK445 hb
      replace BK446 := bb_ BK446 hb
      replace HB := bs_ w hb
      clear hb
      refine hK.out _ _ (cc6_ BK445) (fun hHeld => ?_)
      clear hK K
      refine nm_ (some 29) ?_
      refine pa_ 14 (some 15) (bl_ 20 32767) HT_ ?_
      refine pa_ 15 (some 30) (bl_ 20 65535) HT_ ?_
      refine pa_ 16 (some 31) (bl_ 20 131071) HT_ ?_
      refine oa_ 17 (some 5) (bl_ 20 262143) HT_ fun K hK => ?_
      refine bs2_ #[.int .u64 0, .int .u64 0] 92 ?_
      intro gb452 hg w46 BK452 hb
      have GW452 := bz_ w hg
      have GE452 := GW452
      have NB445_452 := bn_ BK445 hg
      have NB452_445 := bm_ BK445 hg
      have NB446_452 := bn_ BK446 hg
      have NB452_446 := bm_ BK446 hg
      replace BK445 := bb_ BK445 hb
      replace BK446 := bb_ BK446 hb
      replace HB := bs_ w hb
      clear hb hg
      refine hK.out _ _ (cc6_ BK445) (fun hHeld => ?_)
      clear hK K
      refine nm_ (some 5) ?_
      exact no_ (hCont (gb452) _ ⟨hHeld, (bq_ BK445), (bq_ BK446), (bq_ BK452), GW452.out, GE452.out, NB445_452.out, NB452_445.out, NB446_452.out, NB452_446.out, bh_⟩)
     ·refine bs2_ #[.int .u64 0, .int .u64 0] 92 ?_
      intro gb452 hg w45 BK452 hb
      have GW452 := bz_ w hg
      have GE452 := GW452
      have NB445_452 := bn_ BK445 hg
      have NB452_445 := bm_ BK445 hg
      have NB446_452 := bn_ BK446 hg
      have NB452_446 := bm_ BK446 hg
      replace BK445 := bb_ BK445 hb
      replace BK446 := bb_ BK446 hb
      replace HB := bs_ w hb
      clear hb hg
      refine hK.out _ _ (cc6_ BK445) (fun hHeld => ?_)
      clear hK K
      refine nm_ (some 5) ?_
      refine oa_ 13 (some 29) (bl_ 20 147455) HT_ fun K hK => ?_
      refine goesB_ Try.func90 #[.agg #[.int .u64 t447, .int .u64 t448], .agg #[.int .u64 0, .int .u64 (IntKind.u64.wrap (a0_4))]] ?_
      with_reducible refine (spigotref01_Add.calls t447 t448 0 (IntKind.u64.wrap (a0_4)) t449 t450 t451 _ A10.out).mono ?_
      rintro e w46 ⟨rfl, hb⟩
      refine ⟨_, rfl, ?_⟩
      replace BK445 := bb_ BK445 hb
      replace BK446 := bb_ BK446 hb
      replace BK452 := bb_ BK452 hb
      replace HB := bs_ w hb
      clear hb
      refine hK.out _ _ (cc6_ BK445) (fun hHeld => ?_)
      clear hK K
      refine nm_ (some 29) ?_
      refine pa_ 14 (some 15) (bl_ 20 163839) HT_ ?_
      refine pa_ 15 (some 30) (bl_ 20 196607) HT_ ?_
      refine pa_ 16 (some 31) (bl_ 20 262143) HT_ ?_
      exact no_ (hCont (gb452) _ ⟨hHeld, (bq_ BK445), (bq_ BK446), (bq_ BK452), GW452.out, GE452.out, NB445_452.out, NB452_445.out, NB446_452.out, NB452_446.out, bh_⟩)
    ·refine bs2_ #[.int .u64 0, .int .u64 0] 92 ?_
     intro gb452 hg w44 BK452 hb
     have GW452 := bz_ w hg
     have GE452 := GW452
     have NB445_452 := bn_ BK445 hg
     have NB452_445 := bm_ BK445 hg
     have NB446_452 := bn_ BK446 hg
     have NB452_446 := bm_ BK446 hg
     replace BK445 := bb_ BK445 hb
     replace BK446 := bb_ BK446 hb
     replace HB := bs_ w hb
     clear hb hg
     refine hK.out _ _ (cc6_ BK445) (fun hHeld => ?_)
     clear hK K
     refine nm_ (some 5) ?_
     refine oa_ 8 (some 24) (bl_ 20 139263) HT_ fun K hK => ?_
     refine goesB_ Try.func53 #[.int .u64 (IntKind.u64.wrap (a1 - a0_5)), .int .u64 (IntKind.u64.wrap (a0_1))] ?_
     with_reducible refine (spigotref01_Mul.calls (IntKind.u64.wrap (a1 - a0_5)) (IntKind.u64.wrap (a0_1)) t447 t448 _ A9.out).mono ?_
     rintro e w45 ⟨rfl, hb⟩
     refine ⟨_, rfl, ?_⟩
     replace BK445 := bb_ BK445 hb
     replace BK446 := bb_ BK446 hb
     replace BK452 := bb_ BK452 hb
     replace HB := bs_ w hb
     clear hb
     refine hK.out _ _ (cc6_ BK445) (fun hHeld => ?_)
     clear hK K
     refine nm_ (some 24) ?_
     refine oa_ 13 (some 29) (bl_ 20 147455) HT_ fun K hK => ?_
     refine goesB_ Try.func90 #[.agg #[.int .u64 t447, .int .u64 t448], .agg #[.int .u64 0, .int .u64 (IntKind.u64.wrap (a0_4))]] ?_
     with_reducible refine (spigotref01_Add.calls t447 t448 0 (IntKind.u64.wrap (a0_4)) t449 t450 t451 _ A10.out).mono ?_
     rintro e w46 ⟨rfl, hb⟩
     refine ⟨_, rfl, ?_⟩
     replace BK445 := bb_ BK445 hb
     replace BK446 := bb_ BK446 hb
     replace BK452 := bb_ BK452 hb
     replace HB := bs_ w hb
     clear hb
     refine hK.out _ _ (cc6_ BK445) (fun hHeld => ?_)
     clear hK K
     refine nm_ (some 29) ?_
     refine pa_ 14 (some 15) (bl_ 20 163839) HT_ ?_
     refine pa_ 15 (some 30) (bl_ 20 196607) HT_ ?_
     refine pa_ 16 (some 31) (bl_ 20 262143) HT_ ?_
     exact no_ (hCont (gb452) _ ⟨hHeld, (bq_ BK445), (bq_ BK446), (bq_ BK452), GW452.out, GE452.out, NB445_452.out, NB452_445.out, NB446_452.out, NB452_446.out, bh_⟩)
   rintro gb452 w47 ⟨hS_, h0_, h1_, h2_, h3_, h4_, h5_, h6_, h7_, h8_, h9_⟩
   have BK452 := Aside0.mk h2_
   have GW452 := Aside0.mk h3_
   have GE452 := Aside0.mk h4_
   have NB445_452 := Aside0.mk h5_
   have NB452_445 := Aside0.mk h6_
   have NB446_452 := Aside0.mk h7_
   have NB452_446 := Aside0.mk h8_
   replace BK445 := Aside0.mk h0_
   replace BK446 := Aside0.mk h1_
   replace HB := Aside0.mk h9_
   clear h0_ h1_ h2_ h3_ h4_ h5_ h6_ h7_ h8_ h9_
   have hHeld := hS_
   refine nq_ ?_
   refine oa_ 18 none (bl_ 20 524287) HT_ fun K hK => ?_
   have hs48 : w47.cell? ⟨gb452, 0, none⟩ = some (.int .u64 0) := (blk_cell BK452.out 0).trans rfl
   have hfs48 := blk_frozen BK452.out 0
   have hns48_0 := NB445_452.out
   have hns48_1 := NB446_452.out
   have hms48_0 := NB452_445.out
   have hms48_1 := NB452_446.out
   have hs49 : w47.cell? ⟨gb452, 1, none⟩ = some (.int .u64 0) := (blk_cell BK452.out 1).trans rfl
   have hfs49 := blk_frozen BK452.out 1
   have hns49_0 := NB445_452.out
   have hns49_1 := NB446_452.out
   have hms49_0 := NB452_445.out
   have hms49_1 := NB452_446.out
   refine sk_ ?_
   refine hK.out _ _ (cf6_ hHeld) (fun hHeld => ?_)
   clear hK K
   refine pa_ 19 (some 6) (bl_ 20 1048575) HT_ ?_
   refine done_ (done_of HT_.out (by kernel_rfl)) ?_
   replace hn452_445 := NB452_445.out
   replace hn445_452 := NB445_452.out
   replace hn452_446 := NB452_446.out
   replace hn446_452 := NB446_452.out
   replace hc452 := ce2_ BK452
   replace hc445 := ce6_ BK445
   try go_wp2_with (first | ((with_reducible refine gate_callee (f := 52) rfl ?_); refine goesA_ (some 38) Try.func52 #[.agg #[.int .u64 t449, .int .u64 t450], .int .u64 (IntKind.u64.wrap (a0_2))] ?_; (with_reducible refine (spigotref01_Div.calls k t449 t450 (IntKind.u64.wrap (a0_2)) t453 t454 t455 t456 _ A11.out).mono ?_); rintro e w54 ⟨rfl, hb⟩; refine ⟨_, rfl, ?_⟩; replace BK445 := bf_ BK445 hb; replace BK446 := bf_ BK446 hb; replace BK452 := Aside0.mk (blk_below (g := gb452) (o := .cells #[.int .u64 t449, .int .u64 t450] 92 (0, 0)) (bp2_ (bq_ BK452)) hb); replace HB := bs_ w hb; clear hb) | ((with_reducible refine gate_dst (N := 7) rfl ?_); refine bx_ #[.int .u64 0, .int .u64 0] 92 ?_; intro gb457 hg w55 BK457 hb; have GW457 := bz_ w hg; have GE457 := GW457; have NB445_457 := bn_ BK445 hg; have NB457_445 := bm_ BK445 hg; have NB446_457 := bn_ BK446 hg; have NB457_446 := bm_ BK446 hg; have NB452_457 := bn_ BK452 hg; have NB457_452 := bm_ BK452 hg; replace BK445 := bb_ BK445 hb; replace BK446 := bb_ BK446 hb; replace BK452 := bb_ BK452 hb; replace HB := bs_ w hb; clear hb hg; replace hn457_445 := NB457_445.out; replace hn445_457 := NB445_457.out; replace hn457_446 := NB457_446.out; replace hn446_457 := NB446_457.out; replace hn457_452 := NB457_452.out; replace hn452_457 := NB452_457.out; replace hc457 := ce2_ BK457; replace hc445 := ce6_ BK445) | ((with_reducible refine gate_callee (f := 67) rfl ?_); refine goesA_ (some 53) Try.func67 #[.agg #[.int .u64 t453, .int .u64 t454], .agg #[.int .u64 0, .int .u64 (IntKind.u64.wrap (wrap64 (a0_0 - a0_3)))]] ?_; (with_reducible refine (spigotref01_Cmp.calls k t453 t454 0 (IntKind.u64.wrap (wrap64 (a0_0 - a0_3))) t458 _ A12.out).mono ?_); rintro e w61 ⟨rfl, hb⟩; refine ⟨_, rfl, ?_⟩; replace BK445 := Aside0.mk (blk_below (g := gb445) (o := .cells #[.int .i64 a0_0, .int .i64 a0_1, .int .i64 a0_2, .int .i64 a0_3, .int .i64 a0_4, .int .u64 a1] 51 (0, 0)) (blk_put (cs := #[.int .i64 a0_0, .int .i64 a0_1, .int .i64 a0_2, .int .i64 a0_3, .int .i64 a0_4, .int .u64 a0_5]) (bt_ BK445) 5 _ rfl) hb); replace BK446 := bf_ BK446 hb; replace BK452 := bf_ BK452 hb; replace BK457 := Aside0.mk (blk_below (g := gb457) (o := .cells #[.int .u64 t453, .int .u64 t454] 92 (0, 0)) (blk_far (bp2_ (bq_ BK457)) NB457_445.out _) hb); replace HB := bs_ w hb; clear hb; replace hc445 := ce6_ BK445; replace hc457 := ce2_ BK457; replace hc446 := ce6_ BK446))
   refine bodyPost_ret (results_cell_row rfl _ _ gb446 51 #[.int .i64 a0_0, .int .i64 a0_1, .int .i64 a0_2, .int .i64 (wrap64 (a0_3 + (wrap64 (t454)))), .int .i64 (wrap64 (t455)), .int .u64 a1] (0, 0) _ rfl (bp6_ (bt_ BK446)) Try.underlying51 rfl (by kernel_rfl)) rfl ?_
   exact fi_

end Go.Proofs.Ytimhghmfhfggoaa.X
