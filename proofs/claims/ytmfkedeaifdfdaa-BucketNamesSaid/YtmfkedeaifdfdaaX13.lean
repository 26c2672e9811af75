-- written by xprint.py, a program of this session over the kit's print
import Derived.Test.YtmfkedeaifdfdaaX0
import Derived.Test.YtmfkedeaifdfdaaX10
import Derived.Test.YtmfkedeaifdfdaaX11
import Derived.Test.YtmfkedeaifdfdaaX12
namespace Go.Proofs.Ytmfkedeaifdfdaa.X
open Go.RowKit Go.Proofs.YtmfkedeaifdfdaaW.PrintWords Go.Proofs.YtmfkedeaifdfdaaW.PrintLast Go.Proofs.YtmfkedeaifdfdaaW.PrintMore
attribute [local go_sem] max2_int min2_int max_two min_two max_three min_three max_four min_four   -- for this text's walks alone
set_option linter.unusedVariables false
set_option linter.unusedSimpArgs false

/-! ### spigotref03_Filled: function 35 -/
def spigotref03_Filled.f (k : Nat) (a0_0 : Int) (a0_1 : Int) (a0_2 : Int) (a0_3 : Int) (a0_4 : Int) (a0_5 : Int) (a1 : Int) : Option (Int × Int × Int × Int × Int × Int) := if a1 < a0_5 then (some (a0_0, a0_1, a0_2, a0_3, a0_4, a0_5)) else ((spigotref01_Mul.f (IntKind.u64.wrap (a1 - a0_5)) (IntKind.u64.wrap (a0_1))).bind fun bt178 => ((spigotref01_Add.f bt178.1 bt178.2 0 (IntKind.u64.wrap (a0_4))).bind fun bt180 => ((spigotref01_Div.f k bt180.1 bt180.2.1 (IntKind.u64.wrap (a0_2))).bind fun bt184 => ((spigotref01_Cmp.f k bt184.1 bt184.2.1 0 (IntKind.u64.wrap (wrap64 (a0_0 - a0_3)))).bind fun t189 => (if t189 ≥ 0 then (some (a0_0, a0_1, a0_2, a0_0, 0, a1)) else (some (a0_0, a0_1, a0_2, wrap64 (a0_3 + (wrap64 (bt184.2.1))), wrap64 (bt184.2.2.1), a1)))))))
theorem spigotref03_Filled.mono : ∀ a0 a1 a2 a3 a4 a5 a6 k, LeO (spigotref03_Filled.f k a0 a1 a2 a3 a4 a5 a6) (spigotref03_Filled.f (k + 1) a0 a1 a2 a3 a4 a5 a6) := by
  intro a0 a1 a2 a3 a4 a5 a6 k
  unfold spigotref03_Filled.f
  repeat' first
      | (with_reducible exact spigotref01_Cmp.mono _ _ _ _ _)
      | (with_reducible exact spigotref01_Div.mono _ _ _ _)
      | (with_reducible exact LeO.refl _)
      | (with_reducible exact LeO.none _)
      | (with_reducible refine LeO.ite ?_ ?_)
      | (with_reducible refine LeO.bind ?_ (fun _ => ?_))
      | exact spigotref01_Cmp.mono _ _ _ _ _
      | exact spigotref01_Div.mono _ _ _ _
      | exact LeO.none _
      | refine LeO.ite ?_ ?_
      | refine LeO.bind ?_ (fun _ => ?_)
def spigotref03_Filled.T3 : Bool × List (List Nat × List Nat) := (true, [([], []), ([], []), ([1], [1]), ([0, 2], [0, 2]), ([], []), ([4], [4]), ([5], [5]), ([6], [6]), ([3, 7], [3, 7]), ([], []), ([9], [9]), ([10], [10]), ([11], [11]), ([8, 12, 8], [8, 12]), ([13], [13]), ([14], [14]), ([14], [14]), ([], []), ([17, 15, 13, 0, 1, 2, 3, 4, 5, 6, 7, 8, 9, 10, 11, 12, 13, 14, 15, 17], [15, 17]), ([16, 18, 0, 1, 2, 3, 4, 5, 6, 7, 8, 9, 10, 11, 12, 13, 14, 15, 16, 17, 18], [16])])
def spigotref03_Filled.B3 : List Nat := [0, 0, 2, 7, 0, 16, 48, 112, 255, 0, 512, 1536, 3584, 8191, 16383, 32767, 32767, 0, 196607, 524287]
theorem spigotref03_Filled.tab3 : rtab .any (opsOf Try.f35 3) = spigotref03_Filled.T3 := by kernel_rfl
theorem spigotref03_Filled.bits3 : waitsOk spigotref03_Filled.T3.2 spigotref03_Filled.B3 = true := by kernel_rfl
set_option maxHeartbeats 8000000 in
set_option maxRecDepth 100000 in
theorem spigotref03_Filled.calls (k : Nat) (a0_0 : Int) (a0_1 : Int) (a0_2 : Int) (a0_3 : Int) (a0_4 : Int) (a0_5 : Int) (a1 : Int) (r1 : Int) (r2 : Int) (r3 : Int) (r4 : Int) (r5 : Int) (r6 : Int) (w : World) (h : spigotref03_Filled.f k a0_0 a0_1 a0_2 a0_3 a0_4 a0_5 a1 = some (r1, r2, r3, r4, r5, r6)) :
  Calls Try.prog 35 #[.agg #[.int .i64 a0_0, .int .i64 a0_1, .int .i64 a0_2, .int .i64 a0_3, .int .i64 a0_4, .int .u64 a0_5], .int .u64 a1] w fun e w' => e = .returned (.agg #[.int .i64 r1, .int .i64 r2, .int .i64 r3, .int .i64 r4, .int .i64 r5, .int .u64 r6]) ∧ Below w.heap.size w w' := by
 have hu26 := Try.underlying26
 have hu60 := Try.underlying60
 have HB := Aside0.mk (Below.refl w.heap.size w)
 have H : (if a1 < a0_5 then (some (a0_0, a0_1, a0_2, a0_3, a0_4, a0_5)) else ((spigotref01_Mul.f (IntKind.u64.wrap (a1 - a0_5)) (IntKind.u64.wrap (a0_1))).bind fun bt178 => ((spigotref01_Add.f bt178.1 bt178.2 0 (IntKind.u64.wrap (a0_4))).bind fun bt180 => ((spigotref01_Div.f k bt180.1 bt180.2.1 (IntKind.u64.wrap (a0_2))).bind fun bt184 => ((spigotref01_Cmp.f k bt184.1 bt184.2.1 0 (IntKind.u64.wrap (wrap64 (a0_0 - a0_3)))).bind fun t189 => (if t189 ≥ 0 then (some (a0_0, a0_1, a0_2, a0_0, 0, a1)) else (some (a0_0, a0_1, a0_2, wrap64 (a0_3 + (wrap64 (bt184.2.1))), wrap64 (bt184.2.2.1), a1)))))))) = some (r1, r2, r3, r4, r5, r6) := h
 clear h
 by_cases c3 : a1 < a0_5
 ·rw [if_pos c3] at H
  have c3b0 : decide (a1 < a0_5) = true := decide_eq_true c3
  clear c3
  simp only [Option.some.injEq, Prod.mk.injEq] at H
  obtain ⟨rfl, rfl, rfl, rfl, rfl, rfl⟩ := H
  go_enter Try.func35, Try.ntmps35
  go_wp2_with (first | ((with_reducible refine gate_dst (N := 2) rfl ?_); refine bx_ #[.int .i64 a0_0, .int .i64 a0_1, .int .i64 a0_2, .int .i64 a0_3, .int .i64 a0_4, .int .u64 a0_5] 26 ?_; intro gb176 hg w4 BK176 hb; have GW176 := bz_ w hg; have GE176 := GW176; replace HB := bs_ w hb; clear hb hg) | ((with_reducible refine gate_dst (N := 4) rfl ?_); refine bx_ #[.int .i64 0, .int .i64 0, .int .i64 0, .int .i64 0, .int .i64 0, .int .u64 0] 26 ?_; intro gb177 hg w5 BK177 hb; have GW177 := bz_ w hg; have GE177 := GW177; have NB176_177 := bn_ BK176 hg; have NB177_176 := bm_ BK176 hg; replace BK176 := bb_ BK176 hb; replace HB := bs_ w hb; clear hb hg; replace hn176_177 := NB176_177.out; replace hn177_176 := NB177_176.out; replace hc176 := ce6_ BK176; replace hc177 := ce6_ BK177))
  refine bodyPost_ret (results_cell_row rfl _ _ gb177 26 #[.int .i64 a0_0, .int .i64 a0_1, .int .i64 a0_2, .int .i64 a0_3, .int .i64 a0_4, .int .u64 a0_5] (0, 0) _ rfl (bp6_ (bq_ BK177)) Try.underlying26 rfl (by kernel_rfl)) rfl ?_
  exact fi_
 ·rw [if_neg c3] at H
  have c3b0 : decide (a1 < a0_5) = false := decide_eq_false c3
  clear c3
  obtain ⟨⟨t178, t179⟩, A9, H⟩ := bo_ H
  try dsimp only at H
  obtain ⟨⟨t180, t181, t182⟩, A10, H⟩ := bo_ H
  try dsimp only at H
  obtain ⟨⟨t184, t185, t186, t187⟩, A11, H⟩ := bo_ H
  try dsimp only at H
  obtain ⟨t189, A12, H⟩ := bo_ H
  try dsimp only at H
  by_cases c13 : t189 ≥ 0
  ·rw [if_pos c13] at H
   have c13b0 : decide (0 ≤ t189) = true := decide_eq_true c13
   clear c13
   simp only [Option.some.injEq, Prod.mk.injEq] at H
   obtain ⟨rfl, rfl, rfl, rfl, rfl, rfl⟩ := H
   go_enter Try.func35, Try.ntmps35
   try go_wp2_with (first | ((with_reducible refine gate_dst (N := 2) rfl ?_); refine bx_ #[.int .i64 a0_0, .int .i64 a0_1, .int .i64 a0_2, .int .i64 a0_3, .int .i64 a0_4, .int .u64 a0_5] 26 ?_; intro gb176 hg w14 BK176 hb; have GW176 := bz_ w hg; have GE176 := GW176; replace HB := bs_ w hb; clear hb hg) | ((with_reducible refine gate_dst (N := 4) rfl ?_); refine bx_ #[.int .i64 0, .int .i64 0, .int .i64 0, .int .i64 0, .int .i64 0, .int .u64 0] 26 ?_; intro gb177 hg w15 BK177 hb; have GW177 := bz_ w hg; have GE177 := GW177; have NB176_177 := bn_ BK176 hg; have NB177_176 := bm_ BK176 hg; replace BK176 := bb_ BK176 hb; replace HB := bs_ w hb; clear hb hg; replace hn176_177 := NB176_177.out; replace hn177_176 := NB177_176.out; replace hc176 := ce6_ BK176))
   replace BK176 := Aside0.mk (blk_drew BK176.out)
   replace BK177 := Aside0.mk (blk_drew BK177.out)
   replace HB := Aside0.mk (below_drew1 HB.out)
   refine start_ (n := 20) (S := fun w' => w'.cell? ⟨gb176, 0, none⟩ = some (.int .i64 a0_0) ∧ w'.cell? ⟨gb176, 1, none⟩ = some (.int .i64 a0_1) ∧ w'.cell? ⟨gb176, 2, none⟩ = some (.int .i64 a0_2) ∧ w'.cell? ⟨gb176, 3, none⟩ = some (.int .i64 a0_3) ∧ w'.cell? ⟨gb176, 4, none⟩ = some (.int .i64 a0_4) ∧ w'.cell? ⟨gb176, 5, none⟩ = some (.int .u64 a0_5)) (ds := []) (bl_ 20 0) (by kernel_rfl) rfl (by kernel_rfl) (cc6_ BK176) (fun hHeld => ?_); refine with_tabW spigotref03_Filled.tab3 spigotref03_Filled.bits3 (fun HT_ HW_ => ?_)
   generalize w15.drew = w18 at BK176 BK177 HB hHeld ⊢
   refine pa_ 0 (some 16) (bl_ 20 1) HT_ ?_
   refine pa_ 1 (some 17) (bl_ 20 3) HT_ ?_
   refine pa_ 4 (some 20) (bl_ 20 19) HT_ ?_
   refine pa_ 5 (some 21) (bl_ 20 51) HT_ ?_
   refine pa_ 9 (some 25) (bl_ 20 563) HT_ ?_
   refine ta_ 2 (some 18) (bl_ 20 567) HT_ HW_ hHeld ?_
   refine pa_ 3 (some 19) (bl_ 20 575) HT_ ?_
   refine ta_ 6 (some 22) (bl_ 20 639) HT_ HW_ hHeld ?_
   refine pa_ 7 (some 23) (bl_ 20 767) HT_ ?_
   refine ta_ 10 (some 26) (bl_ 20 1791) HT_ HW_ hHeld ?_
   refine pa_ 11 (some 27) (bl_ 20 3839) HT_ ?_
   refine pa_ 12 (some 28) (bl_ 20 7935) HT_ ?_
   refine join_ (σ := Nat) 2 (bl_ 20 262143) (fun s_ => [(24, .agg #[.int .u64 t178, .int .u64 t179]), (29, .tuple #[.agg #[.int .u64 t180, .int .u64 t181], .int .i64 t182]), (5, .pointer (some ⟨s_, 0, none⟩)), (15, .tuple #[.agg #[.int .u64 t180, .int .u64 t181], .int .i64 t182]), (30, .agg #[.int .u64 t180, .int .u64 t181]), (31, .int .i64 t182)]) (fun s_ w' => (w'.cell? ⟨gb176, 0, none⟩ = some (.int .i64 a0_0) ∧ w'.cell? ⟨gb176, 1, none⟩ = some (.int .i64 a0_1) ∧ w'.cell? ⟨gb176, 2, none⟩ = some (.int .i64 a0_2) ∧ w'.cell? ⟨gb176, 3, none⟩ = some (.int .i64 a0_3) ∧ w'.cell? ⟨gb176, 4, none⟩ = some (.int .i64 a0_4) ∧ w'.cell? ⟨gb176, 5, none⟩ = some (.int .u64 a0_5)) ∧ (w'.heap[gb176]? = some (.cells #[.int .i64 a0_0, .int .i64 a0_1, .int .i64 a0_2, .int .i64 a0_3, .int .i64 a0_4, .int .u64 a0_5] 26 (0, 0))) ∧ (w'.heap[gb177]? = some (.cells #[.int .i64 0, .int .i64 0, .int .i64 0, .int .i64 0, .int .i64 0, .int .u64 0] 26 (0, 0))) ∧ (w'.heap[s_]? = some (.cells #[.int .u64 0, .int .u64 0] 60 (0, 0))) ∧ (w.heap.size ≤ s_) ∧ (w.heap.size ≤ s_) ∧ (gb176 ≠ s_) ∧ (s_ ≠ gb176) ∧ (gb177 ≠ s_) ∧ (s_ ≠ gb177) ∧ (Below w.heap.size w w')) ?_ ?_
   rotate_left
   ·intro hCont
    refine tw_ 8 17 (some 24) (some 5) (bl_ 20 8191) (bl_ 20 139007) HT_ (fun K hK => ?_) fun K hK => ?_
    ·refine goesB_ Try.func46 #[.int .u64 (IntKind.u64.wrap (a1 - a0_5)), .int .u64 (IntKind.u64.wrap (a0_1))] ?_
     with_reducible refine (spigotref01_Mul.calls (IntKind.u64.wrap (a1 - a0_5)) (IntKind.u64.wrap (a0_1)) t178 t179 _ A9.out).mono ?_
     rintro e w19 ⟨rfl, hb⟩
     refine ⟨_, rfl, ?_⟩
     replace BK176 := bb_ BK176 hb
     replace BK177 := bb_ BK177 hb
     replace HB := bs_ w hb
     clear hb
     refine hK.out _ _ (cc6_ BK176) (fun hHeld => ?_)
     clear hK K
     refine nm_ (some 24) ?_
     refine tw_ 13 17 (some 29) (some 5) (bl_ 20 16383) (bl_ 20 139263) HT_ (fun K hK => ?_) fun K hK => ?_
     ·refine goesB_ Try.func45 #[.agg #[.int .u64 t178, .int .u64 t179], .agg #[.int .u64 0, .int .u64 (IntKind.u64.wrap (a0_4))]] ?_
      with_reducible refine (spigotref01_Add.calls t178 t179 0 (IntKind.u64.wrap (a0_4)) t180 t181 t182 _ A10.out).mono ?_
      rintro e w20 ⟨rfl, hb⟩
      refine ⟨_, rfl, ?_⟩
      replace BK176 := bb_ BK176 hb
      replace BK177 := bb_ BK177 hb
      replace HB := bs_ w hb
      clear hb
      refine hK.out _ _ (cc6_ BK176) (fun hHeld => ?_)
      clear hK K
      refine nm_ (some 29) ?_
      refine pa_ 14 (some 15) (bl_ 20 32767) HT_ ?_
      refine pa_ 15 (some 30) (bl_ 20 65535) HT_ ?_
      refine pa_ 16 (some 31) (bl_ 20 131071) HT_ ?_
      refine oa_ 17 (some 5) (bl_ 20 262143) HT_ fun K hK => ?_
      refine bs2_ #[.int .u64 0, .int .u64 0] 60 ?_
      intro gb183 hg w21 BK183 hb
      have GW183 := bz_ w hg
      have GE183 := GW183
      have NB176_183 := bn_ BK176 hg
      have NB183_176 := bm_ BK176 hg
      have NB177_183 := bn_ BK177 hg
      have NB183_177 := bm_ BK177 hg
      replace BK176 := bb_ BK176 hb
      replace BK177 := bb_ BK177 hb
      replace HB := bs_ w hb
      clear hb hg
      refine hK.out _ _ (cc6_ BK176) (fun hHeld => ?_)
      clear hK K
      refine nm_ (some 5) ?_
      exact no_ (hCont (gb183) _ ⟨hHeld, (bq_ BK176), (bq_ BK177), (bq_ BK183), GW183.out, GE183.out, NB176_183.out, NB183_176.out, NB177_183.out, NB183_177.out, bh_⟩)
     ·refine bs2_ #[.int .u64 0, .int .u64 0] 60 ?_
      intro gb183 hg w20 BK183 hb
      have GW183 := bz_ w hg
      have GE183 := GW183
      have NB176_183 := bn_ BK176 hg
      have NB183_176 := bm_ BK176 hg
      have NB177_183 := bn_ BK177 hg
      have NB183_177 := bm_ BK177 hg
      replace BK176 := bb_ BK176 hb
      replace BK177 := bb_ BK177 hb
      replace HB := bs_ w hb
      clear hb hg
      refine hK.out _ _ (cc6_ BK176) (fun hHeld => ?_)
      clear hK K
      refine nm_ (some 5) ?_
      refine oa_ 13 (some 29) (bl_ 20 147455) HT_ fun K hK => ?_
      refine goesB_ Try.func45 #[.agg #[.int .u64 t178, .int .u64 t179], .agg #[.int .u64 0, .int .u64 (IntKind.u64.wrap (a0_4))]] ?_
      with_reducible refine (spigotref01_Add.calls t178 t179 0 (IntKind.u64.wrap (a0_4)) t180 t181 t182 _ A10.out).mono ?_
      rintro e w21 ⟨rfl, hb⟩
      refine ⟨_, rfl, ?_⟩
      replace BK176 := bb_ BK176 hb
      replace BK177 := bb_ BK177 hb
      replace BK183 := bb_ BK183 hb
      replace HB := bs_ w hb
      clear hb
      refine hK.out _ _ (cc6_ BK176) (fun hHeld => ?_)
      clear hK K
      refine nm_ (some 29) ?_
      refine pa_ 14 (some 15) (bl_ 20 163839) HT_ ?_
      refine pa_ 15 (some 30) (bl_ 20 196607) HT_ ?_
      refine pa_ 16 (some 31) (bl_ 20 262143) HT_ ?_
      exact no_ (hCont (gb183) _ ⟨hHeld, (bq_ BK176), (bq_ BK177), (bq_ BK183), GW183.out, GE183.out, NB176_183.out, NB183_176.out, NB177_183.out, NB183_177.out, bh_⟩)
    ·refine bs2_ #[.int .u64 0, .int .u64 0] 60 ?_
     intro gb183 hg w19 BK183 hb
     have GW183 := bz_ w hg
     have GE183 := GW183
     have NB176_183 := bn_ BK176 hg
     have NB183_176 := bm_ BK176 hg
     have NB177_183 := bn_ BK177 hg
     have NB183_177 := bm_ BK177 hg
     replace BK176 := bb_ BK176 hb
     replace BK177 := bb_ BK177 hb
     replace HB := bs_ w hb
     clear hb hg
     refine hK.out _ _ (cc6_ BK176) (fun hHeld => ?_)
     clear hK K
     refine nm_ (some 5) ?_
     refine oa_ 8 (some 24) (bl_ 20 139263) HT_ fun K hK => ?_
     refine goesB_ Try.func46 #[.int .u64 (IntKind.u64.wrap (a1 - a0_5)), .int .u64 (IntKind.u64.wrap (a0_1))] ?_
     with_reducible refine (spigotref01_Mul.calls (IntKind.u64.wrap (a1 - a0_5)) (IntKind.u64.wrap (a0_1)) t178 t179 _ A9.out).mono ?_
     rintro e w20 ⟨rfl, hb⟩
     refine ⟨_, rfl, ?_⟩
     replace BK176 := bb_ BK176 hb
     replace BK177 := bb_ BK177 hb
     replace BK183 := bb_ BK183 hb
     replace HB := bs_ w hb
     clear hb
     refine hK.out _ _ (cc6_ BK176) (fun hHeld => ?_)
     clear hK K
     refine nm_ (some 24) ?_
     refine oa_ 13 (some 29) (bl_ 20 147455) HT_ fun K hK => ?_
     refine goesB_ Try.func45 #[.agg #[.int .u64 t178, .int .u64 t179], .agg #[.int .u64 0, .int .u64 (IntKind.u64.wrap (a0_4))]] ?_
     with_reducible refine (spigotref01_Add.calls t178 t179 0 (IntKind.u64.wrap (a0_4)) t180 t181 t182 _ A10.out).mono ?_
     rintro e w21 ⟨rfl, hb⟩
     refine ⟨_, rfl, ?_⟩
     replace BK176 := bb_ BK176 hb
     replace BK177 := bb_ BK177 hb
     replace BK183 := bb_ BK183 hb
     replace HB := bs_ w hb
     clear hb
     refine hK.out _ _ (cc6_ BK176) (fun hHeld => ?_)
     clear hK K
     refine nm_ (some 29) ?_
     refine pa_ 14 (some 15) (bl_ 20 163839) HT_ ?_
     refine pa_ 15 (some 30) (bl_ 20 196607) HT_ ?_
     refine pa_ 16 (some 31) (bl_ 20 262143) HT_ ?_
     exact no_ (hCont (gb183) _ ⟨hHeld, (bq_ BK176), (bq_ BK177), (bq_ BK183), GW183.out, GE183.out, NB176_183.out, NB183_176.out, NB177_183.out, NB183_177.out, bh_⟩)
   rintro gb183 w22 ⟨hS_, h0_, h1_, h2_, h3_, h4_, h5_, h6_, h7_, h8_, h9_⟩
   have BK183 := Aside0.mk h2_
   have GW183 := Aside0.mk h3_
   have GE183 := Aside0.mk h4_
   have NB176_183 := Aside0.mk h5_
   have NB183_176 := Aside0.mk h6_
   have NB177_183 := Aside0.mk h7_
   have NB183_177 := Aside0.mk h8_
   replace BK176 := Aside0.mk h0_
   replace BK177 := Aside0.mk h1_
   replace HB := Aside0.mk h9_
   clear h0_ h1_ h2_ h3_ h4_ h5_ h6_ h7_ h8_ h9_
   have hHeld := hS_
   refine nq_ ?_
   refine oa_ 18 none (bl_ 20 524287) HT_ fun K hK => ?_
   have hs23 : w22.cell? ⟨gb183, 0, none⟩ = some (.int .u64 0) := (blk_cell BK183.out 0).trans rfl
   have hfs23 := blk_frozen BK183.out 0
   have hns23_0 := NB176_183.out
   have hns23_1 := NB177_183.out
   have hms23_0 := NB183_176.out
   have hms23_1 := NB183_177.out
   have hs24 : w22.cell? ⟨gb183, 1, none⟩ = some (.int .u64 0) := (blk_cell BK183.out 1).trans rfl
   have hfs24 := blk_frozen BK183.out 1
   have hns24_0 := NB176_183.out
   have hns24_1 := NB177_183.out
   have hms24_0 := NB183_176.out
   have hms24_1 := NB183_177.out
   refine sk_ ?_
   refine hK.out _ _ (cf6_ hHeld) (fun hHeld => ?_)
   clear hK K
   refine pa_ 19 (some 6) (bl_ 20 1048575) HT_ ?_
   refine done_ (done_of HT_.out (by kernel_rfl)) ?_
   replace hn183_176 := NB183_176.out
   replace hn176_183 := NB176_183.out
   replace hn183_177 := NB183_177.out
   replace hn177_183 := NB177_183.out
   replace hc183 := ce2_ BK183
   replace hc176 := ce6_ BK176
   try go_wp2_with (first | ((with_reducible refine gate_callee (f := 47) rfl ?_); refine goesA_ (some 38) Try.func47 #[.agg #[.int .u64 t180, .int .u64 t181], .int .u64 (IntKind.u64.wrap (a0_2))] ?_; (with_reducible refine (spigotref01_Div.calls k t180 t181 (IntKind.u64.wrap (a0_2)) t184 t185 t186 t187 _ A11.out).mono ?_); rintro e w29 ⟨rfl, hb⟩; refine ⟨_, rfl, ?_⟩; replace BK176 := bf_ BK176 hb; replace BK177 := bf_ BK177 hb; replace BK183 := Aside0.mk (blk_below (g := gb183) (o := .cells #[.int .u64 t180, .int .u64 t181] 60 (0, 0)) (bp2_ (bq_ BK183)) hb); replace HB := bs_ w hb; clear hb) | ((with_reducible refine gate_dst (N := 7) rfl ?_); refine bx_ #[.int .u64 0, .int .u64 0] 60 ?_; intro gb188 hg w30 BK188 hb; have GW188 := bz_ w hg; have GE188 := GW188; have NB176_188 := bn_ BK176 hg; have NB188_176 := bm_ BK176 hg; have NB177_188 := bn_ BK177 hg; have NB188_177 := bm_ BK177 hg; have NB183_188 := bn_ BK183 hg; have NB188_183 := bm_ BK183 hg; replace BK176 := bb_ BK176 hb; replace BK177 := bb_ BK177 hb; replace BK183 := bb_ BK183 hb; replace HB := bs_ w hb; clear hb hg; replace hn188_176 := NB188_176.out; replace hn176_188 := NB176_188.out; replace hn188_177 := NB188_177.out; replace hn177_188 := NB177_188.out; replace hn188_183 := NB188_183.out; replace hn183_188 := NB183_188.out; replace hc188 := ce2_ BK188; replace hc176 := ce6_ BK176) | ((with_reducible refine gate_callee (f := 48) rfl ?_); refine goesA_ (some 53) Try.func48 #[.agg #[.int .u64 t184, .int .u64 t185], .agg #[.int .u64 0, .int .u64 (IntKind.u64.wrap (wrap64 (a0_0 - a0_3)))]] ?_; (with_reducible refine (spigotref01_Cmp.calls k t184 t185 0 (IntKind.u64.wrap (wrap64 (a0_0 - a0_3))) t189 _ A12.out).mono ?_); rintro e w36 ⟨rfl, hb⟩; refine ⟨_, rfl, ?_⟩; replace BK176 := Aside0.mk (blk_below (g := gb176) (o := .cells #[.int .i64 a0_0, .int .i64 a0_1, .int .i64 a0_2, .int .i64 a0_3, .int .i64 a0_4, .int .u64 a1] 26 (0, 0)) (blk_put (cs := #[.int .i64 a0_0, .int .i64 a0_1, .int .i64 a0_2, .int .i64 a0_3, .int .i64 a0_4, .int .u64 a0_5]) (bt_ BK176) 5 _ rfl) hb); replace BK177 := bf_ BK177 hb; replace BK183 := bf_ BK183 hb; replace BK188 := Aside0.mk (blk_below (g := gb188) (o := .cells #[.int .u64 t184, .int .u64 t185] 60 (0, 0)) (blk_far (bp2_ (bq_ BK188)) NB188_176.out _) hb); replace HB := bs_ w hb; clear hb; replace hc176 := ce6_ BK176; replace hc177 := ce6_ BK177))
   refine bodyPost_ret (results_cell_row rfl _ _ gb177 26 #[.int .i64 a0_0, .int .i64 a0_1, .int .i64 a0_2, .int .i64 a0_0, .int .i64 0, .int .u64 a1] (0, 0) _ rfl (blk_put (cs := #[.int .i64 a0_0, .int .i64 a0_1, .int .i64 a0_2, .int .i64 a0_0, .int .i64 0, .int .u64 0]) (blk_put (cs := #[.int .i64 a0_0, .int .i64 a0_1, .int .i64 a0_2, .int .i64 a0_0, .int .i64 0, .int .u64 0]) (blk_put (cs := #[.int .i64 a0_0, .int .i64 a0_1, .int .i64 a0_2, .int .i64 0, .int .i64 0, .int .u64 0]) (blk_put (cs := #[.int .i64 a0_0, .int .i64 a0_1, .int .i64 0, .int .i64 0, .int .i64 0, .int .u64 0]) (blk_put (cs := #[.int .i64 a0_0, .int .i64 0, .int .i64 0, .int .i64 0, .int .i64 0, .int .u64 0]) (blk_put (cs := #[.int .i64 0, .int .i64 0, .int .i64 0, .int .i64 0, .int .i64 0, .int .u64 0]) (bt_ BK177) 0 _ rfl) 1 _ rfl) 2 _ rfl) 3 _ rfl) 4 _ rfl) 5 _ rfl) Try.underlying26 rfl (by kernel_rfl)) rfl ?_
   exact fi_
  ·rw [if_neg c13] at H
   have c13b0 : decide (0 ≤ t189) = false := decide_eq_false c13
   clear c13
   simp only [Option.some.injEq, Prod.mk.injEq] at H
   obtain ⟨rfl, rfl, rfl, rfl, rfl, rfl⟩ := H
   go_enter Try.func35, Try.ntmps35
   try go_wp2_with (first | ((with_reducible refine gate_dst (N := 2) rfl ?_); refine bx_ #[.int .i64 a0_0, .int .i64 a0_1, .int .i64 a0_2, .int .i64 a0_3, .int .i64 a0_4, .int .u64 a0_5] 26 ?_; intro gb176 hg w39 BK176 hb; have GW176 := bz_ w hg; have GE176 := GW176; replace HB := bs_ w hb; clear hb hg) | ((with_reducible refine gate_dst (N := 4) rfl ?_); refine bx_ #[.int .i64 0, .int .i64 0, .int .i64 0, .int .i64 0, .int .i64 0, .int .u64 0] 26 ?_; intro gb177 hg w40 BK177 hb; have GW177 := bz_ w hg; have GE177 := GW177; have NB176_177 := bn_ BK176 hg; have NB177_176 := bm_ BK176 hg; replace BK176 := bb_ BK176 hb; replace HB := bs_ w hb; clear hb hg; replace hn176_177 := NB176_177.out; replace hn177_176 := NB177_176.out; replace hc176 := ce6_ BK176))
   replace BK176 := Aside0.mk (blk_drew BK176.out)
   replace BK177 := Aside0.mk (blk_drew BK177.out)
   replace HB := Aside0.mk (below_drew1 HB.out)
   refine start_ (n := 20) (S := fun w' => w'.cell? ⟨gb176, 0, none⟩ = some (.int .i64 a0_0) ∧ w'.cell? ⟨gb176, 1, none⟩ = some (.int .i64 a0_1) ∧ w'.cell? ⟨gb176, 2, none⟩ = some (.int .i64 a0_2) ∧ w'.cell? ⟨gb176, 3, none⟩ = some (.int .i64 a0_3) ∧ w'.cell? ⟨gb176, 4, none⟩ = some (.int .i64 a0_4) ∧ w'.cell? ⟨gb176, 5, none⟩ = some (.int .u64 a0_5)) (ds := []) (bl_ 20 0) (by kernel_rfl) rfl (by kernel_rfl) (cc6_ BK176) (fun hHeld => ?_); refine with_tabW spigotref03_Filled.tab3 spigotref03_Filled.bits3 (fun HT_ HW_ => ?_)
   generalize w40.drew = w43 at BK176 BK177 HB hHeld ⊢
   refine pa_ 0 (some 16) (bl_ 20 1) HT_ ?_
   refine pa_ 1 (some 17) (bl_ 20 3) HT_ ?_
   refine pa_ 4 (some 20) (bl_ 20 19) HT_ ?_
   refine pa_ 5 (some 21) (bl_ 20 51) HT_ ?_
   refine pa_ 9 (some 25) (bl_ 20 563) HT_ ?_
   refine ta_ 2 (some 18) (bl_ 20 567) HT_ HW_ hHeld ?_
   refine pa_ 3 (some 19) (bl_ 20 575) HT_ ?_
   refine ta_ 6 (some 22) (bl_ 20 639) HT_ HW_ hHeld ?_
   refine pa_ 7 (some 23) (bl_ 20 767) HT_ ?_
   refine ta_ 10 (some 26) (bl_ 20 1791) HT_ HW_ hHeld ?_
   refine pa_ 11 (some 27) (bl_ 20 3839) HT_ ?_
   refine pa_ 12 (some 28) (bl_ 20 7935) HT_ ?_
   refine join_ (σ := Nat) 2 (bl_ 20 262143) (fun s_ => [(24, .agg #[.int .u64 t178, .int .u64 t179]), (29, .tuple #[.agg #[.int .u64 t180, .int .u64 t181], .int .i64 t182]), (5, .pointer (some ⟨s_, 0, none⟩)), (15, .tuple #[.agg #[.int .u64 t180, .int .u64 t181], .int .i64 t182]), (30, .agg #[.int .u64 t180, .int .u64 t181]), (31, .int .i64 t182)]) (fun s_ w' => (w'.cell? ⟨gb176, 0, none⟩ = some (.int .i64 a0_0) ∧ w'.cell? ⟨gb176, 1, none⟩ = some (.int .i64 a0_1) ∧ w'.cell? ⟨gb176, 2, none⟩ = some (.int .i64 a0_2) ∧ w'.cell? ⟨gb176, 3, none⟩ = some (.int .i64 a0_3) ∧ w'.cell? ⟨gb176, 4, none⟩ = some (.int .i64 a0_4) ∧ w'.cell? ⟨gb176, 5, none⟩ = some (.int .u64 a0_5)) ∧ (w'.heap[gb176]? = some (.cells #[.int .i64 a0_0, .int .i64 a0_1, .int .i64 a0_2, .int .i64 a0_3, .int .i64 a0_4, .int .u64 a0_5] 26 (0, 0))) ∧ (w'.heap[gb177]? = some (.cells #[.int .i64 0, .int .i64 0, .int .i64 0, .int .i64 0, .int .i64 0, .int .u64 0] 26 (0, 0))) ∧ (w'.heap[s_]? = some (.cells #[.int .u64 0, .int .u64 0] 60 (0, 0))) ∧ (w.heap.size ≤ s_) ∧ (w.heap.size ≤ s_) ∧ (gb176 ≠ s_) ∧ (s_ ≠ gb176) ∧ (gb177 ≠ s_) ∧ (s_ ≠ gb177) ∧ (Below w.heap.size w w')) ?_ ?_
   rotate_left
   ·intro hCont
    refine tw_ 8 17 (some 24) (some 5) (bl_ 20 8191) (bl_ 20 139007) HT_ (fun K hK => ?_) fun K hK => ?_
    ·refine goesB_ Try.func46 #[.int .u64 (IntKind.u64.wrap (a1 - a0_5)), .int .u64 (IntKind.u64.wrap (a0_1))] ?_
     with_reducible refine (spigotref01_Mul.calls (IntKind.u64.wrap (a1 - a0_5)) (IntKind.u64.wrap (a0_1)) t178 t179 _ A9.out).mono ?_
     rintro e w44 ⟨rfl, hb⟩
     refine ⟨_, rfl, ?_⟩
     replace BK176 := bb_ BK176 hb
     replace BK177 := bb_ BK177 hb
     replace HB := bs_ w hb
     clear hb
     refine hK.out _ _ (cc6_ BK176) (fun hHeld => ?_)
     clear hK K
     refine nm_ (some 24) ?_
     refine tw_ 13 17 (some 29) (some 5) (bl_ 20 16383) (bl_ 20 139263) HT_ (fun K hK => ?_) fun K hK => ?_
     ·refine goesB_ Try.func45 #[.agg #[.int .u64 t178, .int .u64 t179], .agg #[.int .u64 0, .int .u64 (IntKind.u64.wrap (a0_4))]] ?_
      with_reducible refine (spigotref01_Add.calls t178 t179 0 (IntKind.u64.wrap (a0_4)) t180 t181 t182 _ A10.out).mono ?_
      rintro e w45 ⟨rfl, hb⟩
      refine ⟨_, rfl, ?_⟩
      replace BK176 := bb_ BK176 hb
      replace BK177 := bb_ BK177 hb
      replace HB := bs_ w hb
      clear hb
      refine hK.out _ _ (cc6_ BK176) (fun hHeld => ?_)
      clear hK K
      refine nm_ (some 29) ?_
      refine pa_ 14 (some 15) (bl_ 20 32767) HT_ ?_
      refine pa_ 15 (some 30) (bl_ 20 65535) HT_ ?_
      refine pa_ 16 (some 31) (bl_ 20 131071) HT_ ?_
      refine oa_ 17 (some 5) (bl_ 20 262143) HT_ fun K hK => ?_
      refine bs2_ #[.int .u64 0, .int .u64 0] 60 ?_
      intro gb183 hg w46 BK183 hb
      have GW183 := bz_ w hg
      have GE183 := GW183
      have NB176_183 := bn_ BK176 hg
      have NB183_176 := bm_ BK176 hg
      have NB177_183 := bn_ BK177 hg
      have NB183_177 := bm_ BK177 hg
      replace BK176 := bb_ BK176 hb
      replace BK177 := bb_ BK177 hb
      replace HB := bs_ w hb
      clear hb hg
      refine hK.out _ _ (cc6_ BK176) (fun hHeld => ?_)
      clear hK K
      refine nm_ (some 5) ?_
      exact no_ (hCont (gb183) _ ⟨hHeld, (bq_ BK176), (bq_ BK177), (bq_ BK183), GW183.out, GE183.out, NB176_183.out, NB183_176.out, NB177_183.out, NB183_177.out, bh_⟩)
     ·refine bs2_ #[.int .u64 0, .int .u64 0] 60 ?_
      intro gb183 hg w45 BK183 hb
      have GW183 := bz_ w hg
      have GE183 := GW183
      have NB176_183 := bn_ BK176 hg
      have NB183_176 := bm_ BK176 hg
      have NB177_183 := bn_ BK177 hg
      have NB183_177 := bm_ BK177 hg
      replace BK176 := bb_ BK176 hb
      replace BK177 := bb_ BK177 hb
      replace HB := bs_ w hb
      clear hb hg
      refine hK.out _ _ (cc6_ BK176) (fun hHeld => ?_)
      clear hK K
      refine nm_ (some 5) ?_
      refine oa_ 13 (some 29) (bl_ 20 147455) HT_ fun K hK => ?_
      refine goesB_ Try.func45 #[.agg #[.int .u64 t178, .int .u64 t179], .agg #[.int .u64 0, .int .u64 (IntKind.u64.wrap (a0_4))]] ?_
      with_reducible refine (spigotref01_Add.calls t178 t179 0 (IntKind.u64.wrap (a0_4)) t180 t181 t182 _ A10.out).mono ?_
      rintro e w46 ⟨rfl, hb⟩
      refine ⟨_, rfl, ?_⟩
      replace BK176 := bb_ BK176 hb
      replace BK177 := bb_ BK177 hb
      replace BK183 := bb_ BK183 hb
      replace HB := bs_ w hb
      clear hb
      refine hK.out _ _ (cc6_ BK176) (fun hHeld => ?_)
      clear hK K
      refine nm_ (some 29) ?_
      refine pa_ 14 (some 15) (bl_ 20 163839) HT_ ?_
      refine pa_ 15 (some 30) (bl_ 20 196607) HT_ ?_
      refine pa_ 16 (some 31) (bl_ 20 262143) HT_ ?_
      exact no_ (hCont (gb183) _ ⟨hHeld, (bq_ BK176), (bq_ BK177), (bq_ BK183), GW183.out, GE183.out, NB176_183.out, NB183_176.out, NB177_183.out, NB183_177.out, bh_⟩)
    ·refine bs2_ #[.int .u64 0, .int .u64 0] 60 ?_
     intro gb183 hg w44 BK183 hb
     have GW183 := bz_ w hg
     have GE183 := GW183
     have NB176_183 := bn_ BK176 hg
     have NB183_176 := bm_ BK176 hg
     have NB177_183 := bn_ BK177 hg
     have NB183_177 := bm_ BK177 hg
     replace BK176 := bb_ BK176 hb
     replace BK177 := bb_ BK177 hb
     replace HB := bs_ w hb
     clear hb hg
     refine hK.out _ _ (cc6_ BK176) (fun hHeld => ?_)
     clear hK K
     refine nm_ (some 5) ?_
     refine oa_ 8 (some 24) (bl_ 20 139263) HT_ fun K hK => ?_
     refine goesB_ Try.func46 #[.int .u64 (IntKind.u64.wrap (a1 - a0_5)), .int .u64 (IntKind.u64.wrap (a0_1))] ?_
     with_reducible refine (spigotref01_Mul.calls (IntKind.u64.wrap (a1 - a0_5)) (IntKind.u64.wrap (a0_1)) t178 t179 _ A9.out).mono ?_
     rintro e w45 ⟨rfl, hb⟩
     refine ⟨_, rfl, ?_⟩
     replace BK176 := bb_ BK176 hb
     replace BK177 := bb_ BK177 hb
     replace BK183 := bb_ BK183 hb
     replace HB := bs_ w hb
     clear hb
     refine hK.out _ _ (cc6_ BK176) (fun hHeld => ?_)
     clear hK K
     refine nm_ (some 24) ?_
     refine oa_ 13 (some 29) (bl_ 20 147455) HT_ fun K hK => ?_
     refine goesB_ Try.func45 #[.agg #[.int .u64 t178, .int .u64 t179], .agg #[.int .u64 0, .int .u64 (IntKind.u64.wrap (a0_4))]] ?_
     with_reducible refine (spigotref01_Add.calls t178 t179 0 (IntKind.u64.wrap (a0_4)) t180 t181 t182 _ A10.out).mono ?_
     rintro e w46 ⟨rfl, hb⟩
     refine ⟨_, rfl, ?_⟩
     replace BK176 := bb_ BK176 hb
     replace BK177 := bb_ BK177 hb
     replace BK183 := bb_ BK183 hb
     replace HB := bs_ w hb
     clear hb
     refine hK.out _ _ (cc6_ BK176) (fun hHeld => ?_)
     clear hK K
     refine nm_ (some 29) ?_
     refine pa_ 14 (some 15) (bl_ 20 163839) HT_ ?_
     refine pa_ 15 (some 30) (bl_ 20 196607) HT_ ?_
     refine pa_ 16 (some 31) (bl_ 20 262143) HT_ ?_
     exact no_ (hCont (gb183) _ ⟨hHeld, (bq_ BK176), (bq_ BK177), (bq_ BK183), GW183.out, GE183.out, NB176_183.out, NB183_176.out, NB177_183.out, NB183_177.out, bh_⟩)
   rintro gb183 w47 ⟨hS_, h0_, h1_, h2_, h3_, h4_, h5_, h6_, h7_, h8_, h9_⟩
   have BK183 := Aside0.mk h2_
   have GW183 := Aside0.mk h3_
   have GE183 := Aside0.mk h4_
   have NB176_183 := Aside0.mk h5_
   have NB183_176 := Aside0.mk h6_
   have NB177_183 := Aside0.mk h7_
   have NB183_177 := Aside0.mk h8_
   replace BK176 := Aside0.mk h0_
   replace BK177 := Aside0.mk h1_
   replace HB := Aside0.mk h9_
   clear h0_ h1_ h2_ h3_ h4_ h5_ h6_ h7_ h8_ h9_
   have hHeld := hS_
   refine nq_ ?_
   refine oa_ 18 none (bl_ 20 524287) HT_ fun K hK => ?_
   have hs48 : w47.cell? ⟨gb183, 0, none⟩ = some (.int .u64 0) := (blk_cell BK183.out 0).trans rfl
   have hfs48 := blk_frozen BK183.out 0
   have hns48_0 := NB176_183.out
   have hns48_1 := NB177_183.out
   have hms48_0 := NB183_176.out
   have hms48_1 := NB183_177.out
   have hs49 : w47.cell? ⟨gb183, 1, none⟩ = some (.int .u64 0) := (blk_cell BK183.out 1).trans rfl
   have hfs49 := blk_frozen BK183.out 1
   have hns49_0 := NB176_183.out
   have hns49_1 := NB177_183.out
   have hms49_0 := NB183_176.out
   have hms49_1 := NB183_177.out
   refine sk_ ?_
   refine hK.out _ _ (cf6_ hHeld) (fun hHeld => ?_)
   clear hK K
   refine pa_ 19 (some 6) (bl_ 20 1048575) HT_ ?_
   refine done_ (done_of HT_.out (by kernel_rfl)) ?_
   replace hn183_176 := NB183_176.out
   replace hn176_183 := NB176_183.out
   replace hn183_177 := NB183_177.out
   replace hn177_183 := NB177_183.out
   replace hc183 := ce2_ BK183
   replace hc176 := ce6_ BK176
   try go_wp2_with (first | ((with_reducible refine gate_callee (f := 47) rfl ?_); refine goesA_ (some 38) Try.func47 #[.agg #[.int .u64 t180, .int .u64 t181], .int .u64 (IntKind.u64.wrap (a0_2))] ?_; (with_reducible refine (spigotref01_Div.calls k t180 t181 (IntKind.u64.wrap (a0_2)) t184 t185 t186 t187 _ A11.out).mono ?_); rintro e w54 ⟨rfl, hb⟩; refine ⟨_, rfl, ?_⟩; replace BK176 := bf_ BK176 hb; replace BK177 := bf_ BK177 hb; replace BK183 := Aside0.mk (blk_below (g := gb183) (o := .cells #[.int .u64 t180, .int .u64 t181] 60 (0, 0)) (bp2_ (bq_ BK183)) hb); replace HB := bs_ w hb; clear hb) | ((with_reducible refine gate_dst (N := 7) rfl ?_); refine bx_ #[.int .u64 0, .int .u64 0] 60 ?_; intro gb188 hg w55 BK188 hb; have GW188 := bz_ w hg; have GE188 := GW188; have NB176_188 := bn_ BK176 hg; have NB188_176 := bm_ BK176 hg; have NB177_188 := bn_ BK177 hg; have NB188_177 := bm_ BK177 hg; have NB183_188 := bn_ BK183 hg; have NB188_183 := bm_ BK183 hg; replace BK176 := bb_ BK176 hb; replace BK177 := bb_ BK177 hb; replace BK183 := bb_ BK183 hb; replace HB := bs_ w hb; clear hb hg; replace hn188_176 := NB188_176.out; replace hn176_188 := NB176_188.out; replace hn188_177 := NB188_177.out; replace hn177_188 := NB177_188.out; replace hn188_183 := NB188_183.out; replace hn183_188 := NB183_188.out; replace hc188 := ce2_ BK188; replace hc176 := ce6_ BK176) | ((with_reducible refine gate_callee (f := 48) rfl ?_); refine goesA_ (some 53) Try.func48 #[.agg #[.int .u64 t184, .int .u64 t185], .agg #[.int .u64 0, .int .u64 (IntKind.u64.wrap (wrap64 (a0_0 - a0_3)))]] ?_; (with_reducible refine (spigotref01_Cmp.calls k t184 t185 0 (IntKind.u64.wrap (wrap64 (a0_0 - a0_3))) t189 _ A12.out).mono ?_); rintro e w61 ⟨rfl, hb⟩; refine ⟨_, rfl, ?_⟩; replace BK176 := Aside0.mk (blk_below (g := gb176) (o := .cells #[.int .i64 a0_0, .int .i64 a0_1, .int .i64 a0_2, .int .i64 a0_3, .int .i64 a0_4, .int .u64 a1] 26 (0, 0)) (blk_put (cs := #[.int .i64 a0_0, .int .i64 a0_1, .int .i64 a0_2, .int .i64 a0_3, .int .i64 a0_4, .int .u64 a0_5]) (bt_ BK176) 5 _ rfl) hb); replace BK177 := bf_ BK177 hb; replace BK183 := bf_ BK183 hb; replace BK188 := Aside0.mk (blk_below (g := gb188) (o := .cells #[.int .u64 t184, .int .u64 t185] 60 (0, 0)) (blk_far (bp2_ (bq_ BK188)) NB188_176.out _) hb); replace HB := bs_ w hb; clear hb; replace hc176 := ce6_ BK176; replace hc188 := ce2_ BK188; replace hc177 := ce6_ BK177))
   refine bodyPost_ret (results_cell_row rfl _ _ gb177 26 #[.int .i64 a0_0, .int .i64 a0_1, .int .i64 a0_2, .int .i64 (wrap64 (a0_3 + (wrap64 (t185)))), .int .i64 (wrap64 (t186)), .int .u64 a1] (0, 0) _ rfl (blk_put (cs := #[.int .i64 a0_0, .int .i64 a0_1, .int .i64 a0_2, .int .i64 (wrap64 (a0_3 + (wrap64 (t185)))), .int .i64 (wrap64 (t186)), .int .u64 0]) (blk_put (cs := #[.int .i64 a0_0, .int .i64 a0_1, .int .i64 a0_2, .int .i64 (wrap64 (a0_3 + (wrap64 (t185)))), .int .i64 0, .int .u64 0]) (blk_put (cs := #[.int .i64 a0_0, .int .i64 a0_1, .int .i64 a0_2, .int .i64 0, .int .i64 0, .int .u64 0]) (blk_put (cs := #[.int .i64 a0_0, .int .i64 a0_1, .int .i64 0, .int .i64 0, .int .i64 0, .int .u64 0]) (blk_put (cs := #[.int .i64 a0_0, .int .i64 0, .int .i64 0, .int .i64 0, .int .i64 0, .int .u64 0]) (blk_put (cs := #[.int .i64 0, .int .i64 0, .int .i64 0, .int .i64 0, .int .i64 0, .int .u64 0]) (bt_ BK177) 0 _ rfl) 1 _ rfl) 2 _ rfl) 3 _ rfl) 4 _ rfl) 5 _ rfl) Try.underlying26 rfl (by kernel_rfl)) rfl ?_
   exact fi_

end Go.Proofs.Ytmfkedeaifdfdaa.X
