-- written by xprint.py, a program of this session over the kit's print
import Derived.Test.YtfdpcnkghmmobaaX0
import Derived.Test.YtfdpcnkghmmobaaX22
import Derived.Test.YtfdpcnkghmmobaaX23
import Derived.Test.YtfdpcnkghmmobaaX24
namespace Go.Proofs.Ytfdpcnkghmmobaa.X
open Go.RowKit Go.Proofs.YtfdpcnkghmmobaaW.PrintWords Go.Proofs.YtfdpcnkghmmobaaW.PrintLast Go.Proofs.YtfdpcnkghmmobaaW.PrintMore
attribute [local go_sem] max2_int min2_int max_two min_two max_three min_three max_four min_four   -- for this text's walks alone
set_option linter.unusedVariables false
set_option linter.unusedSimpArgs false

/-! ### spigotref03_Filled: function 61 -/
def spigotref03_Filled.f (k : Nat) (a0_0 : Int) (a0_1 : Int) (a0_2 : Int) (a0_3 : Int) (a0_4 : Int) (a0_5 : Int) (a1 : Int) : Option (Int × Int × Int × Int × Int × Int) := if a1 < a0_5 then (some (a0_0, a0_1, a0_2, a0_3, a0_4, a0_5)) else ((spigotref01_Mul.f (IntKind.u64.wrap (a1 - a0_5)) (IntKind.u64.wrap (a0_1))).bind fun bt254 => ((spigotref01_Add.f bt254.1 bt254.2 0 (IntKind.u64.wrap (a0_4))).bind fun bt256 => ((spigotref01_Div.f k bt256.1 bt256.2.1 (IntKind.u64.wrap (a0_2))).bind fun bt260 => ((spigotref01_Cmp.f k bt260.1 bt260.2.1 0 (IntKind.u64.wrap (wrap64 (a0_0 - a0_3)))).bind fun t265 => (if t265 ≥ 0 then (some (a0_0, a0_1, a0_2, a0_0, 0, a1)) else (some (a0_0, a0_1, a0_2, wrap64 (a0_3 + (wrap64 (bt260.2.1))), wrap64 (bt260.2.2.1), a1)))))))
theorem spigotref03_Filled.mono : ∀ a0 a1 a2 a3 a4 a5 a6 k, LeO (spigotref03_Filled.f k a0 a1 a2 a3 a4 a5 a6) (spigotref03_Filled.f (k + 1) a0 a1 a2 a3 a4 a5 a6) := by
  intro a0 a1 a2 a3 a4 a5 a6 k
  unfold spigotref03_Filled.f
  repeat' first
      | (with_reducible exact spigotref01_Cmp.mono _ _ _ _ _)
      | (with_reducible exact spigotref01_Div.mono _ _ _ _)
      | (with_reducible exact LeO.refl _)
      | (with_reducible exact LeO.none _)
      | (with_reducible refine LeO.ite ?_ ?_)
      | (with_reducible refine LeO.bind ?_ (fun _ => ?_))
      | exact spigotref01_Cmp.mono _ _ _ _ _
      | exact spigotref01_Div.mono _ _ _ _
      | exact LeO.none _
      | refine LeO.ite ?_ ?_
      | refine LeO.bind ?_ (fun _ => ?_)
def spigotref03_Filled.T3 : Bool × List (List Nat × List Nat) := (true, [([], []), ([], []), ([1], [1]), ([0, 2], [0, 2]), ([], []), ([4], [4]), ([5], [5]), ([6], [6]), ([3, 7], [3, 7]), ([], []), ([9], [9]), ([10], [10]), ([11], [11]), ([8, 12, 8], [8, 12]), ([13], [13]), ([14], [14]), ([14], [14]), ([], []), ([17, 15, 13, 0, 1, 2, 3, 4, 5, 6, 7, 8, 9, 10, 11, 12, 13, 14, 15, 17], [15, 17]), ([16, 18, 0, 1, 2, 3, 4, 5, 6, 7, 8, 9, 10, 11, 12, 13, 14, 15, 16, 17, 18], [16])])
def spigotref03_Filled.B3 : List Nat := [0, 0, 2, 7, 0, 16, 48, 112, 255, 0, 512, 1536, 3584, 8191, 16383, 32767, 32767, 0, 196607, 524287]
theorem spigotref03_Filled.tab3 : rtab .any (opsOf Try.f61 3) = spigotref03_Filled.T3 := by kernel_rfl
theorem spigotref03_Filled.bits3 : waitsOk spigotref03_Filled.T3.2 spigotref03_Filled.B3 = true := by kernel_rfl
set_option maxHeartbeats 8000000 in
set_option maxRecDepth 100000 in
theorem spigotref03_Filled.calls (k : Nat) (a0_0 : Int) (a0_1 : Int) (a0_2 : Int) (a0_3 : Int) (a0_4 : Int) (a0_5 : Int) (a1 : Int) (r1 : Int) (r2 : Int) (r3 : Int) (r4 : Int) (r5 : Int) (r6 : Int) (w : World) (h : spigotref03_Filled.f k a0_0 a0_1 a0_2 a0_3 a0_4 a0_5 a1 = some (r1, r2, r3, r4, r5, r6)) :
  Calls Try.prog 61 #[.agg #[.int .i64 a0_0, .int .i64 a0_1, .int .i64 a0_2, .int .i64 a0_3, .int .i64 a0_4, .int .u64 a0_5], .int .u64 a1] w fun e w' => e = .returned (.agg #[.int .i64 r1, .int .i64 r2, .int .i64 r3, .int .i64 r4, .int .i64 r5, .int .u64 r6]) ∧ Below w.heap.size w w' := by
 have hu63 := Try.underlying63
 have hu97 := Try.underlying97
 have HB := Aside0.mk (Below.refl w.heap.size w)
 have H : (if a1 < a0_5 then (some (a0_0, a0_1, a0_2, a0_3, a0_4, a0_5)) else ((spigotref01_Mul.f (IntKind.u64.wrap (a1 - a0_5)) (IntKind.u64.wrap (a0_1))).bind fun bt254 => ((spigotref01_Add.f bt254.1 bt254.2 0 (IntKind.u64.wrap (a0_4))).bind fun bt256 => ((spigotref01_Div.f k bt256.1 bt256.2.1 (IntKind.u64.wrap (a0_2))).bind fun bt260 => ((spigotref01_Cmp.f k bt260.1 bt260.2.1 0 (IntKind.u64.wrap (wrap64 (a0_0 - a0_3)))).bind fun t265 => (if t265 ≥ 0 then (some (a0_0, a0_1, a0_2, a0_0, 0, a1)) else (some (a0_0, a0_1, a0_2, wrap64 (a0_3 + (wrap64 (bt260.2.1))), wrap64 (bt260.2.2.1), a1)))))))) = some (r1, r2, r3, r4, r5, r6) := h
 clear h
 by_cases c3 : a1 < a0_5
 ·rw [if_pos c3] at H
  have c3b0 : decide (a1 < a0_5) = true := decide_eq_true c3
  clear c3
  simp only [Option.some.injEq, Prod.mk.injEq] at H
  obtain ⟨rfl, rfl, rfl, rfl, rfl, rfl⟩ := H
  go_enter Try.func61, Try.ntmps61
  go_wp2_with (first | ((with_reducible refine gate_dst (N := 2) rfl ?_); refine bx_ #[.int .i64 a0_0, .int .i64 a0_1, .int .i64 a0_2, .int .i64 a0_3, .int .i64 a0_4, .int .u64 a0_5] 63 ?_; intro gb252 hg w4 BK252 hb; have GW252 := bz_ w hg; have GE252 := GW252; replace HB := bs_ w hb; clear hb hg) | ((with_reducible refine gate_dst (N := 4) rfl ?_); refine bx_ #[.int .i64 0, .int .i64 0, .int .i64 0, .int .i64 0, .int .i64 0, .int .u64 0] 63 ?_; intro gb253 hg w5 BK253 hb; have GW253 := bz_ w hg; have GE253 := GW253; have NB252_253 := bn_ BK252 hg; have NB253_252 := bm_ BK252 hg; replace BK252 := bb_ BK252 hb; replace HB := bs_ w hb; clear hb hg; replace hn252_253 := NB252_253.out; replace hn253_252 := NB253_252.out; replace hc252 := ce6_ BK252; replace hc253 := ce6_ BK253))
  refine bodyPost_ret (results_cell_row rfl _ _ gb253 63 #[.int .i64 a0_0, .int .i64 a0_1, .int .i64 a0_2, .int .i64 a0_3, .int .i64 a0_4, .int .u64 a0_5] (0, 0) _ rfl (bp6_ (bq_ BK253)) Try.underlying63 rfl (by kernel_rfl)) rfl ?_
  exact fi_
 ·rw [if_neg c3] at H
  have c3b0 : decide (a1 < a0_5) = false := decide_eq_false c3
  clear c3
  have H0_ := bo_ H; clear H; obtain ⟨⟨t254, t255⟩, A9, H⟩ := H0_
  try dsimp only at H
  have H0_ := bo_ H; clear H; obtain ⟨⟨t256, t257, t258⟩, A10, H⟩ := H0_
  try dsimp only at H
  have H0_ := bo_ H; clear H; obtain ⟨⟨t260, t261, t262, t263⟩, A11, H⟩ := H0_
  try dsimp only at H
  have H0_ := bo_ H; clear H; obtain ⟨t265, A12, H⟩ := H0_
  try dsimp only at H
  by_cases c13 : t265 ≥ 0
  ·rw [if_pos c13] at H
   have c13b0 : decide (0 ≤ t265) = true := decide_eq_true c13
   clear c13
   simp only [Option.some.injEq, Prod.mk.injEq] at H
   obtain ⟨rfl, rfl, rfl, rfl, rfl, rfl⟩ := H
   go_enter Try.func61, Try.ntmps61
   try go_wp2_with (first | ((with_reducible refine gate_dst (N := 2) rfl ?_); refine bx_ #[.int .i64 a0_0, .int .i64 a0_1, .int .i64 a0_2, .int .i64 a0_3, .int .i64 a0_4, .int .u64 a0_5] 63 ?_; intro gb252 hg w14 BK252 hb; have GW252 := bz_ w hg; have GE252 := GW252; replace HB := bs_ w hb; clear hb hg) | ((with_reducible refine gate_dst (N := 4) rfl ?_); refine bx_ #[.int .i64 0, .int .i64 0, .int .i64 0, .int .i64 0, .int .i64 0, .int .u64 0] 63 ?_; intro gb253 hg w15 BK253 hb; have GW253 := bz_ w hg; have GE253 := GW253; have NB252_253 := bn_ BK252 hg; have NB253_252 := bm_ BK252 hg; replace BK252 := bb_ BK252 hb; replace HB := bs_ w hb; clear hb hg; replace hn252_253 := NB252_253.out; replace hn253_252 := NB253_252.out; replace hc252 := ce6_ BK252))
   replace BK252 := Aside0.mk (blk_drew BK252.out)
   replace BK253 := Aside0.mk (blk_drew BK253.out)
   replace HB := Aside0.mk (below_drew1 HB.out)
   refine start_ (n := 20) (S := fun w' => w'.cell? ⟨gb252, 0, none⟩ = some (.int .i64 a0_0) ∧ w'.cell? ⟨gb252, 1, none⟩ = some (.int .i64 a0_1) ∧ w'.cell? ⟨gb252, 2, none⟩ = some (.int .i64 a0_2) ∧ w'.cell? ⟨gb252, 3, none⟩ = some (.int .i64 a0_3) ∧ w'.cell? ⟨gb252, 4, none⟩ = some (.int .i64 a0_4) ∧ w'.cell? ⟨gb252, 5, none⟩ = some (.int .u64 a0_5)) (ds := []) (bl_ 20 0) (by kernel_rfl) rfl (by kernel_rfl) (cc6_ BK252) (fun hHeld => ?_); refine with_tabW spigotref03_Filled.tab3 spigotref03_Filled.bits3 (fun HT_ HW_ => ?_)
   generalize w15.drew = w18 at BK252 BK253 HB hHeld ⊢
   refine pa_ 0 (some 16) (bl_ 20 1) HT_ ?_
   refine pa_ 1 (some 17) (bl_ 20 3) HT_ ?_
   refine pa_ 4 (some 20) (bl_ 20 19) HT_ ?_
   refine pa_ 5 (some 21) (bl_ 20 51) HT_ ?_
   refine pa_ 9 (some 25) (bl_ 20 563) HT_ ?_
   refine ta_ 2 (some 18) (bl_ 20 567) HT_ HW_ hHeld ?_
   refine pa_ 3 (some 19) (bl_ 20 575) HT_ ?_
   refine ta_ 6 (some 22) (bl_ 20 639) HT_ HW_ hHeld ?_
   refine pa_ 7 (some 23) (bl_ 20 767) HT_ ?_
   refine ta_ 10 (some 26) (bl_ 20 1791) HT_ HW_ hHeld ?_
   refine pa_ 11 (some 27) (bl_ 20 3839) HT_ ?_
   refine pa_ 12 (some 28) (bl_ 20 7935) HT_ ?_
   refine join_ (σ := Nat) 2 (bl_ 20 262143) (fun s_ => [(24, .agg #[.int .u64 t254, .int .u64 t255]), (29, .tuple #[.agg #[.int .u64 t256, .int .u64 t257], .int .i64 t258]), (5, .pointer (some ⟨s_, 0, none⟩)), (15, .tuple #[.agg #[.int .u64 t256, .int .u64 t257], .int .i64 t258]), (30, .agg #[.int .u64 t256, .int .u64 t257]), (31, .int .i64 t258)]) (fun s_ w' => (w'.cell? ⟨gb252, 0, none⟩ = some (.int .i64 a0_0) ∧ w'.cell? ⟨gb252, 1, none⟩ = some (.int .i64 a0_1) ∧ w'.cell? ⟨gb252, 2, none⟩ = some (.int .i64 a0_2) ∧ w'.cell? ⟨gb252, 3, none⟩ = some (.int .i64 a0_3) ∧ w'.cell? ⟨gb252, 4, none⟩ = some (.int .i64 a0_4) ∧ w'.cell? ⟨gb252, 5, none⟩ = some (.int .u64 a0_5)) ∧ (w'.heap[gb252]? = some (.cells #[.int .i64 a0_0, .int .i64 a0_1, .int .i64 a0_2, .int .i64 a0_3, .int .i64 a0_4, .int .u64 a0_5] 63 (0, 0))) ∧ (w'.heap[gb253]? = some (.cells #[.int .i64 0, .int .i64 0, .int .i64 0, .int .i64 0, .int .i64 0, .int .u64 0] 63 (0, 0))) ∧ (w'.heap[s_]? = some (.cells #[.int .u64 0, .int .u64 0] 97 (0, 0))) ∧ (w.heap.size ≤ s_) ∧ (w.heap.size ≤ s_) ∧ (gb252 ≠ s_) ∧ (s_ ≠ gb252) ∧ (gb253 ≠ s_) ∧ (s_ ≠ gb253) ∧ (Below w.heap.size w w')) ?_ ?_
   rotate_left
   ·intro hCont
    refine tw_ 8 17 (some 24) (some 5) (bl_ 20 8191) (bl_ 20 139007) HT_ (fun K hK => ?_) fun K hK => ?_
    ·refine goesB_ Try.func77 #[.int .u64 (IntKind.u64.wrap (a1 - a0_5)), .int .u64 (IntKind.u64.wrap (a0_1))] ?_
     with_reducible refine (spigotref01_Mul.calls (IntKind.u64.wrap (a1 - a0_5)) (IntKind.u64.wrap (a0_1)) t254 t255 _ A9.out).mono ?_
     rintro e w19 ⟨rfl, hb⟩
     refine ⟨_, rfl, ?_⟩
     replace BK252 := bb_ BK252 hb
     replace BK253 := bb_ BK253 hb
     replace HB := bs_ w hb
     clear hb
     refine hK.out _ _ (cc6_ BK252) (fun hHeld => ?_)
     clear hK K
     refine nm_ (some 24) ?_
     refine tw_ 13 17 (some 29) (some 5) (bl_ 20 16383) (bl_ 20 139263) HT_ (fun K hK => ?_) fun K hK => ?_
     ·refine goesB_ Try.func76 #[.agg #[.int .u64 t254, .int .u64 t255], .agg #[.int .u64 0, .int .u64 (IntKind.u64.wrap (a0_4))]] ?_
      with_reducible refine (spigotref01_Add.calls t254 t255 0 (IntKind.u64.wrap (a0_4)) t256 t257 t258 _ A10.out).mono ?_
      rintro e w20 ⟨rfl, hb⟩
      refine ⟨_, rfl, ?_⟩
      replace BK252 := bb_ BK252 hb
      replace BK253 := bb_ BK253 hb
      replace HB := bs_ w hb
      clear hb
      refine hK.out _ _ (cc6_ BK252) (fun hHeld => ?_)
      clear hK K
      refine nm_ (some 29) ?_
      refine pa_ 14 (some 15) (bl_ 20 32767) HT_ ?_
      refine pa_ 15 (some 30) (bl_ 20 65535) HT_ ?_
      refine pa_ 16 (some 31) (bl_ 20 131071) HT_ ?_
      refine oa_ 17 (some 5) (bl_ 20 262143) HT_ fun K hK => ?_
      refine bs2_ #[.int .u64 0, .int .u64 0] 97 ?_
      intro gb259 hg w21 BK259 hb
      have GW259 := bz_ w hg
      have GE259 := GW259
      have NB252_259 := bn_ BK252 hg
      have NB259_252 := bm_ BK252 hg
      have NB253_259 := bn_ BK253 hg
      have NB259_253 := bm_ BK253 hg
      replace BK252 := bb_ BK252 hb
      replace BK253 := bb_ BK253 hb
      replace HB := bs_ w hb
      clear hb hg
      refine hK.out _ _ (cc6_ BK252) (fun hHeld => ?_)
      clear hK K
      refine nm_ (some 5) ?_
      exact no_ (hCont (gb259) _ ⟨hHeld, (bq_ BK252), (bq_ BK253), (bq_ BK259), GW259.out, GE259.out, NB252_259.out, NB259_252.out, NB253_259.out, NB259_253.out, bh_⟩)
     ·refine bs2_ #[.int .u64 0, .int .u64 0] 97 ?_
      intro gb259 hg w20 BK259 hb
      have GW259 := bz_ w hg
      have GE259 := GW259
      have NB252_259 := bn_ BK252 hg
      have NB259_252 := bm_ BK252 hg
      have NB253_259 := bn_ BK253 hg
      have NB259_253 := bm_ BK253 hg
      replace BK252 := bb_ BK252 hb
      replace BK253 := bb_ BK253 hb
      replace HB := bs_ w hb
      clear hb hg
      refine hK.out _ _ (cc6_ BK252) (fun hHeld => ?_)
      clear hK K
      refine nm_ (some 5) ?_
      refine oa_ 13 (some 29) (bl_ 20 147455) HT_ fun K hK => ?_
      refine goesB_ Try.func76 #[.agg #[.int .u64 t254, .int .u64 t255], .agg #[.int .u64 0, .int .u64 (IntKind.u64.wrap (a0_4))]] ?_
      with_reducible refine (spigotref01_Add.calls t254 t255 0 (IntKind.u64.wrap (a0_4)) t256 t257 t258 _ A10.out).mono ?_
      rintro e w21 ⟨rfl, hb⟩
      refine ⟨_, rfl, ?_⟩
      replace BK252 := bb_ BK252 hb
      replace BK253 := bb_ BK253 hb
      replace BK259 := bb_ BK259 hb
      replace HB := bs_ w hb
      clear hb
      refine hK.out _ _ (cc6_ BK252) (fun hHeld => ?_)
      clear hK K
      refine nm_ (some 29) ?_
      refine pa_ 14 (some 15) (bl_ 20 163839) HT_ ?_
      refine pa_ 15 (some 30) (bl_ 20 196607) HT_ ?_
      refine pa_ 16 (some 31) (bl_ 20 262143) HT_ ?_
      exact no_ (hCont (gb259) _ ⟨hHeld, (bq_ BK252), (bq_ BK253), (bq_ BK259), GW259.out, GE259.out, NB252_259.out, NB259_252.out, NB253_259.out, NB259_253.out, bh_⟩)
    ·refine bs2_ #[.int .u64 0, .int .u64 0] 97 ?_
     intro gb259 hg w19 BK259 hb
     have GW259 := bz_ w hg
     have GE259 := GW259
     have NB252_259 := bn_ BK252 hg
     have NB259_252 := bm_ BK252 hg
     have NB253_259 := bn_ BK253 hg
     have NB259_253 := bm_ BK253 hg
     replace BK252 := bb_ BK252 hb
     replace BK253 := bb_ BK253 hb
     replace HB := bs_ w hb
     clear hb hg
     refine hK.out _ _ (cc6_ BK252) (fun hHeld => ?_)
     clear hK K
     refine nm_ (some 5) ?_
     refine oa_ 8 (some 24) (bl_ 20 139263) HT_ fun K hK => ?_
     refine goesB_ Try.func77 #[.int .u64 (IntKind.u64.wrap (a1 - a0_5)), .int .u64 (IntKind.u64.wrap (a0_1))] ?_
     with_reducible refine (spigotref01_Mul.calls (IntKind.u64.wrap (a1 - a0_5)) (IntKind.u64.wrap (a0_1)) t254 t255 _ A9.out).mono ?_
     rintro e w20 ⟨rfl, hb⟩
     refine ⟨_, rfl, ?_⟩
     replace BK252 := bb_ BK252 hb
     replace BK253 := bb_ BK253 hb
     replace BK259 := bb_ BK259 hb
     replace HB := bs_ w hb
     clear hb
     refine hK.out _ _ (cc6_ BK252) (fun hHeld => ?_)
     clear hK K
     refine nm_ (some 24) ?_
     refine oa_ 13 (some 29) (bl_ 20 147455) HT_ fun K hK => ?_
     refine goesB_ Try.func76 #[.agg #[.int .u64 t254, .int .u64 t255], .agg #[.int .u64 0, .int .u64 (IntKind.u64.wrap (a0_4))]] ?_
     with_reducible refine (spigotref01_Add.calls t254 t255 0 (IntKind.u64.wrap (a0_4)) t256 t257 t258 _ A10.out).mono ?_
     rintro e w21 ⟨rfl, hb⟩
     refine ⟨_, rfl, ?_⟩
     replace BK252 := bb_ BK252 hb
     replace BK253 := bb_ BK253 hb
     replace BK259 := bb_ BK259 hb
     replace HB := bs_ w hb
     clear hb
     refine hK.out _ _ (cc6_ BK252) (fun hHeld => ?_)
     clear hK K
     refine nm_ (some 29) ?_
     refine pa_ 14 (some 15) (bl_ 20 163839) HT_ ?_
     refine pa_ 15 (some 30) (bl_ 20 196607) HT_ ?_
     refine pa_ 16 (some 31) (bl_ 20 262143) HT_ ?_
     exact no_ (hCont (gb259) _ ⟨hHeld, (bq_ BK252), (bq_ BK253), (bq_ BK259), GW259.out, GE259.out, NB252_259.out, NB259_252.out, NB253_259.out, NB259_253.out, bh_⟩)
   rintro gb259 w22 ⟨hS_, h0_, h1_, h2_, h3_, h4_, h5_, h6_, h7_, h8_, h9_⟩
   have BK259 := Aside0.mk h2_
   have GW259 := Aside0.mk h3_
   have GE259 := Aside0.mk h4_
   have NB252_259 := Aside0.mk h5_
   have NB259_252 := Aside0.mk h6_
   have NB253_259 := Aside0.mk h7_
   have NB259_253 := Aside0.mk h8_
   replace BK252 := Aside0.mk h0_
   replace BK253 := Aside0.mk h1_
   replace HB := Aside0.mk h9_
   clear h0_ h1_ h2_ h3_ h4_ h5_ h6_ h7_ h8_ h9_
   have hHeld := hS_
   refine nq_ ?_
   refine oa_ 18 none (bl_ 20 524287) HT_ fun K hK => ?_
   have hs23 : w22.cell? ⟨gb259, 0, none⟩ = some (.int .u64 0) := (blk_cell BK259.out 0).trans rfl
   have hfs23 := blk_frozen BK259.out 0
   have hns23_0 := NB252_259.out
   have hns23_1 := NB253_259.out
   have hms23_0 := NB259_252.out
   have hms23_1 := NB259_253.out
   have hs24 : w22.cell? ⟨gb259, 1, none⟩ = some (.int .u64 0) := (blk_cell BK259.out 1).trans rfl
   have hfs24 := blk_frozen BK259.out 1
   have hns24_0 := NB252_259.out
   have hns24_1 := NB253_259.out
   have hms24_0 := NB259_252.out
   have hms24_1 := NB259_253.out
   refine sk_ ?_
   refine hK.out _ _ (cf6_ hHeld) (fun hHeld => ?_)
   clear hK K
   refine pa_ 19 (some 6) (bl_ 20 1048575) HT_ ?_
   refine done_ (done_of HT_.out (by kernel_rfl)) ?_
   replace hn259_252 := NB259_252.out
   replace hn252_259 := NB252_259.out
   replace hn259_253 := NB259_253.out
   replace hn253_259 := NB253_259.out
   replace hc259 := ce2_ BK259
   replace hc252 := ce6_ BK252
   try go_wp2_with (first | ((with_reducible refine gate_callee (f := 78) rfl ?_); refine goesA_ (some 38) Try.func78 #[.agg #[.int .u64 t256, .int .u64 t257], .int .u64 (IntKind.u64.wrap (a0_2))] ?_; (with_reducible refine (spigotref01_Div.calls k t256 t257 (IntKind.u64.wrap (a0_2)) t260 t261 t262 t263 _ A11.out).mono ?_); rintro e w29 ⟨rfl, hb⟩; refine ⟨_, rfl, ?_⟩; replace BK252 := bf_ BK252 hb; replace BK253 := bf_ BK253 hb; replace BK259 := Aside0.mk (blk_below (g := gb259) (o := .cells #[.int .u64 t256, .int .u64 t257] 97 (0, 0)) (bp2_ (bq_ BK259)) hb); replace HB := bs_ w hb; clear hb) | ((with_reducible refine gate_dst (N := 7) rfl ?_); refine bx_ #[.int .u64 0, .int .u64 0] 97 ?_; intro gb264 hg w30 BK264 hb; have GW264 := bz_ w hg; have GE264 := GW264; have NB252_264 := bn_ BK252 hg; have NB264_252 := bm_ BK252 hg; have NB253_264 := bn_ BK253 hg; have NB264_253 := bm_ BK253 hg; have NB259_264 := bn_ BK259 hg; have NB264_259 := bm_ BK259 hg; replace BK252 := bb_ BK252 hb; replace BK253 := bb_ BK253 hb; replace BK259 := bb_ BK259 hb; replace HB := bs_ w hb; clear hb hg; replace hn264_252 := NB264_252.out; replace hn252_264 := NB252_264.out; replace hn264_253 := NB264_253.out; replace hn253_264 := NB253_264.out; replace hn264_259 := NB264_259.out; replace hn259_264 := NB259_264.out; replace hc264 := ce2_ BK264; replace hc252 := ce6_ BK252) | ((with_reducible refine gate_callee (f := 79) rfl ?_); refine goesA_ (some 53) Try.func79 #[.agg #[.int .u64 t260, .int .u64 t261], .agg #[.int .u64 0, .int .u64 (IntKind.u64.wrap (wrap64 (a0_0 - a0_3)))]] ?_; (with_reducible refine (spigotref01_Cmp.calls k t260 t261 0 (IntKind.u64.wrap (wrap64 (a0_0 - a0_3))) t265 _ A12.out).mono ?_); rintro e w36 ⟨rfl, hb⟩; refine ⟨_, rfl, ?_⟩; replace BK252 := Aside0.mk (blk_below (g := gb252) (o := .cells #[.int .i64 a0_0, .int .i64 a0_1, .int .i64 a0_2, .int .i64 a0_3, .int .i64 a0_4, .int .u64 a1] 63 (0, 0)) (blk_put (cs := #[.int .i64 a0_0, .int .i64 a0_1, .int .i64 a0_2, .int .i64 a0_3, .int .i64 a0_4, .int .u64 a0_5]) (bt_ BK252) 5 _ rfl) hb); replace BK253 := bf_ BK253 hb; replace BK259 := bf_ BK259 hb; replace BK264 := Aside0.mk (blk_below (g := gb264) (o := .cells #[.int .u64 t260, .int .u64 t261] 97 (0, 0)) (blk_far (bp2_ (bq_ BK264)) NB264_252.out _) hb); replace HB := bs_ w hb; clear hb; replace hc252 := ce6_ BK252; replace hc253 := ce6_ BK253))
   refine bodyPost_ret (results_cell_row rfl _ _ gb253 63 #[.int .i64 a0_0, .int .i64 a0_1, .int .i64 a0_2, .int .i64 a0_0, .int .i64 0, .int .u64 a1] (0, 0) _ rfl (bp6_ (bt_ BK253)) Try.underlying63 rfl (by kernel_rfl)) rfl ?_
   exact fi_
  ·rw [if_neg c13] at H
   have c13b0 : decide (0 ≤ t265) = false := decide_eq_false c13
   clear c13
   simp only [Option.some.injEq, Prod.mk.injEq] at H
   obtain ⟨rfl, rfl, rfl, rfl, rfl, rfl⟩ := H
   go_enter Try.func61, Try.ntmps61
   try go_wp2_with (first | ((with_reducible refine gate_dst (N := 2) rfl ?_); refine bx_ #[.int .i64 a0_0, .int .i64 a0_1, .int .i64 a0_2, .int .i64 a0_3, .int .i64 a0_4, .int .u64 a0_5] 63 ?_; intro gb252 hg w39 BK252 hb; have GW252 := bz_ w hg; have GE252 := GW252; replace HB := bs_ w hb; clear hb hg) | ((with_reducible refine gate_dst (N := 4) rfl ?_); refine bx_ #[.int .i64 0, .int .i64 0, .int .i64 0, .int .i64 0, .int .i64 0, .int .u64 0] 63 ?_; intro gb253 hg w40 BK253 hb; have GW253 := bz_ w hg; have GE253 := GW253; have NB252_253 := bn_ BK252 hg; have NB253_252 := bm_ BK252 hg; replace BK252 := bb_ BK252 hb; replace HB := bs_ w hb; clear hb hg; replace hn252_253 := NB252_253.out; replace hn253_252 := NB253_252.out; replace hc252 := ce6_ BK252))
   replace BK252 := Aside0.mk (blk_drew BK252.out)
   replace BK253 := Aside0.mk (blk_drew BK253.out)
   replace HB := Aside0.mk (below_drew1 HB.out)
   refine start_ (n := 20) (S := fun w' => w'.cell? ⟨gb252, 0, none⟩ = some (.int .i64 a0_0) ∧ w'.cell? ⟨gb252, 1, none⟩ = some (.int .i64 a0_1) ∧ w'.cell? ⟨gb252, 2, none⟩ = some (.int .i64 a0_2) ∧ w'.cell? ⟨gb252, 3, none⟩ = some (.int .i64 a0_3) ∧ w'.cell? ⟨gb252, 4, none⟩ = some (.int .i64 a0_4) ∧ w'.cell? ⟨gb252, 5, none⟩ = some (.int .u64 a0_5)) (ds := []) (bl_ 20 0) (by kernel_rfl) rfl (by kernel_rfl) (cc6_ BK252) (fun hHeld => ?_); refine with_tabW spigotref03_Filled.tab3 spigotref03_Filled.bits3 (fun HT_ HW_ => ?_)
   generalize w40.drew = w43 at BK252 BK253 HB hHeld ⊢
   refine pa_ 0 (some 16) (bl_ 20 1) HT_ ?_
   refine pa_ 1 (some 17) (bl_ 20 3) HT_ ?_
   refine pa_ 4 (some 20) (bl_ 20 19) HT_ ?_
   refine pa_ 5 (some 21) (bl_ 20 51) HT_ ?_
   refine pa_ 9 (some 25) (bl_ 20 563) HT_ ?_
   refine ta_ 2 (some 18) (bl_ 20 567) HT_ HW_ hHeld ?_
   refine pa_ 3 (some 19) (bl_ 20 575) HT_ ?_
   refine ta_ 6 (some 22) (bl_ 20 639) HT_ HW_ hHeld ?_
   refine pa_ 7 (some 23) (bl_ 20 767) HT_ ?_
   refine ta_ 10 (some 26) (bl_ 20 1791) HT_ HW_ hHeld ?_
   refine pa_ 11 (some 27) (bl_ 20 3839) HT_ ?_
   refine pa_ 12 (some 28) (bl_ 20 7935) HT_ ?_
   refine join_ (σ := Nat) 2 (bl_ 20 262143) (fun s_ => [(24, .agg #[.int .u64 t254, .int .u64 t255]), (29, .tuple #[.agg #[.int .u64 t256, .int .u64 t257], .int .i64 t258]), (5, .pointer (some ⟨s_, 0, none⟩)), (15, .tuple #[.agg #[.int .u64 t256, .int .u64 t257], .int .i64 t258]), (30, .agg #[.int .u64 t256, .int .u64 t257]), (31, .int .i64 t258)]) (fun s_ w' => (w'.cell? ⟨gb252, 0, none⟩ = some (.int .i64 a0_0) ∧ w'.cell? ⟨gb252, 1, none⟩ = some (.int .i64 a0_1) ∧ w'.cell? ⟨gb252, 2, none⟩ = some (.int .i64 a0_2) ∧ w'.cell? ⟨gb252, 3, none⟩ = some (.int .i64 a0_3) ∧ w'.cell? ⟨gb252, 4, none⟩ = some (.int .i64 a0_4) ∧ w'.cell? ⟨gb252, 5, none⟩ = some (.int .u64 a0_5)) ∧ (w'.heap[gb252]? = some (.cells #[.int .i64 a0_0, .int .i64 a0_1, .int .i64 a0_2, .int .i64 a0_3, .int .i64 a0_4, .int .u64 a0_5] 63 (0, 0))) ∧ (w'.heap[gb253]? = some (.cells #[.int .i64 0, .int .i64 0, .int .i64 0, .int .i64 0, .int .i64 0, .int .u64 0] 63 (0, 0))) ∧ (w'.heap[s_]? = some (.cells #[.int .u64 0, .int .u64 0] 97 (0, 0))) ∧ (w.heap.size ≤ s_) ∧ (w.heap.size ≤ s_) ∧ (gb252 ≠ s_) ∧ (s_ ≠ gb252) ∧ (gb253 ≠ s_) ∧ (s_ ≠ gb253) ∧ (Below w.heap.size w w')) ?_ ?_
   rotate_left
   ·intro hCont
    refine tw_ 8 17 (some 24) (some 5) (bl_ 20 8191) (bl_ 20 139007) HT_ (fun K hK => ?_) fun K hK => ?_
    ·refine goesB_ Try.func77 #[.int .u64 (IntKind.u64.wrap (a1 - a0_5)), .int .u64 (IntKind.u64.wrap (a0_1))] ?_
     with_reducible refine (spigotref01_Mul.calls (IntKind.u64.wrap (a1 - a0_5)) (IntKind.u64.wrap (a0_1)) t254 t255 _ A9.out).mono ?_
     rintro e w44 ⟨rfl, hb⟩
     refine ⟨_, rfl, ?_⟩
     replace BK252 := bb_ BK252 hb
     replace BK253 := bb_ BK253 hb
     replace HB := bs_ w hb
     clear hb
     refine hK.out _ _ (cc6_ BK252) (fun hHeld => ?_)
     clear hK K
     refine nm_ (some 24) ?_
     refine tw_ 13 17 (some 29) (some 5) (bl_ 20 16383) (bl_ 20 139263) HT_ (fun K hK => ?_) fun K hK => ?_
     ·refine goesB_ Try.func76 #[.agg #[.int .u64 t254, .int .u64 t255], .agg #[.int .u64 0, .int .u64 (IntKind.u64.wrap (a0_4))]] ?_
      with_reducible refine (spigotref01_Add.calls t254 t255 0 (IntKind.u64.wrap (a0_4)) t256 t257 t258 _ A10.out).mono ?_
      rintro e w45 ⟨rfl, hb⟩
      refine ⟨_, rfl, ?_⟩
      replace BK252 := bb_ BK252 hb
      replace BK253 := bb_ BK253 hb
      replace HB := bs_ w hb
      clear hb
      refine hK.out _ _ (cc6_ BK252) (fun hHeld => ?_)
      clear hK K
      refine nm_ (some 29) ?_
      refine pa_ 14 (some 15) (bl_ 20 32767) HT_ ?_
      refine pa_ 15 (some 30) (bl_ 20 65535) HT_ ?_
      refine pa_ 16 (some 31) (bl_ 20 131071) HT_ ?_
      refine oa_ 17 (some 5) (bl_ 20 262143) HT_ fun K hK => ?_
      refine bs2_ #[.int .u64 0, .int .u64 0] 97 ?_
      intro gb259 hg w46 BK259 hb
      have GW259 := bz_ w hg
      have GE259 := GW259
      have NB252_259 := bn_ BK252 hg
      have NB259_252 := bm_ BK252 hg
      have NB253_259 := bn_ BK253 hg
      have NB259_253 := bm_ BK253 hg
      replace BK252 := bb_ BK252 hb
      replace BK253 := bb_ BK253 hb
      replace HB := bs_ w hb
      clear hb hg
      refine hK.out _ _ (cc6_ BK252) (fun hHeld => ?_)
      clear hK K
      refine nm_ (some 5) ?_
      exact no_ (hCont (gb259) _ ⟨hHeld, (bq_ BK252), (bq_ BK253), (bq_ BK259), GW259.out, GE259.out, NB252_259.out, NB259_252.out, NB253_259.out, NB259_253.out, bh_⟩)
     ·refine bs2_ #[.int .u64 0, .int .u64 0] 97 ?_
      intro gb259 hg w45 BK259 hb
      have GW259 := bz_ w hg
      have GE259 := GW259
      have NB252_259 := bn_ BK252 hg
      have NB259_252 := bm_ BK252 hg
      have NB253_259 := bn_ BK253 hg
      have NB259_253 := bm_ BK253 hg
      replace BK252 := bb_ BK252 hb
      replace BK253 := bb_ BK253 hb
      replace HB := bs_ w hb
      clear hb hg
      refine hK.out _ _ (cc6_ BK252) (fun hHeld => ?_)
      clear hK K
      refine nm_ (some 5) ?_
      refine oa_ 13 (some 29) (bl_ 20 147455) HT_ fun K hK => ?_
      refine goesB_ Try.func76 #[.agg #[.int .u64 t254, .int .u64 t255], .agg #[.int .u64 0, .int .u64 (IntKind.u64.wrap (a0_4))]] ?_
      with_reducible refine (spigotref01_Add.calls t254 t255 0 (IntKind.u64.wrap (a0_4)) t256 t257 t258 _ A10.out).mono ?_
      rintro e w46 ⟨rfl, hb⟩
      refine ⟨_, rfl, ?_⟩
      replace BK252 := bb_ BK252 hb
      replace BK253 := bb_ BK253 hb
      replace BK259 := bb_ BK259 hb
      replace HB := bs_ w hb
      clear hb
      refine hK.out _ _ (cc6_ BK252) (fun hHeld => ?_)
      clear hK K
      refine nm_ (some 29) ?_
      refine pa_ 14 (some 15) (bl_ 20 163839) HT_ ?_
      refine pa_ 15 (some 30) (bl_ 20 196607) HT_ ?_
      refine pa_ 16 (some 31) (bl_ 20 262143) HT_ ?_
      exact no_ (hCont (gb259) _ ⟨hHeld, (bq_ BK252), (bq_ BK253), (bq_ BK259), GW259.out, GE259.out, NB252_259.out, NB259_252.out, NB253_259.out, NB259_253.out, bh_⟩)
    ·refine bs2_ #[.int .u64 0, .int .u64 0] 97 ?_
     intro gb259 hg w44 BK259 hb
     have GW259 := bz_ w hg
     have GE259 := GW259
     have NB252_259 := bn_ BK252 hg
     have NB259_252 := bm_ BK252 hg
     have NB253_259 := bn_ BK253 hg
     have NB259_253 := bm_ BK253 hg
     replace BK252 := bb_ BK252 hb
     replace BK253 := bb_ BK253 hb
     replace HB := bs_ w hb
     clear hb hg
     refine hK.out _ _ (cc6_ BK252) (fun hHeld => ?_)
     clear hK K
     refine nm_ (some 5) ?_
     refine oa_ 8 (some 24) (bl_ 20 139263) HT_ fun K hK => ?_
     refine goesB_ Try.func77 #[.int .u64 (IntKind.u64.wrap (a1 - a0_5)), .int .u64 (IntKind.u64.wrap (a0_1))] ?_
     with_reducible refine (spigotref01_Mul.calls (IntKind.u64.wrap (a1 - a0_5)) (IntKind.u64.wrap (a0_1)) t254 t255 _ A9.out).mono ?_
     rintro e w45 ⟨rfl, hb⟩
     refine ⟨_, rfl, ?_⟩
     replace BK252 := bb_ BK252 hb
     replace BK253 := bb_ BK253 hb
     replace BK259 := bb_ BK259 hb
     replace HB := bs_ w hb
     clear hb
     refine hK.out _ _ (cc6_ BK252) (fun hHeld => ?_)
     clear hK K
     refine nm_ (some 24) ?_
     refine oa_ 13 (some 29) (bl_ 20 147455) HT_ fun K hK => ?_
     refine goesB_ Try.func76 #[.agg #[.int .u64 t254, .int .u64 t255], .agg #[.int .u64 0, .int .u64 (IntKind.u64.wrap (a0_4))]] ?_
     with_reducible refine (spigotref01_Add.calls t254 t255 0 (IntKind.u64.wrap (a0_4)) t256 t257 t258 _ A10.out).mono ?_
     rintro e w46 ⟨rfl, hb⟩
     refine ⟨_, rfl, ?_⟩
     replace BK252 := bb_ BK252 hb
     replace BK253 := bb_ BK253 hb
     replace BK259 := bb_ BK259 hb
     replace HB := bs_ w hb
     clear hb
     refine hK.out _ _ (cc6_ BK252) (fun hHeld => ?_)
     clear hK K
     refine nm_ (some 29) ?_
     refine pa_ 14 (some 15) (bl_ 20 163839) HT_ ?_
     refine pa_ 15 (some 30) (bl_ 20 196607) HT_ ?_
     refine pa_ 16 (some 31) (bl_ 20 262143) HT_ ?_
     exact no_ (hCont (gb259) _ ⟨hHeld, (bq_ BK252), (bq_ BK253), (bq_ BK259), GW259.out, GE259.out, NB252_259.out, NB259_252.out, NB253_259.out, NB259_253.out, bh_⟩)
   rintro gb259 w47 ⟨hS_, h0_, h1_, h2_, h3_, h4_, h5_, h6_, h7_, h8_, h9_⟩
   have BK259 := Aside0.mk h2_
   have GW259 := Aside0.mk h3_
   have GE259 := Aside0.mk h4_
   have NB252_259 := Aside0.mk h5_
   have NB259_252 := Aside0.mk h6_
   have NB253_259 := Aside0.mk h7_
   have NB259_253 := Aside0.mk h8_
   replace BK252 := Aside0.mk h0_
   replace BK253 := Aside0.mk h1_
   replace HB := Aside0.mk h9_
   clear h0_ h1_ h2_ h3_ h4_ h5_ h6_ h7_ h8_ h9_
   have hHeld := hS_
   refine nq_ ?_
   refine oa_ 18 none (bl_ 20 524287) HT_ fun K hK => ?_
   have hs48 : w47.cell? ⟨gb259, 0, none⟩ = some (.int .u64 0) := (blk_cell BK259.out 0).trans rfl
   have hfs48 := blk_frozen BK259.out 0
   have hns48_0 := NB252_259.out
   have hns48_1 := NB253_259.out
   have hms48_0 := NB259_252.out
   have hms48_1 := NB259_253.out
   have hs49 : w47.cell? ⟨gb259, 1, none⟩ = some (.int .u64 0) := (blk_cell BK259.out 1).trans rfl
   have hfs49 := blk_frozen BK259.out 1
   have hns49_0 := NB252_259.out
   have hns49_1 := NB253_259.out
   have hms49_0 := NB259_252.out
   have hms49_1 := NB259_253.out
   refine sk_ ?_
   refine hK.out _ _ (cf6_ hHeld) (fun hHeld => ?_)
   clear hK K
   refine pa_ 19 (some 6) (bl_ 20 1048575) HT_ ?_
   refine done_ (done_of HT_.out (by kernel_rfl)) ?_
   replace hn259_252 := NB259_252.out
   replace hn252_259 := NB252_259.out
   replace hn259_253 := NB259_253.out
   replace hn253_259 := NB253_259.out
   replace hc259 := ce2_ BK259
   replace hc252 := ce6_ BK252
   try go_wp2_with (first | ((with_reducible refine gate_callee (f := 78) rfl ?_); refine goesA_ (some 38) Try.func78 #[.agg #[.int .u64 t256, .int .u64 t257], .int .u64 (IntKind.u64.wrap (a0_2))] ?_; (with_reducible refine (spigotref01_Div.calls k t256 t257 (IntKind.u64.wrap (a0_2)) t260 t261 t262 t263 _ A11.out).mono ?_); rintro e w54 ⟨rfl, hb⟩; refine ⟨_, rfl, ?_⟩; replace BK252 := bf_ BK252 hb; replace BK253 := bf_ BK253 hb; replace BK259 := Aside0.mk (blk_below (g := gb259) (o := .cells #[.int .u64 t256, .int .u64 t257] 97 (0, 0)) (bp2_ (bq_ BK259)) hb); replace HB := bs_ w hb; clear hb) | ((with_reducible refine gate_dst (N := 7) rfl ?_); refine bx_ #[.int .u64 0, .int .u64 0] 97 ?_; intro gb264 hg w55 BK264 hb; have GW264 := bz_ w hg; have GE264 := GW264; have NB252_264 := bn_ BK252 hg; have NB264_252 := bm_ BK252 hg; have NB253_264 := bn_ BK253 hg; have NB264_253 := bm_ BK253 hg; have NB259_264 := bn_ BK259 hg; have NB264_259 := bm_ BK259 hg; replace BK252 := bb_ BK252 hb; replace BK253 := bb_ BK253 hb; replace BK259 := bb_ BK259 hb; replace HB := bs_ w hb; clear hb hg; replace hn264_252 := NB264_252.out; replace hn252_264 := NB252_264.out; replace hn264_253 := NB264_253.out; replace hn253_264 := NB253_264.out; replace hn264_259 := NB264_259.out; replace hn259_264 := NB259_264.out; replace hc264 := ce2_ BK264; replace hc252 := ce6_ BK252) | ((with_reducible refine gate_callee (f := 79) rfl ?_); refine goesA_ (some 53) Try.func79 #[.agg #[.int .u64 t260, .int .u64 t261], .agg #[.int .u64 0, .int .u64 (IntKind.u64.wrap (wrap64 (a0_0 - a0_3)))]] ?_; (with_reducible refine (spigotref01_Cmp.calls k t260 t261 0 (IntKind.u64.wrap (wrap64 (a0_0 - a0_3))) t265 _ A12.out).mono ?_); rintro e w61 ⟨rfl, hb⟩; refine ⟨_, rfl, ?_⟩; replace BK252 := Aside0.mk (blk_below (g := gb252) (o := .cells #[.int .i64 a0_0, .int .i64 a0_1, .int .i64 a0_2, .int .i64 a0_3, .int .i64 a0_4, .int .u64 a1] 63 (0, 0)) (blk_put (cs := #[.int .i64 a0_0, .int .i64 a0_1, .int .i64 a0_2, .int .i64 a0_3, .int .i64 a0_4, .int .u64 a0_5]) (bt_ BK252) 5 _ rfl) hb); replace BK253 := bf_ BK253 hb; replace BK259 := bf_ BK259 hb; replace BK264 := Aside0.mk (blk_below (g := gb264) (o := .cells #[.int .u64 t260, .int .u64 t261] 97 (0, 0)) (blk_far (bp2_ (bq_ BK264)) NB264_252.out _) hb); replace HB := bs_ w hb; clear hb; replace hc252 := ce6_ BK252; replace hc264 := ce2_ BK264; replace hc253 := ce6_ BK253))
   refine bodyPost_ret (results_cell_row rfl _ _ gb253 63 #[.int .i64 a0_0, .int .i64 a0_1, .int .i64 a0_2, .int .i64 (wrap64 (a0_3 + (wrap64 (t261)))), .int .i64 (wrap64 (t262)), .int .u64 a1] (0, 0) _ rfl (bp6_ (bt_ BK253)) Try.underlying63 rfl (by kernel_rfl)) rfl ?_
   exact fi_

end Go.Proofs.Ytfdpcnkghmmobaa.X
