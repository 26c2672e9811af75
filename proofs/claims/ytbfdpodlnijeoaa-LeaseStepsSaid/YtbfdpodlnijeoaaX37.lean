-- written by xprint.py, a program of this session over the kit's print
import Derived.Test.YtbfdpodlnijeoaaX0
import Derived.Test.YtbfdpodlnijeoaaX24
import Derived.Test.YtbfdpodlnijeoaaX26
import Derived.Test.YtbfdpodlnijeoaaX34
namespace Go.Proofs.Ytbfdpodlnijeoaa.X
open Go.RowKit Go.Proofs.YtbfdpodlnijeoaaW.PrintWords Go.Proofs.YtbfdpodlnijeoaaW.PrintLast Go.Proofs.YtbfdpodlnijeoaaW.PrintMore
attribute [local go_sem] max2_int min2_int max_two min_two max_three min_three max_four min_four   -- for this text's walks alone
set_option linter.unusedVariables false
set_option linter.unusedSimpArgs false

/-! ### spigotref42_Bound: function 26 -/
def spigotref42_Bound.f (k : Nat) (a0_0 : Int) (a0_1 : Int) (a0_2 : Int) (a0_3 : Int) (a0_4 : Int) (a0_5 : Int) (a0_6 : Int) (l0_7 : List Int) (a1 : Int) : Option (Int × Int) := (spigotref42_Out.f k a0_0 a0_1 a0_2 a0_3 a0_4 a0_5 a0_6 l0_7).bind fun bt634 => (if bt634.2 = 0 then ((spigotref01_Mul.f a1 (IntKind.u64.wrap (a0_1))).bind fun bt636 => ((spigotref01_Add.f bt636.1 bt636.2 0 (IntKind.u64.wrap (a0_4))).bind fun bt638 => ((spigotref01_Div.f k bt638.1 bt638.2.1 (IntKind.u64.wrap (a0_2))).bind fun bt642 => (if bt642.1 > 0 then (some (1000000000000000, 0)) else (if bt642.2.1 > 1000000000000000 then (some (1000000000000000, 0)) else (some (mn 1000000000000000 (wrap64 ((wrap64 (bt634.1 + a0_3)) + (wrap64 (bt642.2.1)))), 0))))))) else (some (0, bt634.2)))
theorem spigotref42_Bound.mono : ∀ a0 a1 a2 a3 a4 a5 a6 a7 a8 k, LeO (spigotref42_Bound.f k a0 a1 a2 a3 a4 a5 a6 a7 a8) (spigotref42_Bound.f (k + 1) a0 a1 a2 a3 a4 a5 a6 a7 a8) := by
  intro a0 a1 a2 a3 a4 a5 a6 a7 a8 k
  unfold spigotref42_Bound.f
  repeat' first
      | (with_reducible exact spigotref01_Div.mono _ _ _ _)
      | (with_reducible exact spigotref42_Out.mono _ _ _ _ _ _ _ _ _)
      | (with_reducible exact LeO.refl _)
      | (with_reducible exact LeO.none _)
      | (with_reducible refine LeO.ite ?_ ?_)
      | (with_reducible refine LeO.bind ?_ (fun _ => ?_))
      | exact spigotref01_Div.mono _ _ _ _
      | exact spigotref42_Out.mono _ _ _ _ _ _ _ _ _
      | exact LeO.none _
      | refine LeO.ite ?_ ?_
      | refine LeO.bind ?_ (fun _ => ?_)
def spigotref42_Bound.T4 : Bool × List (List Nat × List Nat) := (true, [([], []), ([], []), ([1], [1]), ([2], [2]), ([3], [3]), ([4], [4]), ([0, 5], [0, 5]), ([], []), ([7], [7]), ([8], [8]), ([9], [9]), ([10], [10]), ([6, 11, 6], [6, 11]), ([12], [12]), ([13], [13]), ([13], [13]), ([], []), ([16, 14, 12, 0, 1, 2, 3, 4, 5, 6, 7, 8, 9, 10, 11, 12, 13, 14, 16], [14, 16]), ([15, 17, 0, 1, 2, 3, 4, 5, 6, 7, 8, 9, 10, 11, 12, 13, 14, 15, 16, 17], [15])])
def spigotref42_Bound.B4 : List Nat := [0, 0, 2, 6, 14, 30, 63, 0, 128, 384, 896, 1920, 4095, 8191, 16383, 16383, 0, 98303, 262143]
theorem spigotref42_Bound.tab4 : rtab .any (opsOf Try.f26 4) = spigotref42_Bound.T4 := by kernel_rfl
theorem spigotref42_Bound.bits4 : waitsOk spigotref42_Bound.T4.2 spigotref42_Bound.B4 = true := by kernel_rfl
set_option maxHeartbeats 8000000 in
set_option maxRecDepth 100000 in
theorem spigotref42_Bound.calls (k : Nat) (a0_0 : Int) (a0_1 : Int) (a0_2 : Int) (a0_3 : Int) (a0_4 : Int) (a0_5 : Int) (a0_6 : Int) (A0_7 : Option Addr) (c0_7 : Nat) (l0_7 : List Int) (a1 : Int) (r1 : Int) (r2 : Int) (w : World) (hr0_7 : Kd.C (Kd.int .i64) w A0_7 l0_7.length l0_7) (hc0_7 : l0_7.length ≤ c0_7) (h : spigotref42_Bound.f k a0_0 a0_1 a0_2 a0_3 a0_4 a0_5 a0_6 l0_7 a1 = some (r1, r2)) :
  Calls Try.prog 26 #[.agg #[.int .i64 a0_0, .int .i64 a0_1, .int .i64 a0_2, .int .i64 a0_3, .int .i64 a0_4, .int .u64 a0_5, .int .i64 a0_6, .slice A0_7 l0_7.length c0_7], .int .u64 a1] w fun e w' => e = .returned (.tuple #[.int .i64 r1, .int .i64 r2]) ∧ Below w.heap.size w w' := by
 have hu29 := Try.underlying29
 have hu82 := Try.underlying82
 have HR0_7 := Aside0.mk hr0_7
 have HC0_7 := Aside0.mk hc0_7
 clear hr0_7 hc0_7
 have HB := Aside0.mk (Below.refl w.heap.size w)
 have H : ((spigotref42_Out.f k a0_0 a0_1 a0_2 a0_3 a0_4 a0_5 a0_6 l0_7).bind fun bt634 => (if bt634.2 = 0 then ((spigotref01_Mul.f a1 (IntKind.u64.wrap (a0_1))).bind fun bt636 => ((spigotref01_Add.f bt636.1 bt636.2 0 (IntKind.u64.wrap (a0_4))).bind fun bt638 => ((spigotref01_Div.f k bt638.1 bt638.2.1 (IntKind.u64.wrap (a0_2))).bind fun bt642 => (if bt642.1 > 0 then (some (1000000000000000, 0)) else (if bt642.2.1 > 1000000000000000 then (some (1000000000000000, 0)) else (some (mn 1000000000000000 (wrap64 ((wrap64 (bt634.1 + a0_3)) + (wrap64 (bt642.2.1)))), 0))))))) else (some (0, bt634.2)))) = some (r1, r2) := h
 clear h
 obtain ⟨⟨t634, t635⟩, A3, H⟩ := bo_ H
 try dsimp only at H
 by_cases c4 : t635 = 0
 ·rw [if_pos c4] at H
  have c4b0 : (t635 == 0) = true := beq_iff_eq.mpr c4
  have c4b1 : (t635 != 0) = false := bne_eq_false_iff_eq.mpr c4
  clear c4
  obtain ⟨⟨t636, t637⟩, A5, H⟩ := bo_ H
  try dsimp only at H
  obtain ⟨⟨t638, t639, t640⟩, A6, H⟩ := bo_ H
  try dsimp only at H
  obtain ⟨⟨t642, t643, t644, t645⟩, A7, H⟩ := bo_ H
  try dsimp only at H
  by_cases c8 : t642 > 0
  ·rw [if_pos c8] at H
   have c8b0 : decide (0 < t642) = true := decide_eq_true c8
   clear c8
   simp only [Option.some.injEq, Prod.mk.injEq] at H
   obtain ⟨rfl, rfl⟩ := H
   go_enter Try.func26, Try.ntmps26
   try go_wp2_with (first | ((with_reducible refine gate_dst (N := 2) rfl ?_); (try refine ug_ (by rfl) ?_); refine bx_ #[.int .i64 a0_0, .int .i64 a0_1, .int .i64 a0_2, .int .i64 a0_3, .int .i64 a0_4, .int .u64 a0_5, .int .i64 a0_6, .slice A0_7 l0_7.length c0_7] 29 ?_; intro gb633 hg w9 BK633 hb; have GW633 := bz_ w hg; have GE633 := GW633; replace HB := bs_ w hb; clear hb hg; replace hc633 := ce8_ BK633) | ((with_reducible refine gate_callee (f := 24) rfl ?_); (try refine ug_ (by rfl) ?_); refine goesA_ (some 15) Try.func24 #[.agg #[.int .i64 a0_0, .int .i64 a0_1, .int .i64 a0_2, .int .i64 a0_3, .int .i64 a0_4, .int .u64 a0_5, .int .i64 a0_6, .slice A0_7 l0_7.length c0_7]] ?_; (with_reducible refine (spigotref42_Out.calls k a0_0 a0_1 a0_2 a0_3 a0_4 a0_5 a0_6 _ _ l0_7 t634 t635 _ ?side1 ?side2 A3.out).mono ?_); (case side1 => exact cs_ HR0_7 HB); (case side2 => exact HC0_7.out); rintro e w11 ⟨rfl, hb⟩; refine ⟨_, rfl, ?_⟩; replace BK633 := bb_ BK633 hb; replace HB := bs_ w hb; clear hb))
   replace BK633 := Aside0.mk (blk_drew BK633.out)
   replace HB := Aside0.mk (below_drew1 HB.out)
   refine start_ (n := 19) (S := fun w' => w'.cell? ⟨gb633, 0, none⟩ = some (.int .i64 a0_0) ∧ w'.cell? ⟨gb633, 1, none⟩ = some (.int .i64 a0_1) ∧ w'.cell? ⟨gb633, 2, none⟩ = some (.int .i64 a0_2) ∧ w'.cell? ⟨gb633, 3, none⟩ = some (.int .i64 a0_3) ∧ w'.cell? ⟨gb633, 4, none⟩ = some (.int .i64 a0_4) ∧ w'.cell? ⟨gb633, 5, none⟩ = some (.int .u64 a0_5) ∧ w'.cell? ⟨gb633, 6, none⟩ = some (.int .i64 a0_6) ∧ w'.cell? ⟨gb633, 7, none⟩ = some (.slice A0_7 l0_7.length c0_7)) (ds := []) (bl_ 19 0) (by kernel_rfl) rfl (by kernel_rfl) ⟨(blk_cell BK633.out 0).trans rfl, (blk_cell BK633.out 1).trans rfl, (blk_cell BK633.out 2).trans rfl, (blk_cell BK633.out 3).trans rfl, (blk_cell BK633.out 4).trans rfl, (blk_cell BK633.out 5).trans rfl, (blk_cell BK633.out 6).trans rfl, (blk_cell BK633.out 7).trans rfl⟩ (fun hHeld => ?_); refine with_tabW spigotref42_Bound.tab4 spigotref42_Bound.bits4 (fun HT_ HW_ => ?_)
   generalize w11.drew = w12 at BK633 HB hHeld ⊢
   refine pa_ 0 (some 22) (bl_ 19 1) HT_ ?_
   refine pa_ 1 (some 23) (bl_ 19 3) HT_ ?_
   refine pa_ 2 (some 24) (bl_ 19 7) HT_ ?_
   refine pa_ 3 (some 25) (bl_ 19 15) HT_ ?_
   refine pa_ 7 (some 29) (bl_ 19 143) HT_ ?_
   refine pa_ 8 (some 30) (bl_ 19 399) HT_ ?_
   refine ta_ 4 (some 26) (bl_ 19 415) HT_ HW_ hHeld ?_
   refine pa_ 5 (some 27) (bl_ 19 447) HT_ ?_
   refine ta_ 9 (some 31) (bl_ 19 959) HT_ HW_ hHeld ?_
   refine pa_ 10 (some 32) (bl_ 19 1983) HT_ ?_
   refine pa_ 11 (some 33) (bl_ 19 4031) HT_ ?_
   refine join_ (σ := Nat) 2 (bl_ 19 131071) (fun s_ => [(28, .agg #[.int .u64 t636, .int .u64 t637]), (34, .tuple #[.agg #[.int .u64 t638, .int .u64 t639], .int .i64 t640]), (8, .pointer (some ⟨s_, 0, none⟩)), (21, .tuple #[.agg #[.int .u64 t638, .int .u64 t639], .int .i64 t640]), (35, .agg #[.int .u64 t638, .int .u64 t639]), (36, .int .i64 t640)]) (fun s_ w' => (w'.cell? ⟨gb633, 0, none⟩ = some (.int .i64 a0_0) ∧ w'.cell? ⟨gb633, 1, none⟩ = some (.int .i64 a0_1) ∧ w'.cell? ⟨gb633, 2, none⟩ = some (.int .i64 a0_2) ∧ w'.cell? ⟨gb633, 3, none⟩ = some (.int .i64 a0_3) ∧ w'.cell? ⟨gb633, 4, none⟩ = some (.int .i64 a0_4) ∧ w'.cell? ⟨gb633, 5, none⟩ = some (.int .u64 a0_5) ∧ w'.cell? ⟨gb633, 6, none⟩ = some (.int .i64 a0_6) ∧ w'.cell? ⟨gb633, 7, none⟩ = some (.slice A0_7 l0_7.length c0_7)) ∧ (w'.heap[gb633]? = some (.cells #[.int .i64 a0_0, .int .i64 a0_1, .int .i64 a0_2, .int .i64 a0_3, .int .i64 a0_4, .int .u64 a0_5, .int .i64 a0_6, .slice A0_7 l0_7.length c0_7] 29 (0, 0))) ∧ (w'.heap[s_]? = some (.cells #[.int .u64 0, .int .u64 0] 82 (0, 0))) ∧ (w.heap.size ≤ s_) ∧ (w.heap.size ≤ s_) ∧ (gb633 ≠ s_) ∧ (s_ ≠ gb633) ∧ (Below w.heap.size w w')) ?_ ?_
   rotate_left
   ·intro hCont
    refine tw_ 6 16 (some 28) (some 8) (bl_ 19 4095) (bl_ 19 69567) HT_ (fun K hK => ?_) fun K hK => ?_
    ·refine goesB_ Try.func40 #[.int .u64 a1, .int .u64 (IntKind.u64.wrap (a0_1))] ?_
     with_reducible refine (spigotref01_Mul.calls a1 (IntKind.u64.wrap (a0_1)) t636 t637 _ A5.out).mono ?_
     rintro e w13 ⟨rfl, hb⟩
     refine ⟨_, rfl, ?_⟩
     replace BK633 := bb_ BK633 hb
     replace HB := bs_ w hb
     clear hb
     refine hK.out _ _ ⟨(blk_cell BK633.out 0).trans rfl, (blk_cell BK633.out 1).trans rfl, (blk_cell BK633.out 2).trans rfl, (blk_cell BK633.out 3).trans rfl, (blk_cell BK633.out 4).trans rfl, (blk_cell BK633.out 5).trans rfl, (blk_cell BK633.out 6).trans rfl, (blk_cell BK633.out 7).trans rfl⟩ (fun hHeld => ?_)
     clear hK K
     refine nm_ (some 28) ?_
     refine tw_ 12 16 (some 34) (some 8) (bl_ 19 8191) (bl_ 19 69631) HT_ (fun K hK => ?_) fun K hK => ?_
     ·refine goesB_ Try.func39 #[.agg #[.int .u64 t636, .int .u64 t637], .agg #[.int .u64 0, .int .u64 (IntKind.u64.wrap (a0_4))]] ?_
      with_reducible refine (spigotref01_Add.calls t636 t637 0 (IntKind.u64.wrap (a0_4)) t638 t639 t640 _ A6.out).mono ?_
      rintro e w14 ⟨rfl, hb⟩
      refine ⟨_, rfl, ?_⟩
      replace BK633 := bb_ BK633 hb
      replace HB := bs_ w hb
      clear hb
      refine hK.out _ _ ⟨(blk_cell BK633.out 0).trans rfl, (blk_cell BK633.out 1).trans rfl, (blk_cell BK633.out 2).trans rfl, (blk_cell BK633.out 3).trans rfl, (blk_cell BK633.out 4).trans rfl, (blk_cell BK633.out 5).trans rfl, (blk_cell BK633.out 6).trans rfl, (blk_cell BK633.out 7).trans rfl⟩ (fun hHeld => ?_)
      clear hK K
      refine nm_ (some 34) ?_
      refine pa_ 13 (some 21) (bl_ 19 16383) HT_ ?_
      refine pa_ 14 (some 35) (bl_ 19 32767) HT_ ?_
      refine pa_ 15 (some 36) (bl_ 19 65535) HT_ ?_
      refine oa_ 16 (some 8) (bl_ 19 131071) HT_ fun K hK => ?_
      refine bs2_ #[.int .u64 0, .int .u64 0] 82 ?_
      intro gb641 hg w15 BK641 hb
      have GW641 := bz_ w hg
      have GE641 := GW641
      have NB633_641 := bn_ BK633 hg
      have NB641_633 := bm_ BK633 hg
      replace BK633 := bb_ BK633 hb
      replace HB := bs_ w hb
      clear hb hg
      refine hK.out _ _ ⟨(blk_cell BK633.out 0).trans rfl, (blk_cell BK633.out 1).trans rfl, (blk_cell BK633.out 2).trans rfl, (blk_cell BK633.out 3).trans rfl, (blk_cell BK633.out 4).trans rfl, (blk_cell BK633.out 5).trans rfl, (blk_cell BK633.out 6).trans rfl, (blk_cell BK633.out 7).trans rfl⟩ (fun hHeld => ?_)
      clear hK K
      refine nm_ (some 8) ?_
      exact no_ (hCont (gb641) _ ⟨hHeld, (bq_ BK633), (bq_ BK641), GW641.out, GE641.out, NB633_641.out, NB641_633.out, bh_⟩)
     ·refine bs2_ #[.int .u64 0, .int .u64 0] 82 ?_
      intro gb641 hg w14 BK641 hb
      have GW641 := bz_ w hg
      have GE641 := GW641
      have NB633_641 := bn_ BK633 hg
      have NB641_633 := bm_ BK633 hg
      replace BK633 := bb_ BK633 hb
      replace HB := bs_ w hb
      clear hb hg
      refine hK.out _ _ ⟨(blk_cell BK633.out 0).trans rfl, (blk_cell BK633.out 1).trans rfl, (blk_cell BK633.out 2).trans rfl, (blk_cell BK633.out 3).trans rfl, (blk_cell BK633.out 4).trans rfl, (blk_cell BK633.out 5).trans rfl, (blk_cell BK633.out 6).trans rfl, (blk_cell BK633.out 7).trans rfl⟩ (fun hHeld => ?_)
      clear hK K
      refine nm_ (some 8) ?_
      refine oa_ 12 (some 34) (bl_ 19 73727) HT_ fun K hK => ?_
      refine goesB_ Try.func39 #[.agg #[.int .u64 t636, .int .u64 t637], .agg #[.int .u64 0, .int .u64 (IntKind.u64.wrap (a0_4))]] ?_
      with_reducible refine (spigotref01_Add.calls t636 t637 0 (IntKind.u64.wrap (a0_4)) t638 t639 t640 _ A6.out).mono ?_
      rintro e w15 ⟨rfl, hb⟩
      refine ⟨_, rfl, ?_⟩
      replace BK633 := bb_ BK633 hb
      replace BK641 := bb_ BK641 hb
      replace HB := bs_ w hb
      clear hb
      refine hK.out _ _ ⟨(blk_cell BK633.out 0).trans rfl, (blk_cell BK633.out 1).trans rfl, (blk_cell BK633.out 2).trans rfl, (blk_cell BK633.out 3).trans rfl, (blk_cell BK633.out 4).trans rfl, (blk_cell BK633.out 5).trans rfl, (blk_cell BK633.out 6).trans rfl, (blk_cell BK633.out 7).trans rfl⟩ (fun hHeld => ?_)
      clear hK K
      refine nm_ (some 34) ?_
      refine pa_ 13 (some 21) (bl_ 19 81919) HT_ ?_
      refine pa_ 14 (some 35) (bl_ 19 98303) HT_ ?_
      refine pa_ 15 (some 36) (bl_ 19 131071) HT_ ?_
      exact no_ (hCont (gb641) _ ⟨hHeld, (bq_ BK633), (bq_ BK641), GW641.out, GE641.out, NB633_641.out, NB641_633.out, bh_⟩)
    ·refine bs2_ #[.int .u64 0, .int .u64 0] 82 ?_
     intro gb641 hg w13 BK641 hb
     have GW641 := bz_ w hg
     have GE641 := GW641
     have NB633_641 := bn_ BK633 hg
     have NB641_633 := bm_ BK633 hg
     replace BK633 := bb_ BK633 hb
     replace HB := bs_ w hb
     clear hb hg
     refine hK.out _ _ ⟨(blk_cell BK633.out 0).trans rfl, (blk_cell BK633.out 1).trans rfl, (blk_cell BK633.out 2).trans rfl, (blk_cell BK633.out 3).trans rfl, (blk_cell BK633.out 4).trans rfl, (blk_cell BK633.out 5).trans rfl, (blk_cell BK633.out 6).trans rfl, (blk_cell BK633.out 7).trans rfl⟩ (fun hHeld => ?_)
     clear hK K
     refine nm_ (some 8) ?_
     refine oa_ 6 (some 28) (bl_ 19 69631) HT_ fun K hK => ?_
     refine goesB_ Try.func40 #[.int .u64 a1, .int .u64 (IntKind.u64.wrap (a0_1))] ?_
     with_reducible refine (spigotref01_Mul.calls a1 (IntKind.u64.wrap (a0_1)) t636 t637 _ A5.out).mono ?_
     rintro e w14 ⟨rfl, hb⟩
     refine ⟨_, rfl, ?_⟩
     replace BK633 := bb_ BK633 hb
     replace BK641 := bb_ BK641 hb
     replace HB := bs_ w hb
     clear hb
     refine hK.out _ _ ⟨(blk_cell BK633.out 0).trans rfl, (blk_cell BK633.out 1).trans rfl, (blk_cell BK633.out 2).trans rfl, (blk_cell BK633.out 3).trans rfl, (blk_cell BK633.out 4).trans rfl, (blk_cell BK633.out 5).trans rfl, (blk_cell BK633.out 6).trans rfl, (blk_cell BK633.out 7).trans rfl⟩ (fun hHeld => ?_)
     clear hK K
     refine nm_ (some 28) ?_
     refine oa_ 12 (some 34) (bl_ 19 73727) HT_ fun K hK => ?_
     refine goesB_ Try.func39 #[.agg #[.int .u64 t636, .int .u64 t637], .agg #[.int .u64 0, .int .u64 (IntKind.u64.wrap (a0_4))]] ?_
     with_reducible refine (spigotref01_Add.calls t636 t637 0 (IntKind.u64.wrap (a0_4)) t638 t639 t640 _ A6.out).mono ?_
     rintro e w15 ⟨rfl, hb⟩
     refine ⟨_, rfl, ?_⟩
     replace BK633 := bb_ BK633 hb
     replace BK641 := bb_ BK641 hb
     replace HB := bs_ w hb
     clear hb
     refine hK.out _ _ ⟨(blk_cell BK633.out 0).trans rfl, (blk_cell BK633.out 1).trans rfl, (blk_cell BK633.out 2).trans rfl, (blk_cell BK633.out 3).trans rfl, (blk_cell BK633.out 4).trans rfl, (blk_cell BK633.out 5).trans rfl, (blk_cell BK633.out 6).trans rfl, (blk_cell BK633.out 7).trans rfl⟩ (fun hHeld => ?_)
     clear hK K
     refine nm_ (some 34) ?_
     refine pa_ 13 (some 21) (bl_ 19 81919) HT_ ?_
     refine pa_ 14 (some 35) (bl_ 19 98303) HT_ ?_
     refine pa_ 15 (some 36) (bl_ 19 131071) HT_ ?_
     exact no_ (hCont (gb641) _ ⟨hHeld, (bq_ BK633), (bq_ BK641), GW641.out, GE641.out, NB633_641.out, NB641_633.out, bh_⟩)
   rintro gb641 w16 ⟨hS_, h0_, h1_, h2_, h3_, h4_, h5_, h6_⟩
   have BK641 := Aside0.mk h1_
   have GW641 := Aside0.mk h2_
   have GE641 := Aside0.mk h3_
   have NB633_641 := Aside0.mk h4_
   have NB641_633 := Aside0.mk h5_
   replace BK633 := Aside0.mk h0_
   replace HB := Aside0.mk h6_
   clear h0_ h1_ h2_ h3_ h4_ h5_ h6_
   have hHeld := hS_
   refine nq_ ?_
   refine oa_ 17 none (bl_ 19 262143) HT_ fun K hK => ?_
   have hs17 : w16.cell? ⟨gb641, 0, none⟩ = some (.int .u64 0) := (blk_cell BK641.out 0).trans rfl
   have hfs17 := blk_frozen BK641.out 0
   have hns17_0 := NB633_641.out
   have hms17_0 := NB641_633.out
   have hs18 : w16.cell? ⟨gb641, 1, none⟩ = some (.int .u64 0) := (blk_cell BK641.out 1).trans rfl
   have hfs18 := blk_frozen BK641.out 1
   have hns18_0 := NB633_641.out
   have hms18_0 := NB641_633.out
   refine sk_ ?_
   refine hK.out _ _ ⟨((cell_far (p := ⟨gb641, _, none⟩) NB633_641.out _).trans (((cell_far (p := ⟨gb641, _, none⟩) NB633_641.out _).trans (hHeld.1)))), ((cell_far (p := ⟨gb641, _, none⟩) NB633_641.out _).trans (((cell_far (p := ⟨gb641, _, none⟩) NB633_641.out _).trans (hHeld.2.1)))), ((cell_far (p := ⟨gb641, _, none⟩) NB633_641.out _).trans (((cell_far (p := ⟨gb641, _, none⟩) NB633_641.out _).trans (hHeld.2.2.1)))), ((cell_far (p := ⟨gb641, _, none⟩) NB633_641.out _).trans (((cell_far (p := ⟨gb641, _, none⟩) NB633_641.out _).trans (hHeld.2.2.2.1)))), ((cell_far (p := ⟨gb641, _, none⟩) NB633_641.out _).trans (((cell_far (p := ⟨gb641, _, none⟩) NB633_641.out _).trans (hHeld.2.2.2.2.1)))), ((cell_far (p := ⟨gb641, _, none⟩) NB633_641.out _).trans (((cell_far (p := ⟨gb641, _, none⟩) NB633_641.out _).trans (hHeld.2.2.2.2.2.1)))), ((cell_far (p := ⟨gb641, _, none⟩) NB633_641.out _).trans (((cell_far (p := ⟨gb641, _, none⟩) NB633_641.out _).trans (hHeld.2.2.2.2.2.2.1)))), ((cell_far (p := ⟨gb641, _, none⟩) NB633_641.out _).trans (((cell_far (p := ⟨gb641, _, none⟩) NB633_641.out _).trans (hHeld.2.2.2.2.2.2.2))))⟩ (fun hHeld => ?_)
   clear hK K
   refine pa_ 18 (some 9) (bl_ 19 524287) HT_ ?_
   refine done_ (done_of HT_.out (by kernel_rfl)) ?_
   replace hn641_633 := NB641_633.out
   replace hn633_641 := NB633_641.out
   replace hc641 := ce2_ BK641
   replace hc633 := ce8_ BK633
   try go_wp2_with (first | ((with_reducible refine gate_callee (f := 41) rfl ?_); (try refine ug_ (by rfl) ?_); refine goesA_ (some 44) Try.func41 #[.agg #[.int .u64 t638, .int .u64 t639], .int .u64 (IntKind.u64.wrap (a0_2))] ?_; (with_reducible refine (spigotref01_Div.calls k t638 t639 (IntKind.u64.wrap (a0_2)) t642 t643 t644 t645 _ A7.out).mono ?_); rintro e w22 ⟨rfl, hb⟩; refine ⟨_, rfl, ?_⟩; replace BK633 := bf_ BK633 hb; replace BK641 := Aside0.mk (blk_below (g := gb641) (o := .cells #[.int .u64 t638, .int .u64 t639] 82 (0, 0)) (bp2_ (bq_ BK641)) hb); replace HB := bs_ w hb; clear hb) | ((with_reducible refine gate_dst (N := 10) rfl ?_); (try refine ug_ (by rfl) ?_); refine bx_ #[.int .u64 0, .int .u64 0] 82 ?_; intro gb646 hg w23 BK646 hb; have GW646 := bz_ w hg; have GE646 := GW646; have NB633_646 := bn_ BK633 hg; have NB646_633 := bm_ BK633 hg; have NB641_646 := bn_ BK641 hg; have NB646_641 := bm_ BK641 hg; replace BK633 := bb_ BK633 hb; replace BK641 := bb_ BK641 hb; replace HB := bs_ w hb; clear hb hg; replace hn646_633 := NB646_633.out; replace hn633_646 := NB633_646.out; replace hn646_641 := NB646_641.out; replace hn641_646 := NB641_646.out; replace hc646 := ce2_ BK646))
   go_ret2
   exact fi_
  ·rw [if_neg c8] at H
   have c8b0 : decide (0 < t642) = false := decide_eq_false c8
   clear c8
   by_cases c27 : t643 > 1000000000000000
   ·rw [if_pos c27] at H
    have c27b0 : decide (1000000000000000 < t643) = true := decide_eq_true c27
    clear c27
    simp only [Option.some.injEq, Prod.mk.injEq] at H
    obtain ⟨rfl, rfl⟩ := H
    go_enter Try.func26, Try.ntmps26
    try go_wp2_with (first | ((with_reducible refine gate_dst (N := 2) rfl ?_); (try refine ug_ (by rfl) ?_); refine bx_ #[.int .i64 a0_0, .int .i64 a0_1, .int .i64 a0_2, .int .i64 a0_3, .int .i64 a0_4, .int .u64 a0_5, .int .i64 a0_6, .slice A0_7 l0_7.length c0_7] 29 ?_; intro gb633 hg w28 BK633 hb; have GW633 := bz_ w hg; have GE633 := GW633; replace HB := bs_ w hb; clear hb hg; replace hc633 := ce8_ BK633) | ((with_reducible refine gate_callee (f := 24) rfl ?_); (try refine ug_ (by rfl) ?_); refine goesA_ (some 15) Try.func24 #[.agg #[.int .i64 a0_0, .int .i64 a0_1, .int .i64 a0_2, .int .i64 a0_3, .int .i64 a0_4, .int .u64 a0_5, .int .i64 a0_6, .slice A0_7 l0_7.length c0_7]] ?_; (with_reducible refine (spigotref42_Out.calls k a0_0 a0_1 a0_2 a0_3 a0_4 a0_5 a0_6 _ _ l0_7 t634 t635 _ ?side1 ?side2 A3.out).mono ?_); (case side1 => exact cs_ HR0_7 HB); (case side2 => exact HC0_7.out); rintro e w30 ⟨rfl, hb⟩; refine ⟨_, rfl, ?_⟩; replace BK633 := bb_ BK633 hb; replace HB := bs_ w hb; clear hb))
    replace BK633 := Aside0.mk (blk_drew BK633.out)
    replace HB := Aside0.mk (below_drew1 HB.out)
    refine start_ (n := 19) (S := fun w' => w'.cell? ⟨gb633, 0, none⟩ = some (.int .i64 a0_0) ∧ w'.cell? ⟨gb633, 1, none⟩ = some (.int .i64 a0_1) ∧ w'.cell? ⟨gb633, 2, none⟩ = some (.int .i64 a0_2) ∧ w'.cell? ⟨gb633, 3, none⟩ = some (.int .i64 a0_3) ∧ w'.cell? ⟨gb633, 4, none⟩ = some (.int .i64 a0_4) ∧ w'.cell? ⟨gb633, 5, none⟩ = some (.int .u64 a0_5) ∧ w'.cell? ⟨gb633, 6, none⟩ = some (.int .i64 a0_6) ∧ w'.cell? ⟨gb633, 7, none⟩ = some (.slice A0_7 l0_7.length c0_7)) (ds := []) (bl_ 19 0) (by kernel_rfl) rfl (by kernel_rfl) ⟨(blk_cell BK633.out 0).trans rfl, (blk_cell BK633.out 1).trans rfl, (blk_cell BK633.out 2).trans rfl, (blk_cell BK633.out 3).trans rfl, (blk_cell BK633.out 4).trans rfl, (blk_cell BK633.out 5).trans rfl, (blk_cell BK633.out 6).trans rfl, (blk_cell BK633.out 7).trans rfl⟩ (fun hHeld => ?_); refine with_tabW spigotref42_Bound.tab4 spigotref42_Bound.bits4 (fun HT_ HW_ => ?_)
    generalize w30.drew = w31 at BK633 HB hHeld ⊢
    refine pa_ 0 (some 22) (bl_ 19 1) HT_ ?_
    refine pa_ 1 (some 23) (bl_ 19 3) HT_ ?_
    refine pa_ 2 (some 24) (bl_ 19 7) HT_ ?_
    refine pa_ 3 (some 25) (bl_ 19 15) HT_ ?_
    refine pa_ 7 (some 29) (bl_ 19 143) HT_ ?_
    refine pa_ 8 (some 30) (bl_ 19 399) HT_ ?_
    refine ta_ 4 (some 26) (bl_ 19 415) HT_ HW_ hHeld ?_
    refine pa_ 5 (some 27) (bl_ 19 447) HT_ ?_
    refine ta_ 9 (some 31) (bl_ 19 959) HT_ HW_ hHeld ?_
    refine pa_ 10 (some 32) (bl_ 19 1983) HT_ ?_
    refine pa_ 11 (some 33) (bl_ 19 4031) HT_ ?_
    refine join_ (σ := Nat) 2 (bl_ 19 131071) (fun s_ => [(28, .agg #[.int .u64 t636, .int .u64 t637]), (34, .tuple #[.agg #[.int .u64 t638, .int .u64 t639], .int .i64 t640]), (8, .pointer (some ⟨s_, 0, none⟩)), (21, .tuple #[.agg #[.int .u64 t638, .int .u64 t639], .int .i64 t640]), (35, .agg #[.int .u64 t638, .int .u64 t639]), (36, .int .i64 t640)]) (fun s_ w' => (w'.cell? ⟨gb633, 0, none⟩ = some (.int .i64 a0_0) ∧ w'.cell? ⟨gb633, 1, none⟩ = some (.int .i64 a0_1) ∧ w'.cell? ⟨gb633, 2, none⟩ = some (.int .i64 a0_2) ∧ w'.cell? ⟨gb633, 3, none⟩ = some (.int .i64 a0_3) ∧ w'.cell? ⟨gb633, 4, none⟩ = some (.int .i64 a0_4) ∧ w'.cell? ⟨gb633, 5, none⟩ = some (.int .u64 a0_5) ∧ w'.cell? ⟨gb633, 6, none⟩ = some (.int .i64 a0_6) ∧ w'.cell? ⟨gb633, 7, none⟩ = some (.slice A0_7 l0_7.length c0_7)) ∧ (w'.heap[gb633]? = some (.cells #[.int .i64 a0_0, .int .i64 a0_1, .int .i64 a0_2, .int .i64 a0_3, .int .i64 a0_4, .int .u64 a0_5, .int .i64 a0_6, .slice A0_7 l0_7.length c0_7] 29 (0, 0))) ∧ (w'.heap[s_]? = some (.cells #[.int .u64 0, .int .u64 0] 82 (0, 0))) ∧ (w.heap.size ≤ s_) ∧ (w.heap.size ≤ s_) ∧ (gb633 ≠ s_) ∧ (s_ ≠ gb633) ∧ (Below w.heap.size w w')) ?_ ?_
    rotate_left
    ·intro hCont
     refine tw_ 6 16 (some 28) (some 8) (bl_ 19 4095) (bl_ 19 69567) HT_ (fun K hK => ?_) fun K hK => ?_
     ·refine goesB_ Try.func40 #[.int .u64 a1, .int .u64 (IntKind.u64.wrap (a0_1))] ?_
      with_reducible refine (spigotref01_Mul.calls a1 (IntKind.u64.wrap (a0_1)) t636 t637 _ A5.out).mono ?_
      rintro e w32 ⟨rfl, hb⟩
      refine ⟨_, rfl, ?_⟩
      replace BK633 := bb_ BK633 hb
      replace HB := bs_ w hb
      clear hb
      refine hK.out _ _ ⟨(blk_cell BK633.out 0).trans rfl, (blk_cell BK633.out 1).trans rfl, (blk_cell BK633.out 2).trans rfl, (blk_cell BK633.out 3).trans rfl, (blk_cell BK633.out 4).trans rfl, (blk_cell BK633.out 5).trans rfl, (blk_cell BK633.out 6).trans rfl, (blk_cell BK633.out 7).trans rfl⟩ (fun hHeld => ?_)
      clear hK K
      refine nm_ (some 28) ?_
      refine tw_ 12 16 (some 34) (some 8) (bl_ 19 8191) (bl_ 19 69631) HT_ (fun K hK => ?_) fun K hK => ?_
      ·refine goesB_ Try.func39 #[.agg #[.int .u64 t636, .int .u64 t637], .agg #[.int .u64 0, .int .u64 (IntKind.u64.wrap (a0_4))]] ?_
       with_reducible refine (spigotref01_Add.calls t636 t637 0 (IntKind.u64.wrap (a0_4)) t638 t639 t640 _ A6.out).mono ?_
       rintro e w33 ⟨rfl, hb⟩
       refine ⟨_, rfl, ?_⟩
       replace BK633 := bb_ BK633 hb
       replace HB := bs_ w hb
       clear hb
       refine hK.out _ _ ⟨(blk_cell BK633.out 0).trans rfl, (blk_cell BK633.out 1).trans rfl, (blk_cell BK633.out 2).trans rfl, (blk_cell BK633.out 3).trans rfl, (blk_cell BK633.out 4).trans rfl, (blk_cell BK633.out 5).trans rfl, (blk_cell BK633.out 6).trans rfl, (blk_cell BK633.out 7).trans rfl⟩ (fun hHeld => ?_)
       clear hK K
       refine nm_ (some 34) ?_
       refine pa_ 13 (some 21) (bl_ 19 16383) HT_ ?_
       refine pa_ 14 (some 35) (bl_ 19 32767) HT_ ?_
       refine pa_ 15 (some 36) (bl_ 19 65535) HT_ ?_
       refine oa_ 16 (some 8) (bl_ 19 131071) HT_ fun K hK => ?_
       refine bs2_ #[.int .u64 0, .int .u64 0] 82 ?_
       intro gb641 hg w34 BK641 hb
       have GW641 := bz_ w hg
       have GE641 := GW641
       have NB633_641 := bn_ BK633 hg
       have NB641_633 := bm_ BK633 hg
       replace BK633 := bb_ BK633 hb
       replace HB := bs_ w hb
       clear hb hg
       refine hK.out _ _ ⟨(blk_cell BK633.out 0).trans rfl, (blk_cell BK633.out 1).trans rfl, (blk_cell BK633.out 2).trans rfl, (blk_cell BK633.out 3).trans rfl, (blk_cell BK633.out 4).trans rfl, (blk_cell BK633.out 5).trans rfl, (blk_cell BK633.out 6).trans rfl, (blk_cell BK633.out 7).trans rfl⟩ (fun hHeld => ?_)
       clear hK K
       refine nm_ (some 8) ?_
       exact no_ (hCont (gb641) _ ⟨hHeld, (bq_ BK633), (bq_ BK641), GW641.out, GE641.out, NB633_641.out, NB641_633.out, bh_⟩)
      ·refine bs2_ #[.int .u64 0, .int .u64 0] 82 ?_
       intro gb641 hg w33 BK641 hb
       have GW641 := bz_ w hg
       have GE641 := GW641
       have NB633_641 := bn_ BK633 hg
       have NB641_633 := bm_ BK633 hg
       replace BK633 := bb_ BK633 hb
       replace HB := bs_ w hb
       clear hb hg
       refine hK.out _ _ ⟨(blk_cell BK633.out 0).trans rfl, (blk_cell BK633.out 1).trans rfl, (blk_cell BK633.out 2).trans rfl, (blk_cell BK633.out 3).trans rfl, (blk_cell BK633.out 4).trans rfl, (blk_cell BK633.out 5).trans rfl, (blk_cell BK633.out 6).trans rfl, (blk_cell BK633.out 7).trans rfl⟩ (fun hHeld => ?_)
       clear hK K
       refine nm_ (some 8) ?_
       refine oa_ 12 (some 34) (bl_ 19 73727) HT_ fun K hK => ?_
       refine goesB_ Try.func39 #[.agg #[.int .u64 t636, .int .u64 t637], .agg #[.int .u64 0, .int .u64 (IntKind.u64.wrap (a0_4))]] ?_
       with_reducible refine (spigotref01_Add.calls t636 t637 0 (IntKind.u64.wrap (a0_4)) t638 t639 t640 _ A6.out).mono ?_
       rintro e w34 ⟨rfl, hb⟩
       refine ⟨_, rfl, ?_⟩
       replace BK633 := bb_ BK633 hb
       replace BK641 := bb_ BK641 hb
       replace HB := bs_ w hb
       clear hb
       refine hK.out _ _ ⟨(blk_cell BK633.out 0).trans rfl, (blk_cell BK633.out 1).trans rfl, (blk_cell BK633.out 2).trans rfl, (blk_cell BK633.out 3).trans rfl, (blk_cell BK633.out 4).trans rfl, (blk_cell BK633.out 5).trans rfl, (blk_cell BK633.out 6).trans rfl, (blk_cell BK633.out 7).trans rfl⟩ (fun hHeld => ?_)
       clear hK K
       refine nm_ (some 34) ?_
       refine pa_ 13 (some 21) (bl_ 19 81919) HT_ ?_
       refine pa_ 14 (some 35) (bl_ 19 98303) HT_ ?_
       refine pa_ 15 (some 36) (bl_ 19 131071) HT_ ?_
       exact no_ (hCont (gb641) _ ⟨hHeld, (bq_ BK633), (bq_ BK641), GW641.out, GE641.out, NB633_641.out, NB641_633.out, bh_⟩)
     ·refine bs2_ #[.int .u64 0, .int .u64 0] 82 ?_
      intro gb641 hg w32 BK641 hb
      have GW641 := bz_ w hg
      have GE641 := GW641
      have NB633_641 := bn_ BK633 hg
      have NB641_633 := bm_ BK633 hg
      replace BK633 := bb_ BK633 hb
      replace HB := bs_ w hb
      clear hb hg
      refine hK.out _ _ ⟨(blk_cell BK633.out 0).trans rfl, (blk_cell BK633.out 1).trans rfl, (blk_cell BK633.out 2).trans rfl, (blk_cell BK633.out 3).trans rfl, (blk_cell BK633.out 4).trans rfl, (blk_cell BK633.out 5).trans rfl, (blk_cell BK633.out 6).trans rfl, (blk_cell BK633.out 7).trans rfl⟩ (fun hHeld => ?_)
      clear hK K
      refine nm_ (some 8) ?_
      refine oa_ 6 (some 28) (bl_ 19 69631) HT_ fun K hK => ?_
      refine goesB_ Try.func40 #[.int .u64 a1, .int .u64 (IntKind.u64.wrap (a0_1))] ?_
      with_reducible refine (spigotref01_Mul.calls a1 (IntKind.u64.wrap (a0_1)) t636 t637 _ A5.out).mono ?_
      rintro e w33 ⟨rfl, hb⟩
      refine ⟨_, rfl, ?_⟩
      replace BK633 := bb_ BK633 hb
      replace BK641 := bb_ BK641 hb
      replace HB := bs_ w hb
      clear hb
      refine hK.out _ _ ⟨(blk_cell BK633.out 0).trans rfl, (blk_cell BK633.out 1).trans rfl, (blk_cell BK633.out 2).trans rfl, (blk_cell BK633.out 3).trans rfl, (blk_cell BK633.out 4).trans rfl, (blk_cell BK633.out 5).trans rfl, (blk_cell BK633.out 6).trans rfl, (blk_cell BK633.out 7).trans rfl⟩ (fun hHeld => ?_)
      clear hK K
      refine nm_ (some 28) ?_
      refine oa_ 12 (some 34) (bl_ 19 73727) HT_ fun K hK => ?_
      refine goesB_ Try.func39 #[.agg #[.int .u64 t636, .int .u64 t637], .agg #[.int .u64 0, .int .u64 (IntKind.u64.wrap (a0_4))]] ?_
      with_reducible refine (spigotref01_Add.calls t636 t637 0 (IntKind.u64.wrap (a0_4)) t638 t639 t640 _ A6.out).mono ?_
      rintro e w34 ⟨rfl, hb⟩
      refine ⟨_, rfl, ?_⟩
      replace BK633 := bb_ BK633 hb
      replace BK641 := bb_ BK641 hb
      replace HB := bs_ w hb
      clear hb
      refine hK.out _ _ ⟨(blk_cell BK633.out 0).trans rfl, (blk_cell BK633.out 1).trans rfl, (blk_cell BK633.out 2).trans rfl, (blk_cell BK633.out 3).trans rfl, (blk_cell BK633.out 4).trans rfl, (blk_cell BK633.out 5).trans rfl, (blk_cell BK633.out 6).trans rfl, (blk_cell BK633.out 7).trans rfl⟩ (fun hHeld => ?_)
      clear hK K
      refine nm_ (some 34) ?_
      refine pa_ 13 (some 21) (bl_ 19 81919) HT_ ?_
      refine pa_ 14 (some 35) (bl_ 19 98303) HT_ ?_
      refine pa_ 15 (some 36) (bl_ 19 131071) HT_ ?_
      exact no_ (hCont (gb641) _ ⟨hHeld, (bq_ BK633), (bq_ BK641), GW641.out, GE641.out, NB633_641.out, NB641_633.out, bh_⟩)
    rintro gb641 w35 ⟨hS_, h0_, h1_, h2_, h3_, h4_, h5_, h6_⟩
    have BK641 := Aside0.mk h1_
    have GW641 := Aside0.mk h2_
    have GE641 := Aside0.mk h3_
    have NB633_641 := Aside0.mk h4_
    have NB641_633 := Aside0.mk h5_
    replace BK633 := Aside0.mk h0_
    replace HB := Aside0.mk h6_
    clear h0_ h1_ h2_ h3_ h4_ h5_ h6_
    have hHeld := hS_
    refine nq_ ?_
    refine oa_ 17 none (bl_ 19 262143) HT_ fun K hK => ?_
    have hs36 : w35.cell? ⟨gb641, 0, none⟩ = some (.int .u64 0) := (blk_cell BK641.out 0).trans rfl
    have hfs36 := blk_frozen BK641.out 0
    have hns36_0 := NB633_641.out
    have hms36_0 := NB641_633.out
    have hs37 : w35.cell? ⟨gb641, 1, none⟩ = some (.int .u64 0) := (blk_cell BK641.out 1).trans rfl
    have hfs37 := blk_frozen BK641.out 1
    have hns37_0 := NB633_641.out
    have hms37_0 := NB641_633.out
    refine sk_ ?_
    refine hK.out _ _ ⟨((cell_far (p := ⟨gb641, _, none⟩) NB633_641.out _).trans (((cell_far (p := ⟨gb641, _, none⟩) NB633_641.out _).trans (hHeld.1)))), ((cell_far (p := ⟨gb641, _, none⟩) NB633_641.out _).trans (((cell_far (p := ⟨gb641, _, none⟩) NB633_641.out _).trans (hHeld.2.1)))), ((cell_far (p := ⟨gb641, _, none⟩) NB633_641.out _).trans (((cell_far (p := ⟨gb641, _, none⟩) NB633_641.out _).trans (hHeld.2.2.1)))), ((cell_far (p := ⟨gb641, _, none⟩) NB633_641.out _).trans (((cell_far (p := ⟨gb641, _, none⟩) NB633_641.out _).trans (hHeld.2.2.2.1)))), ((cell_far (p := ⟨gb641, _, none⟩) NB633_641.out _).trans (((cell_far (p := ⟨gb641, _, none⟩) NB633_641.out _).trans (hHeld.2.2.2.2.1)))), ((cell_far (p := ⟨gb641, _, none⟩) NB633_641.out _).trans (((cell_far (p := ⟨gb641, _, none⟩) NB633_641.out _).trans (hHeld.2.2.2.2.2.1)))), ((cell_far (p := ⟨gb641, _, none⟩) NB633_641.out _).trans (((cell_far (p := ⟨gb641, _, none⟩) NB633_641.out _).trans (hHeld.2.2.2.2.2.2.1)))), ((cell_far (p := ⟨gb641, _, none⟩) NB633_641.out _).trans (((cell_far (p := ⟨gb641, _, none⟩) NB633_641.out _).trans (hHeld.2.2.2.2.2.2.2))))⟩ (fun hHeld => ?_)
    clear hK K
    refine pa_ 18 (some 9) (bl_ 19 524287) HT_ ?_
    refine done_ (done_of HT_.out (by kernel_rfl)) ?_
    replace hn641_633 := NB641_633.out
    replace hn633_641 := NB633_641.out
    replace hc641 := ce2_ BK641
    replace hc633 := ce8_ BK633
    try go_wp2_with (first | ((with_reducible refine gate_callee (f := 41) rfl ?_); (try refine ug_ (by rfl) ?_); refine goesA_ (some 44) Try.func41 #[.agg #[.int .u64 t638, .int .u64 t639], .int .u64 (IntKind.u64.wrap (a0_2))] ?_; (with_reducible refine (spigotref01_Div.calls k t638 t639 (IntKind.u64.wrap (a0_2)) t642 t643 t644 t645 _ A7.out).mono ?_); rintro e w41 ⟨rfl, hb⟩; refine ⟨_, rfl, ?_⟩; replace BK633 := bf_ BK633 hb; replace BK641 := Aside0.mk (blk_below (g := gb641) (o := .cells #[.int .u64 t638, .int .u64 t639] 82 (0, 0)) (bp2_ (bq_ BK641)) hb); replace HB := bs_ w hb; clear hb) | ((with_reducible refine gate_dst (N := 10) rfl ?_); (try refine ug_ (by rfl) ?_); refine bx_ #[.int .u64 0, .int .u64 0] 82 ?_; intro gb646 hg w42 BK646 hb; have GW646 := bz_ w hg; have GE646 := GW646; have NB633_646 := bn_ BK633 hg; have NB646_633 := bm_ BK633 hg; have NB641_646 := bn_ BK641 hg; have NB646_641 := bm_ BK641 hg; replace BK633 := bb_ BK633 hb; replace BK641 := bb_ BK641 hb; replace HB := bs_ w hb; clear hb hg; replace hn646_633 := NB646_633.out; replace hn633_646 := NB633_646.out; replace hn646_641 := NB646_641.out; replace hn641_646 := NB641_646.out; replace hc646 := ce2_ BK646))
    go_ret2
    exact fi_
   ·rw [if_neg c27] at H
    have c27b0 : decide (1000000000000000 < t643) = false := decide_eq_false c27
    clear c27
    obtain ⟨ji46, hji46⟩ : ∃ j_ : Int, (mn 1000000000000000 (wrap64 ((wrap64 (t634 + a0_3)) + (wrap64 (t643))))) = j_ := ⟨_, rfl⟩
    replace H : (some (ji46, 0)) = some (r1, r2) := by first | (rw [hji46] at H; exact H) | (simp only [hji46] at H ⊢; exact H)
    (try rw [hji46] at A3)
    (try rw [hji46] at A5)
    (try rw [hji46] at A6)
    (try rw [hji46] at A7)
    (try (have hji46h : ji46 ≤ 1000000000000000 := by (rw [← hji46]; unfold mn; (repeat' split) <;> omega)))
    (try (have hji46g : ji46 ≤ 64 := by omega))
    have hji46_ : (if (wrap64 ((wrap64 (t634 + a0_3)) + (wrap64 (t643)))) < 1000000000000000 then (wrap64 ((wrap64 (t634 + a0_3)) + (wrap64 (t643)))) else 1000000000000000) = ji46 := hji46
    simp only [Option.some.injEq, Prod.mk.injEq] at H
    obtain ⟨rfl, rfl⟩ := H
    go_enter Try.func26, Try.ntmps26
    try go_wp2_with (first | ((with_reducible refine gate_dst (N := 2) rfl ?_); (try refine ug_ (by rfl) ?_); refine bx_ #[.int .i64 a0_0, .int .i64 a0_1, .int .i64 a0_2, .int .i64 a0_3, .int .i64 a0_4, .int .u64 a0_5, .int .i64 a0_6, .slice A0_7 l0_7.length c0_7] 29 ?_; intro gb633 hg w47 BK633 hb; have GW633 := bz_ w hg; have GE633 := GW633; replace HB := bs_ w hb; clear hb hg; replace hc633 := ce8_ BK633) | ((with_reducible refine gate_callee (f := 24) rfl ?_); (try refine ug_ (by rfl) ?_); refine goesA_ (some 15) Try.func24 #[.agg #[.int .i64 a0_0, .int .i64 a0_1, .int .i64 a0_2, .int .i64 a0_3, .int .i64 a0_4, .int .u64 a0_5, .int .i64 a0_6, .slice A0_7 l0_7.length c0_7]] ?_; (with_reducible refine (spigotref42_Out.calls k a0_0 a0_1 a0_2 a0_3 a0_4 a0_5 a0_6 _ _ l0_7 t634 t635 _ ?side1 ?side2 A3.out).mono ?_); (case side1 => exact cs_ HR0_7 HB); (case side2 => exact HC0_7.out); rintro e w49 ⟨rfl, hb⟩; refine ⟨_, rfl, ?_⟩; replace BK633 := bb_ BK633 hb; replace HB := bs_ w hb; clear hb))
    replace BK633 := Aside0.mk (blk_drew BK633.out)
    replace HB := Aside0.mk (below_drew1 HB.out)
    refine start_ (n := 19) (S := fun w' => w'.cell? ⟨gb633, 0, none⟩ = some (.int .i64 a0_0) ∧ w'.cell? ⟨gb633, 1, none⟩ = some (.int .i64 a0_1) ∧ w'.cell? ⟨gb633, 2, none⟩ = some (.int .i64 a0_2) ∧ w'.cell? ⟨gb633, 3, none⟩ = some (.int .i64 a0_3) ∧ w'.cell? ⟨gb633, 4, none⟩ = some (.int .i64 a0_4) ∧ w'.cell? ⟨gb633, 5, none⟩ = some (.int .u64 a0_5) ∧ w'.cell? ⟨gb633, 6, none⟩ = some (.int .i64 a0_6) ∧ w'.cell? ⟨gb633, 7, none⟩ = some (.slice A0_7 l0_7.length c0_7)) (ds := []) (bl_ 19 0) (by kernel_rfl) rfl (by kernel_rfl) ⟨(blk_cell BK633.out 0).trans rfl, (blk_cell BK633.out 1).trans rfl, (blk_cell BK633.out 2).trans rfl, (blk_cell BK633.out 3).trans rfl, (blk_cell BK633.out 4).trans rfl, (blk_cell BK633.out 5).trans rfl, (blk_cell BK633.out 6).trans rfl, (blk_cell BK633.out 7).trans rfl⟩ (fun hHeld => ?_); refine with_tabW spigotref42_Bound.tab4 spigotref42_Bound.bits4 (fun HT_ HW_ => ?_)
    generalize w49.drew = w50 at BK633 HB hHeld ⊢
    refine pa_ 0 (some 22) (bl_ 19 1) HT_ ?_
    refine pa_ 1 (some 23) (bl_ 19 3) HT_ ?_
    refine pa_ 2 (some 24) (bl_ 19 7) HT_ ?_
    refine pa_ 3 (some 25) (bl_ 19 15) HT_ ?_
    refine pa_ 7 (some 29) (bl_ 19 143) HT_ ?_
    refine pa_ 8 (some 30) (bl_ 19 399) HT_ ?_
    refine ta_ 4 (some 26) (bl_ 19 415) HT_ HW_ hHeld ?_
    refine pa_ 5 (some 27) (bl_ 19 447) HT_ ?_
    refine ta_ 9 (some 31) (bl_ 19 959) HT_ HW_ hHeld ?_
    refine pa_ 10 (some 32) (bl_ 19 1983) HT_ ?_
    refine pa_ 11 (some 33) (bl_ 19 4031) HT_ ?_
    refine join_ (σ := Nat) 2 (bl_ 19 131071) (fun s_ => [(28, .agg #[.int .u64 t636, .int .u64 t637]), (34, .tuple #[.agg #[.int .u64 t638, .int .u64 t639], .int .i64 t640]), (8, .pointer (some ⟨s_, 0, none⟩)), (21, .tuple #[.agg #[.int .u64 t638, .int .u64 t639], .int .i64 t640]), (35, .agg #[.int .u64 t638, .int .u64 t639]), (36, .int .i64 t640)]) (fun s_ w' => (w'.cell? ⟨gb633, 0, none⟩ = some (.int .i64 a0_0) ∧ w'.cell? ⟨gb633, 1, none⟩ = some (.int .i64 a0_1) ∧ w'.cell? ⟨gb633, 2, none⟩ = some (.int .i64 a0_2) ∧ w'.cell? ⟨gb633, 3, none⟩ = some (.int .i64 a0_3) ∧ w'.cell? ⟨gb633, 4, none⟩ = some (.int .i64 a0_4) ∧ w'.cell? ⟨gb633, 5, none⟩ = some (.int .u64 a0_5) ∧ w'.cell? ⟨gb633, 6, none⟩ = some (.int .i64 a0_6) ∧ w'.cell? ⟨gb633, 7, none⟩ = some (.slice A0_7 l0_7.length c0_7)) ∧ (w'.heap[gb633]? = some (.cells #[.int .i64 a0_0, .int .i64 a0_1, .int .i64 a0_2, .int .i64 a0_3, .int .i64 a0_4, .int .u64 a0_5, .int .i64 a0_6, .slice A0_7 l0_7.length c0_7] 29 (0, 0))) ∧ (w'.heap[s_]? = some (.cells #[.int .u64 0, .int .u64 0] 82 (0, 0))) ∧ (w.heap.size ≤ s_) ∧ (w.heap.size ≤ s_) ∧ (gb633 ≠ s_) ∧ (s_ ≠ gb633) ∧ (Below w.heap.size w w')) ?_ ?_
    rotate_left
    ·intro hCont
     refine tw_ 6 16 (some 28) (some 8) (bl_ 19 4095) (bl_ 19 69567) HT_ (fun K hK => ?_) fun K hK => ?_
     ·refine goesB_ Try.func40 #[.int .u64 a1, .int .u64 (IntKind.u64.wrap (a0_1))] ?_
      with_reducible refine (spigotref01_Mul.calls a1 (IntKind.u64.wrap (a0_1)) t636 t637 _ A5.out).mono ?_
      rintro e w51 ⟨rfl, hb⟩
      refine ⟨_, rfl, ?_⟩
      replace BK633 := bb_ BK633 hb
      replace HB := bs_ w hb
      clear hb
      refine hK.out _ _ ⟨(blk_cell BK633.out 0).trans rfl, (blk_cell BK633.out 1).trans rfl, (blk_cell BK633.out 2).trans rfl, (blk_cell BK633.out 3).trans rfl, (blk_cell BK633.out 4).trans rfl, (blk_cell BK633.out 5).trans rfl, (blk_cell BK633.out 6).trans rfl, (blk_cell BK633.out 7).trans rfl⟩ (fun hHeld => ?_)
      clear hK K
      refine nm_ (some 28) ?_
      refine tw_ 12 16 (some 34) (some 8) (bl_ 19 8191) (bl_ 19 69631) HT_ (fun K hK => ?_) fun K hK => ?_
      ·refine goesB_ Try.func39 #[.agg #[.int .u64 t636, .int .u64 t637], .agg #[.int .u64 0, .int .u64 (IntKind.u64.wrap (a0_4))]] ?_
       with_reducible refine (spigotref01_Add.calls t636 t637 0 (IntKind.u64.wrap (a0_4)) t638 t639 t640 _ A6.out).mono ?_
       rintro e w52 ⟨rfl, hb⟩
       refine ⟨_, rfl, ?_⟩
       replace BK633 := bb_ BK633 hb
       replace HB := bs_ w hb
       clear hb
       refine hK.out _ _ ⟨(blk_cell BK633.out 0).trans rfl, (blk_cell BK633.out 1).trans rfl, (blk_cell BK633.out 2).trans rfl, (blk_cell BK633.out 3).trans rfl, (blk_cell BK633.out 4).trans rfl, (blk_cell BK633.out 5).trans rfl, (blk_cell BK633.out 6).trans rfl, (blk_cell BK633.out 7).trans rfl⟩ (fun hHeld => ?_)
       clear hK K
       refine nm_ (some 34) ?_
       refine pa_ 13 (some 21) (bl_ 19 16383) HT_ ?_
       refine pa_ 14 (some 35) (bl_ 19 32767) HT_ ?_
       refine pa_ 15 (some 36) (bl_ 19 65535) HT_ ?_
       refine oa_ 16 (some 8) (bl_ 19 131071) HT_ fun K hK => ?_
       refine bs2_ #[.int .u64 0, .int .u64 0] 82 ?_
       intro gb641 hg w53 BK641 hb
       have GW641 := bz_ w hg
       have GE641 := GW641
       have NB633_641 := bn_ BK633 hg
       have NB641_633 := bm_ BK633 hg
       replace BK633 := bb_ BK633 hb
       replace HB := bs_ w hb
       clear hb hg
       refine hK.out _ _ ⟨(blk_cell BK633.out 0).trans rfl, (blk_cell BK633.out 1).trans rfl, (blk_cell BK633.out 2).trans rfl, (blk_cell BK633.out 3).trans rfl, (blk_cell BK633.out 4).trans rfl, (blk_cell BK633.out 5).trans rfl, (blk_cell BK633.out 6).trans rfl, (blk_cell BK633.out 7).trans rfl⟩ (fun hHeld => ?_)
       clear hK K
       refine nm_ (some 8) ?_
       exact no_ (hCont (gb641) _ ⟨hHeld, (bq_ BK633), (bq_ BK641), GW641.out, GE641.out, NB633_641.out, NB641_633.out, bh_⟩)
      ·refine bs2_ #[.int .u64 0, .int .u64 0] 82 ?_
       intro gb641 hg w52 BK641 hb
       have GW641 := bz_ w hg
       have GE641 := GW641
       have NB633_641 := bn_ BK633 hg
       have NB641_633 := bm_ BK633 hg
       replace BK633 := bb_ BK633 hb
       replace HB := bs_ w hb
       clear hb hg
       refine hK.out _ _ ⟨(blk_cell BK633.out 0).trans rfl, (blk_cell BK633.out 1).trans rfl, (blk_cell BK633.out 2).trans rfl, (blk_cell BK633.out 3).trans rfl, (blk_cell BK633.out 4).trans rfl, (blk_cell BK633.out 5).trans rfl, (blk_cell BK633.out 6).trans rfl, (blk_cell BK633.out 7).trans rfl⟩ (fun hHeld => ?_)
       clear hK K
       refine nm_ (some 8) ?_
       refine oa_ 12 (some 34) (bl_ 19 73727) HT_ fun K hK => ?_
       refine goesB_ Try.func39 #[.agg #[.int .u64 t636, .int .u64 t637], .agg #[.int .u64 0, .int .u64 (IntKind.u64.wrap (a0_4))]] ?_
       with_reducible refine (spigotref01_Add.calls t636 t637 0 (IntKind.u64.wrap (a0_4)) t638 t639 t640 _ A6.out).mono ?_
       rintro e w53 ⟨rfl, hb⟩
       refine ⟨_, rfl, ?_⟩
       replace BK633 := bb_ BK633 hb
       replace BK641 := bb_ BK641 hb
       replace HB := bs_ w hb
       clear hb
       refine hK.out _ _ ⟨(blk_cell BK633.out 0).trans rfl, (blk_cell BK633.out 1).trans rfl, (blk_cell BK633.out 2).trans rfl, (blk_cell BK633.out 3).trans rfl, (blk_cell BK633.out 4).trans rfl, (blk_cell BK633.out 5).trans rfl, (blk_cell BK633.out 6).trans rfl, (blk_cell BK633.out 7).trans rfl⟩ (fun hHeld => ?_)
       clear hK K
       refine nm_ (some 34) ?_
       refine pa_ 13 (some 21) (bl_ 19 81919) HT_ ?_
       refine pa_ 14 (some 35) (bl_ 19 98303) HT_ ?_
       refine pa_ 15 (some 36) (bl_ 19 131071) HT_ ?_
       exact no_ (hCont (gb641) _ ⟨hHeld, (bq_ BK633), (bq_ BK641), GW641.out, GE641.out, NB633_641.out, NB641_633.out, bh_⟩)
     ·refine bs2_ #[.int .u64 0, .int .u64 0] 82 ?_
      intro gb641 hg w51 BK641 hb
      have GW641 := bz_ w hg
      have GE641 := GW641
      have NB633_641 := bn_ BK633 hg
      have NB641_633 := bm_ BK633 hg
      replace BK633 := bb_ BK633 hb
      replace HB := bs_ w hb
      clear hb hg
      refine hK.out _ _ ⟨(blk_cell BK633.out 0).trans rfl, (blk_cell BK633.out 1).trans rfl, (blk_cell BK633.out 2).trans rfl, (blk_cell BK633.out 3).trans rfl, (blk_cell BK633.out 4).trans rfl, (blk_cell BK633.out 5).trans rfl, (blk_cell BK633.out 6).trans rfl, (blk_cell BK633.out 7).trans rfl⟩ (fun hHeld => ?_)
      clear hK K
      refine nm_ (some 8) ?_
      refine oa_ 6 (some 28) (bl_ 19 69631) HT_ fun K hK => ?_
      refine goesB_ Try.func40 #[.int .u64 a1, .int .u64 (IntKind.u64.wrap (a0_1))] ?_
      with_reducible refine (spigotref01_Mul.calls a1 (IntKind.u64.wrap (a0_1)) t636 t637 _ A5.out).mono ?_
      rintro e w52 ⟨rfl, hb⟩
      refine ⟨_, rfl, ?_⟩
      replace BK633 := bb_ BK633 hb
      replace BK641 := bb_ BK641 hb
      replace HB := bs_ w hb
      clear hb
      refine hK.out _ _ ⟨(blk_cell BK633.out 0).trans rfl, (blk_cell BK633.out 1).trans rfl, (blk_cell BK633.out 2).trans rfl, (blk_cell BK633.out 3).trans rfl, (blk_cell BK633.out 4).trans rfl, (blk_cell BK633.out 5).trans rfl, (blk_cell BK633.out 6).trans rfl, (blk_cell BK633.out 7).trans rfl⟩ (fun hHeld => ?_)
      clear hK K
      refine nm_ (some 28) ?_
      refine oa_ 12 (some 34) (bl_ 19 73727) HT_ fun K hK => ?_
      refine goesB_ Try.func39 #[.agg #[.int .u64 t636, .int .u64 t637], .agg #[.int .u64 0, .int .u64 (IntKind.u64.wrap (a0_4))]] ?_
      with_reducible refine (spigotref01_Add.calls t636 t637 0 (IntKind.u64.wrap (a0_4)) t638 t639 t640 _ A6.out).mono ?_
      rintro e w53 ⟨rfl, hb⟩
      refine ⟨_, rfl, ?_⟩
      replace BK633 := bb_ BK633 hb
      replace BK641 := bb_ BK641 hb
      replace HB := bs_ w hb
      clear hb
      refine hK.out _ _ ⟨(blk_cell BK633.out 0).trans rfl, (blk_cell BK633.out 1).trans rfl, (blk_cell BK633.out 2).trans rfl, (blk_cell BK633.out 3).trans rfl, (blk_cell BK633.out 4).trans rfl, (blk_cell BK633.out 5).trans rfl, (blk_cell BK633.out 6).trans rfl, (blk_cell BK633.out 7).trans rfl⟩ (fun hHeld => ?_)
      clear hK K
      refine nm_ (some 34) ?_
      refine pa_ 13 (some 21) (bl_ 19 81919) HT_ ?_
      refine pa_ 14 (some 35) (bl_ 19 98303) HT_ ?_
      refine pa_ 15 (some 36) (bl_ 19 131071) HT_ ?_
      exact no_ (hCont (gb641) _ ⟨hHeld, (bq_ BK633), (bq_ BK641), GW641.out, GE641.out, NB633_641.out, NB641_633.out, bh_⟩)
    rintro gb641 w54 ⟨hS_, h0_, h1_, h2_, h3_, h4_, h5_, h6_⟩
    have BK641 := Aside0.mk h1_
    have GW641 := Aside0.mk h2_
    have GE641 := Aside0.mk h3_
    have NB633_641 := Aside0.mk h4_
    have NB641_633 := Aside0.mk h5_
    replace BK633 := Aside0.mk h0_
    replace HB := Aside0.mk h6_
    clear h0_ h1_ h2_ h3_ h4_ h5_ h6_
    have hHeld := hS_
    refine nq_ ?_
    refine oa_ 17 none (bl_ 19 262143) HT_ fun K hK => ?_
    have hs55 : w54.cell? ⟨gb641, 0, none⟩ = some (.int .u64 0) := (blk_cell BK641.out 0).trans rfl
    have hfs55 := blk_frozen BK641.out 0
    have hns55_0 := NB633_641.out
    have hms55_0 := NB641_633.out
    have hs56 : w54.cell? ⟨gb641, 1, none⟩ = some (.int .u64 0) := (blk_cell BK641.out 1).trans rfl
    have hfs56 := blk_frozen BK641.out 1
    have hns56_0 := NB633_641.out
    have hms56_0 := NB641_633.out
    refine sk_ ?_
    refine hK.out _ _ ⟨((cell_far (p := ⟨gb641, _, none⟩) NB633_641.out _).trans (((cell_far (p := ⟨gb641, _, none⟩) NB633_641.out _).trans (hHeld.1)))), ((cell_far (p := ⟨gb641, _, none⟩) NB633_641.out _).trans (((cell_far (p := ⟨gb641, _, none⟩) NB633_641.out _).trans (hHeld.2.1)))), ((cell_far (p := ⟨gb641, _, none⟩) NB633_641.out _).trans (((cell_far (p := ⟨gb641, _, none⟩) NB633_641.out _).trans (hHeld.2.2.1)))), ((cell_far (p := ⟨gb641, _, none⟩) NB633_641.out _).trans (((cell_far (p := ⟨gb641, _, none⟩) NB633_641.out _).trans (hHeld.2.2.2.1)))), ((cell_far (p := ⟨gb641, _, none⟩) NB633_641.out _).trans (((cell_far (p := ⟨gb641, _, none⟩) NB633_641.out _).trans (hHeld.2.2.2.2.1)))), ((cell_far (p := ⟨gb641, _, none⟩) NB633_641.out _).trans (((cell_far (p := ⟨gb641, _, none⟩) NB633_641.out _).trans (hHeld.2.2.2.2.2.1)))), ((cell_far (p := ⟨gb641, _, none⟩) NB633_641.out _).trans (((cell_far (p := ⟨gb641, _, none⟩) NB633_641.out _).trans (hHeld.2.2.2.2.2.2.1)))), ((cell_far (p := ⟨gb641, _, none⟩) NB633_641.out _).trans (((cell_far (p := ⟨gb641, _, none⟩) NB633_641.out _).trans (hHeld.2.2.2.2.2.2.2))))⟩ (fun hHeld => ?_)
    clear hK K
    refine pa_ 18 (some 9) (bl_ 19 524287) HT_ ?_
    refine done_ (done_of HT_.out (by kernel_rfl)) ?_
    replace hn641_633 := NB641_633.out
    replace hn633_641 := NB633_641.out
    replace hc641 := ce2_ BK641
    replace hc633 := ce8_ BK633
    try go_wp2_with (first | ((with_reducible refine gate_callee (f := 41) rfl ?_); (try refine ug_ (by rfl) ?_); refine goesA_ (some 44) Try.func41 #[.agg #[.int .u64 t638, .int .u64 t639], .int .u64 (IntKind.u64.wrap (a0_2))] ?_; (with_reducible refine (spigotref01_Div.calls k t638 t639 (IntKind.u64.wrap (a0_2)) t642 t643 t644 t645 _ A7.out).mono ?_); rintro e w60 ⟨rfl, hb⟩; refine ⟨_, rfl, ?_⟩; replace BK633 := bf_ BK633 hb; replace BK641 := Aside0.mk (blk_below (g := gb641) (o := .cells #[.int .u64 t638, .int .u64 t639] 82 (0, 0)) (bp2_ (bq_ BK641)) hb); replace HB := bs_ w hb; clear hb) | ((with_reducible refine gate_dst (N := 10) rfl ?_); (try refine ug_ (by rfl) ?_); refine bx_ #[.int .u64 0, .int .u64 0] 82 ?_; intro gb646 hg w61 BK646 hb; have GW646 := bz_ w hg; have GE646 := GW646; have NB633_646 := bn_ BK633 hg; have NB646_633 := bm_ BK633 hg; have NB641_646 := bn_ BK641 hg; have NB646_641 := bm_ BK641 hg; replace BK633 := bb_ BK633 hb; replace BK641 := bb_ BK641 hb; replace HB := bs_ w hb; clear hb hg; replace hn646_633 := NB646_633.out; replace hn633_646 := NB633_646.out; replace hn646_641 := NB646_641.out; replace hn641_646 := NB641_646.out; replace hc646 := ce2_ BK646; replace hc633 := ce8_ BK633))
    go_ret2
    exact ⟨by first | rfl | (simp [errW_none, errW_some] <;> rfl) | (simp only [← hji46]; first | rfl | (simp [errW_none, errW_some] <;> rfl)) | (simp [*, errW_none, errW_some] <;> rfl), by repeat (first | (with_reducible first | exact HB.out | apply below_alloc | apply pw_below_drewN | apply below_drew1 | refine below_set ?_ GE633.out | refine below_set ?_ GE641.out | refine below_set ?_ GE646.out) | exact HB.out)⟩
 ·rw [if_neg c4] at H
  have c4b0 : (t635 == 0) = false := beq_eq_false_iff_ne.mpr c4
  have c4b1 : (t635 != 0) = true := bne_iff_ne.mpr c4
  simp only [Option.some.injEq, Prod.mk.injEq] at H
  obtain ⟨rfl, rfl⟩ := H
  go_enter Try.func26, Try.ntmps26
  go_wp2_with (first | ((with_reducible refine gate_dst (N := 2) rfl ?_); (try refine ug_ (by rfl) ?_); refine bx_ #[.int .i64 a0_0, .int .i64 a0_1, .int .i64 a0_2, .int .i64 a0_3, .int .i64 a0_4, .int .u64 a0_5, .int .i64 a0_6, .slice A0_7 l0_7.length c0_7] 29 ?_; intro gb633 hg w66 BK633 hb; have GW633 := bz_ w hg; have GE633 := GW633; replace HB := bs_ w hb; clear hb hg; replace hc633 := ce8_ BK633) | ((with_reducible refine gate_callee (f := 24) rfl ?_); (try refine ug_ (by rfl) ?_); refine goesA_ (some 15) Try.func24 #[.agg #[.int .i64 a0_0, .int .i64 a0_1, .int .i64 a0_2, .int .i64 a0_3, .int .i64 a0_4, .int .u64 a0_5, .int .i64 a0_6, .slice A0_7 l0_7.length c0_7]] ?_; (with_reducible refine (spigotref42_Out.calls k a0_0 a0_1 a0_2 a0_3 a0_4 a0_5 a0_6 _ _ l0_7 t634 t635 _ ?side1 ?side2 A3.out).mono ?_); (case side1 => exact cs_ HR0_7 HB); (case side2 => exact HC0_7.out); rintro e w68 ⟨rfl, hb⟩; refine ⟨_, rfl, ?_⟩; replace BK633 := bb_ BK633 hb; replace HB := bs_ w hb; clear hb))
  go_ret2
  exact fi_

end Go.Proofs.Ytbfdpodlnijeoaa.X
