-- written by xprint.py, a program of this session over the kit's print
import Derived.Test.YtnijohomnajngaaX0
import Derived.Test.YtnijohomnajngaaX11
import Derived.Test.YtnijohomnajngaaX12
import Derived.Test.YtnijohomnajngaaX20
import Derived.Test.YtnijohomnajngaaX21
namespace Go.Proofs.Ytnijohomnajngaa.X
open Go.RowKit Go.Proofs.YtnijohomnajngaaW.PrintWords Go.Proofs.YtnijohomnajngaaW.PrintLast Go.Proofs.YtnijohomnajngaaW.PrintMore
attribute [local go_sem] max2_int min2_int max_two min_two max_three min_three max_four min_four   -- for this text's walks alone
set_option linter.unusedVariables false
set_option linter.unusedSimpArgs false

/-! ### spigotref37_Bucket: function 14 -/
def spigotref37_Bucket.f (k : Nat) (a0_0 : Int) (a0_1 : Int) (a0_2 : Int) (a0_3 : Int) (a0_4 : Int) (a0_5 : Int) : Option (Int × Int × Int × Int × Int × Int × Int) := (spigotref37_Check.f k a0_0 a0_1 a0_2 a0_3 a0_4 a0_5).bind fun t289 => (if t289 = 0 then ((spigotref37_end.f a0_0 a0_1 a0_2 a0_5).bind fun bt290 => ((spigotref01_Sub.f k bt290.1 bt290.2 a0_3 a0_4).bind fun bt292 => ((spigotref01_Div.f k bt292.1 bt292.2.1 (IntKind.u64.wrap (a0_2))).bind fun bt296 => (some (a0_0, a0_1, a0_2, wrap64 (bt296.2.1), wrap64 (bt296.2.2.1), a0_5, 0))))) else (some (0, 0, 0, 0, 0, 0, t289)))
theorem spigotref37_Bucket.mono : ∀ a0 a1 a2 a3 a4 a5 k, LeO (spigotref37_Bucket.f k a0 a1 a2 a3 a4 a5) (spigotref37_Bucket.f (k + 1) a0 a1 a2 a3 a4 a5) := by
  intro a0 a1 a2 a3 a4 a5 k
  unfold spigotref37_Bucket.f
  repeat' first
      | (with_reducible exact spigotref01_Div.mono _ _ _ _)
      | (with_reducible exact spigotref01_Sub.mono _ _ _ _ _)
      | (with_reducible exact spigotref37_Check.mono _ _ _ _ _ _ _)
      | (with_reducible exact LeO.refl _)
      | (with_reducible exact LeO.none _)
      | (with_reducible refine LeO.ite ?_ ?_)
      | (with_reducible refine LeO.bind ?_ (fun _ => ?_))
      | exact spigotref01_Div.mono _ _ _ _
      | exact spigotref01_Sub.mono _ _ _ _ _
      | exact spigotref37_Check.mono _ _ _ _ _ _ _
      | exact LeO.none _
      | refine LeO.ite ?_ ?_
      | refine LeO.bind ?_ (fun _ => ?_)
def spigotref37_Bucket.T4 : Bool × List (List Nat × List Nat) := (true, [([], []), ([0], [0]), ([], []), ([2], [2]), ([1, 3], [1, 3]), ([], []), ([5], [5]), ([4, 6, 4], [4, 6]), ([7], [7]), ([8], [8]), ([8], [8]), ([], []), ([11, 9, 7, 0, 1, 2, 3, 4, 5, 6, 7, 8, 9, 11], [9, 11]), ([10, 12, 0, 1, 2, 3, 4, 5, 6, 7, 8, 9, 10, 11, 12], [10])])
def spigotref37_Bucket.B4 : List Nat := [0, 1, 0, 4, 15, 0, 32, 127, 255, 511, 511, 0, 3071, 8191]
theorem spigotref37_Bucket.tab4 : rtab .any (opsOf Try.f14 4) = spigotref37_Bucket.T4 := by kernel_rfl
theorem spigotref37_Bucket.bits4 : waitsOk spigotref37_Bucket.T4.2 spigotref37_Bucket.B4 = true := by kernel_rfl
set_option maxHeartbeats 8000000 in
set_option maxRecDepth 100000 in
theorem spigotref37_Bucket.calls (k : Nat) (a0_0 : Int) (a0_1 : Int) (a0_2 : Int) (a0_3 : Int) (a0_4 : Int) (a0_5 : Int) (r1 : Int) (r2 : Int) (r3 : Int) (r4 : Int) (r5 : Int) (r6 : Int) (r7 : Int) (w : World) (h : spigotref37_Bucket.f k a0_0 a0_1 a0_2 a0_3 a0_4 a0_5 = some (r1, r2, r3, r4, r5, r6, r7)) :
  Calls Try.prog 14 #[.agg #[.int .i64 a0_0, .int .i64 a0_1, .int .i64 a0_2, .int .u64 a0_3, .int .u64 a0_4, .int .u64 a0_5]] w fun e w' => e = .returned (.tuple #[.agg #[.int .i64 r1, .int .i64 r2, .int .i64 r3, .int .i64 r4, .int .i64 r5, .int .u64 r6], .int .i64 r7]) ∧ Below w.heap.size w w' := by
 have hu28 := Try.underlying28
 have hu30 := Try.underlying30
 have hu23 := Try.underlying23
 have hu26 := Try.underlying26
 have HB := Aside0.mk (Below.refl w.heap.size w)
 have H : ((spigotref37_Check.f k a0_0 a0_1 a0_2 a0_3 a0_4 a0_5).bind fun t289 => (if t289 = 0 then ((spigotref37_end.f a0_0 a0_1 a0_2 a0_5).bind fun bt290 => ((spigotref01_Sub.f k bt290.1 bt290.2 a0_3 a0_4).bind fun bt292 => ((spigotref01_Div.f k bt292.1 bt292.2.1 (IntKind.u64.wrap (a0_2))).bind fun bt296 => (some (a0_0, a0_1, a0_2, wrap64 (bt296.2.1), wrap64 (bt296.2.2.1), a0_5, 0))))) else (some (0, 0, 0, 0, 0, 0, t289)))) = some (r1, r2, r3, r4, r5, r6, r7) := h
 clear h
 have H0_ := bo_ H; clear H; obtain ⟨t289, A2, H⟩ := H0_
 try dsimp only at H
 by_cases c3 : t289 = 0
 ·rw [if_pos c3] at H
  have c3b0 : (t289 == 0) = true := beq_iff_eq.mpr c3
  have c3b1 : (t289 != 0) = false := bne_eq_false_iff_eq.mpr c3
  clear c3
  have H0_ := bo_ H; clear H; obtain ⟨⟨t290, t291⟩, A4, H⟩ := H0_
  try dsimp only at H
  have H0_ := bo_ H; clear H; obtain ⟨⟨t292, t293, t294⟩, A5, H⟩ := H0_
  try dsimp only at H
  have H0_ := bo_ H; clear H; obtain ⟨⟨t296, t297, t298, t299⟩, A6, H⟩ := H0_
  replace H : (some (a0_0, a0_1, a0_2, wrap64 (t297), wrap64 (t298), a0_5, 0)) = some (r1, r2, r3, r4, r5, r6, r7) := H
  simp only [Option.some.injEq, Prod.mk.injEq] at H
  obtain ⟨rfl, rfl, rfl, rfl, rfl, rfl, rfl⟩ := H
  go_enter Try.func14, Try.ntmps14
  try go_wp2_with (first | ((with_reducible refine gate_dst (N := 1) rfl ?_); refine bx_ #[.int .i64 a0_0, .int .i64 a0_1, .int .i64 a0_2, .int .u64 a0_3, .int .u64 a0_4, .int .u64 a0_5] 28 ?_; intro gb287 hg w7 BK287 hb; have GW287 := bz_ w hg; have GE287 := GW287; replace HB := bs_ w hb; clear hb hg) | ((with_reducible refine gate_dst (N := 2) rfl ?_); refine bx_ #[.int .i64 0, .int .i64 0, .int .i64 0, .int .i64 0, .int .i64 0, .int .u64 0] 30 ?_; intro gb288 hg w8 BK288 hb; have GW288 := bz_ w hg; have GE288 := GW288; have NB287_288 := bn_ BK287 hg; have NB288_287 := bm_ BK287 hg; replace BK287 := bb_ BK287 hb; replace HB := bs_ w hb; clear hb hg; replace hn287_288 := NB287_288.out; replace hn288_287 := NB288_287.out; replace hc287 := ce6_ BK287) | ((with_reducible refine gate_callee (f := 16) rfl ?_); refine goesA_ (some 11) Try.func16 #[.agg #[.int .i64 a0_0, .int .i64 a0_1, .int .i64 a0_2, .int .u64 a0_3, .int .u64 a0_4, .int .u64 a0_5]] ?_; (with_reducible refine (spigotref37_Check.calls k a0_0 a0_1 a0_2 a0_3 a0_4 a0_5 t289 _ A2.out).mono ?_); rintro e w11 ⟨rfl, hb⟩; refine ⟨_, rfl, ?_⟩; replace BK287 := bb_ BK287 hb; replace BK288 := bb_ BK288 hb; replace HB := bs_ w hb; clear hb))
  replace BK287 := Aside0.mk (blk_drew BK287.out)
  replace BK288 := Aside0.mk (blk_drew BK288.out)
  replace HB := Aside0.mk (below_drew1 HB.out)
  refine start_ (n := 14) (S := fun w' => w'.cell? ⟨gb287, 0, none⟩ = some (.int .i64 a0_0) ∧ w'.cell? ⟨gb287, 1, none⟩ = some (.int .i64 a0_1) ∧ w'.cell? ⟨gb287, 2, none⟩ = some (.int .i64 a0_2) ∧ w'.cell? ⟨gb287, 3, none⟩ = some (.int .u64 a0_3) ∧ w'.cell? ⟨gb287, 4, none⟩ = some (.int .u64 a0_4) ∧ w'.cell? ⟨gb287, 5, none⟩ = some (.int .u64 a0_5)) (ds := []) (bl_ 14 0) (by kernel_rfl) rfl (by kernel_rfl) (cc6_ BK287) (fun hHeld => ?_); refine with_tabW spigotref37_Bucket.tab4 spigotref37_Bucket.bits4 (fun HT_ HW_ => ?_)
  generalize w11.drew = w12 at BK287 BK288 HB hHeld ⊢
  refine pa_ 0 (some 17) (bl_ 14 1) HT_ ?_
  refine pa_ 2 (some 19) (bl_ 14 5) HT_ ?_
  refine pa_ 5 (some 22) (bl_ 14 37) HT_ ?_
  refine ta_ 1 (some 18) (bl_ 14 39) HT_ HW_ hHeld ?_
  refine ta_ 3 (some 20) (bl_ 14 47) HT_ HW_ hHeld ?_
  refine ta_ 6 (some 23) (bl_ 14 111) HT_ HW_ hHeld ?_
  refine join_ (σ := Nat) 2 (bl_ 14 4095) (fun s_ => [(21, .agg #[.int .u64 t290, .int .u64 t291]), (24, .tuple #[.agg #[.int .u64 t292, .int .u64 t293], .int .i64 t294]), (5, .pointer (some ⟨s_, 0, none⟩)), (16, .tuple #[.agg #[.int .u64 t292, .int .u64 t293], .int .i64 t294]), (25, .agg #[.int .u64 t292, .int .u64 t293]), (26, .int .i64 t294)]) (fun s_ w' => (w'.cell? ⟨gb287, 0, none⟩ = some (.int .i64 a0_0) ∧ w'.cell? ⟨gb287, 1, none⟩ = some (.int .i64 a0_1) ∧ w'.cell? ⟨gb287, 2, none⟩ = some (.int .i64 a0_2) ∧ w'.cell? ⟨gb287, 3, none⟩ = some (.int .u64 a0_3) ∧ w'.cell? ⟨gb287, 4, none⟩ = some (.int .u64 a0_4) ∧ w'.cell? ⟨gb287, 5, none⟩ = some (.int .u64 a0_5)) ∧ (w'.heap[gb287]? = some (.cells #[.int .i64 a0_0, .int .i64 a0_1, .int .i64 a0_2, .int .u64 a0_3, .int .u64 a0_4, .int .u64 a0_5] 28 (0, 0))) ∧ (w'.heap[gb288]? = some (.cells #[.int .i64 0, .int .i64 0, .int .i64 0, .int .i64 0, .int .i64 0, .int .u64 0] 30 (0, 0))) ∧ (w'.heap[s_]? = some (.cells #[.int .u64 0, .int .u64 0] 26 (0, 0))) ∧ (w.heap.size ≤ s_) ∧ (w.heap.size ≤ s_) ∧ (gb287 ≠ s_) ∧ (s_ ≠ gb287) ∧ (gb288 ≠ s_) ∧ (s_ ≠ gb288) ∧ (Below w.heap.size w w')) ?_ ?_
  rotate_left
  ·intro hCont
   refine tw_ 4 11 (some 21) (some 5) (bl_ 14 127) (bl_ 14 2159) HT_ (fun K hK => ?_) fun K hK => ?_
   ·refine goesB_ Try.func42 #[.agg #[.int .i64 a0_0, .int .i64 a0_1, .int .i64 a0_2], .int .u64 a0_5] ?_
    with_reducible refine (spigotref37_end.calls a0_0 a0_1 a0_2 a0_5 t290 t291 _ A4.out).mono ?_
    rintro e w13 ⟨rfl, hb⟩
    refine ⟨_, rfl, ?_⟩
    replace BK287 := bb_ BK287 hb
    replace BK288 := bb_ BK288 hb
    replace HB := bs_ w hb
    clear hb
    refine hK.out _ _ (cc6_ BK287) (fun hHeld => ?_)
    clear hK K
    refine nm_ (some 21) ?_
    refine tw_ 7 11 (some 24) (some 5) (bl_ 14 255) (bl_ 14 2175) HT_ (fun K hK => ?_) fun K hK => ?_
    ·refine goesB_ Try.func41 #[.agg #[.int .u64 t290, .int .u64 t291], .agg #[.int .u64 a0_3, .int .u64 a0_4]] ?_
     with_reducible refine (spigotref01_Sub.calls k t290 t291 a0_3 a0_4 t292 t293 t294 _ A5.out).mono ?_
     rintro e w14 ⟨rfl, hb⟩
     refine ⟨_, rfl, ?_⟩
     replace BK287 := bb_ BK287 hb
     replace BK288 := bb_ BK288 hb
     replace HB := bs_ w hb
     clear hb
     refine hK.out _ _ (cc6_ BK287) (fun hHeld => ?_)
     clear hK K
     refine nm_ (some 24) ?_
     refine pa_ 8 (some 16) (bl_ 14 511) HT_ ?_
     refine pa_ 9 (some 25) (bl_ 14 1023) HT_ ?_
     refine pa_ 10 (some 26) (bl_ 14 2047) HT_ ?_
     refine oa_ 11 (some 5) (bl_ 14 4095) HT_ fun K hK => ?_
     refine bs2_ #[.int .u64 0, .int .u64 0] 26 ?_
     intro gb295 hg w15 BK295 hb
     have GW295 := bz_ w hg
     have GE295 := GW295
     have NB287_295 := bn_ BK287 hg
     have NB295_287 := bm_ BK287 hg
     have NB288_295 := bn_ BK288 hg
     have NB295_288 := bm_ BK288 hg
     replace BK287 := bb_ BK287 hb
     replace BK288 := bb_ BK288 hb
     replace HB := bs_ w hb
     clear hb hg
     refine hK.out _ _ (cc6_ BK287) (fun hHeld => ?_)
     clear hK K
     refine nm_ (some 5) ?_
     exact no_ (hCont (gb295) _ ⟨hHeld, (bq_ BK287), (bq_ BK288), (bq_ BK295), GW295.out, GE295.out, NB287_295.out, NB295_287.out, NB288_295.out, NB295_288.out, bh_⟩)
    ·refine bs2_ #[.int .u64 0, .int .u64 0] 26 ?_
     intro gb295 hg w14 BK295 hb
     have GW295 := bz_ w hg
     have GE295 := GW295
     have NB287_295 := bn_ BK287 hg
     have NB295_287 := bm_ BK287 hg
     have NB288_295 := bn_ BK288 hg
     have NB295_288 := bm_ BK288 hg
     replace BK287 := bb_ BK287 hb
     replace BK288 := bb_ BK288 hb
     replace HB := bs_ w hb
     clear hb hg
     refine hK.out _ _ (cc6_ BK287) (fun hHeld => ?_)
     clear hK K
     refine nm_ (some 5) ?_
     refine oa_ 7 (some 24) (bl_ 14 2303) HT_ fun K hK => ?_
     refine goesB_ Try.func41 #[.agg #[.int .u64 t290, .int .u64 t291], .agg #[.int .u64 a0_3, .int .u64 a0_4]] ?_
     with_reducible refine (spigotref01_Sub.calls k t290 t291 a0_3 a0_4 t292 t293 t294 _ A5.out).mono ?_
     rintro e w15 ⟨rfl, hb⟩
     refine ⟨_, rfl, ?_⟩
     replace BK287 := bb_ BK287 hb
     replace BK288 := bb_ BK288 hb
     replace BK295 := bb_ BK295 hb
     replace HB := bs_ w hb
     clear hb
     refine hK.out _ _ (cc6_ BK287) (fun hHeld => ?_)
     clear hK K
     refine nm_ (some 24) ?_
     refine pa_ 8 (some 16) (bl_ 14 2559) HT_ ?_
     refine pa_ 9 (some 25) (bl_ 14 3071) HT_ ?_
     refine pa_ 10 (some 26) (bl_ 14 4095) HT_ ?_
     exact no_ (hCont (gb295) _ ⟨hHeld, (bq_ BK287), (bq_ BK288), (bq_ BK295), GW295.out, GE295.out, NB287_295.out, NB295_287.out, NB288_295.out, NB295_288.out, bh_⟩)
   ·refine bs2_ #[.int .u64 0, .int .u64 0] 26 ?_
    intro gb295 hg w13 BK295 hb
    have GW295 := bz_ w hg
    have GE295 := GW295
    have NB287_295 := bn_ BK287 hg
    have NB295_287 := bm_ BK287 hg
    have NB288_295 := bn_ BK288 hg
    have NB295_288 := bm_ BK288 hg
    replace BK287 := bb_ BK287 hb
    replace BK288 := bb_ BK288 hb
    replace HB := bs_ w hb
    clear hb hg
    refine hK.out _ _ (cc6_ BK287) (fun hHeld => ?_)
    clear hK K
    refine nm_ (some 5) ?_
    refine oa_ 4 (some 21) (bl_ 14 2175) HT_ fun K hK => ?_
    refine goesB_ Try.func42 #[.agg #[.int .i64 a0_0, .int .i64 a0_1, .int .i64 a0_2], .int .u64 a0_5] ?_
    with_reducible refine (spigotref37_end.calls a0_0 a0_1 a0_2 a0_5 t290 t291 _ A4.out).mono ?_
    rintro e w14 ⟨rfl, hb⟩
    refine ⟨_, rfl, ?_⟩
    replace BK287 := bb_ BK287 hb
    replace BK288 := bb_ BK288 hb
    replace BK295 := bb_ BK295 hb
    replace HB := bs_ w hb
    clear hb
    refine hK.out _ _ (cc6_ BK287) (fun hHeld => ?_)
    clear hK K
    refine nm_ (some 21) ?_
    refine oa_ 7 (some 24) (bl_ 14 2303) HT_ fun K hK => ?_
    refine goesB_ Try.func41 #[.agg #[.int .u64 t290, .int .u64 t291], .agg #[.int .u64 a0_3, .int .u64 a0_4]] ?_
    with_reducible refine (spigotref01_Sub.calls k t290 t291 a0_3 a0_4 t292 t293 t294 _ A5.out).mono ?_
    rintro e w15 ⟨rfl, hb⟩
    refine ⟨_, rfl, ?_⟩
    replace BK287 := bb_ BK287 hb
    replace BK288 := bb_ BK288 hb
    replace BK295 := bb_ BK295 hb
    replace HB := bs_ w hb
    clear hb
    refine hK.out _ _ (cc6_ BK287) (fun hHeld => ?_)
    clear hK K
    refine nm_ (some 24) ?_
    refine pa_ 8 (some 16) (bl_ 14 2559) HT_ ?_
    refine pa_ 9 (some 25) (bl_ 14 3071) HT_ ?_
    refine pa_ 10 (some 26) (bl_ 14 4095) HT_ ?_
    exact no_ (hCont (gb295) _ ⟨hHeld, (bq_ BK287), (bq_ BK288), (bq_ BK295), GW295.out, GE295.out, NB287_295.out, NB295_287.out, NB288_295.out, NB295_288.out, bh_⟩)
  rintro gb295 w16 ⟨hS_, h0_, h1_, h2_, h3_, h4_, h5_, h6_, h7_, h8_, h9_⟩
  have BK295 := Aside0.mk h2_
  have GW295 := Aside0.mk h3_
  have GE295 := Aside0.mk h4_
  have NB287_295 := Aside0.mk h5_
  have NB295_287 := Aside0.mk h6_
  have NB288_295 := Aside0.mk h7_
  have NB295_288 := Aside0.mk h8_
  replace BK287 := Aside0.mk h0_
  replace BK288 := Aside0.mk h1_
  replace HB := Aside0.mk h9_
  clear h0_ h1_ h2_ h3_ h4_ h5_ h6_ h7_ h8_ h9_
  have hHeld := hS_
  refine nq_ ?_
  refine oa_ 12 none (bl_ 14 8191) HT_ fun K hK => ?_
  have hs17 : w16.cell? ⟨gb295, 0, none⟩ = some (.int .u64 0) := (blk_cell BK295.out 0).trans rfl
  have hfs17 := blk_frozen BK295.out 0
  have hns17_0 := NB287_295.out
  have hns17_1 := NB288_295.out
  have hms17_0 := NB295_287.out
  have hms17_1 := NB295_288.out
  have hs18 : w16.cell? ⟨gb295, 1, none⟩ = some (.int .u64 0) := (blk_cell BK295.out 1).trans rfl
  have hfs18 := blk_frozen BK295.out 1
  have hns18_0 := NB287_295.out
  have hns18_1 := NB288_295.out
  have hms18_0 := NB295_287.out
  have hms18_1 := NB295_288.out
  refine sk_ ?_
  refine hK.out _ _ (cf6_ hHeld) (fun hHeld => ?_)
  clear hK K
  refine pa_ 13 (some 6) (bl_ 14 16383) HT_ ?_
  refine done_ (done_of HT_.out (by kernel_rfl)) ?_
  replace hn295_287 := NB295_287.out
  replace hn287_295 := NB287_295.out
  replace hn295_288 := NB295_288.out
  replace hn288_295 := NB288_295.out
  replace hc295 := ce2_ BK295
  replace hc287 := ce6_ BK287
  try go_wp2_with (first | ((with_reducible refine gate_callee (f := 44) rfl ?_); refine goesA_ (some 33) Try.func44 #[.agg #[.int .u64 t292, .int .u64 t293], .int .u64 (IntKind.u64.wrap (a0_2))] ?_; (with_reducible refine (spigotref01_Div.calls k t292 t293 (IntKind.u64.wrap (a0_2)) t296 t297 t298 t299 _ A6.out).mono ?_); rintro e w23 ⟨rfl, hb⟩; refine ⟨_, rfl, ?_⟩; replace BK287 := bf_ BK287 hb; replace BK288 := bf_ BK288 hb; replace BK295 := Aside0.mk (blk_below (g := gb295) (o := .cells #[.int .u64 t292, .int .u64 t293] 26 (0, 0)) (bp2_ (bq_ BK295)) hb); replace HB := bs_ w hb; clear hb) | ((with_reducible refine gate_dst (N := 7) rfl ?_); refine bx_ #[.int .u64 0, .int .u64 0] 26 ?_; intro gb300 hg w24 BK300 hb; have GW300 := bz_ w hg; have NB287_300 := bn_ BK287 hg; have NB300_287 := bm_ BK287 hg; have NB288_300 := bn_ BK288 hg; have NB300_288 := bm_ BK288 hg; have NB295_300 := bn_ BK295 hg; have NB300_295 := bm_ BK295 hg; replace BK287 := bb_ BK287 hb; replace BK288 := bb_ BK288 hb; replace BK295 := bb_ BK295 hb; replace HB := bs_ w hb; clear hb hg; replace hn300_287 := NB300_287.out; replace hn287_300 := NB287_300.out; replace hn300_288 := NB300_288.out; replace hn288_300 := NB288_300.out; replace hn300_295 := NB300_295.out; replace hn295_300 := NB295_300.out; replace hc300 := ce2_ BK300; replace hc287 := ce6_ BK287; replace hc288 := ce6_ BK288))
  refine bodyPost_ret (results_ct rfl _ _ gb288 30 #[.int .i64 a0_0, .int .i64 a0_1, .int .i64 a0_2, .int .i64 (wrap64 (t297)), .int .i64 (wrap64 (t298)), .int .u64 a0_5] (0, 0) _ rfl (bp6_ (bt_ BK288)) Try.underlying30 rfl (by kernel_rfl)) rfl ?_
  exact fi_
 ·rw [if_neg c3] at H
  have c3b0 : (t289 == 0) = false := beq_eq_false_iff_ne.mpr c3
  have c3b1 : (t289 != 0) = true := bne_iff_ne.mpr c3
  simp only [Option.some.injEq, Prod.mk.injEq] at H
  obtain ⟨rfl, rfl, rfl, rfl, rfl, rfl, rfl⟩ := H
  go_enter Try.func14, Try.ntmps14
  go_wp2_with (first | ((with_reducible refine gate_dst (N := 1) rfl ?_); refine bx_ #[.int .i64 a0_0, .int .i64 a0_1, .int .i64 a0_2, .int .u64 a0_3, .int .u64 a0_4, .int .u64 a0_5] 28 ?_; intro gb287 hg w31 BK287 hb; have GW287 := bz_ w hg; have GE287 := GW287; replace HB := bs_ w hb; clear hb hg) | ((with_reducible refine gate_dst (N := 2) rfl ?_); refine bx_ #[.int .i64 0, .int .i64 0, .int .i64 0, .int .i64 0, .int .i64 0, .int .u64 0] 30 ?_; intro gb288 hg w32 BK288 hb; have GW288 := bz_ w hg; have GE288 := GW288; have NB287_288 := bn_ BK287 hg; have NB288_287 := bm_ BK287 hg; replace BK287 := bb_ BK287 hb; replace HB := bs_ w hb; clear hb hg; replace hn287_288 := NB287_288.out; replace hn288_287 := NB288_287.out; replace hc287 := ce6_ BK287) | ((with_reducible refine gate_callee (f := 16) rfl ?_); refine goesA_ (some 11) Try.func16 #[.agg #[.int .i64 a0_0, .int .i64 a0_1, .int .i64 a0_2, .int .u64 a0_3, .int .u64 a0_4, .int .u64 a0_5]] ?_; (with_reducible refine (spigotref37_Check.calls k a0_0 a0_1 a0_2 a0_3 a0_4 a0_5 t289 _ A2.out).mono ?_); rintro e w35 ⟨rfl, hb⟩; refine ⟨_, rfl, ?_⟩; replace BK287 := bb_ BK287 hb; replace BK288 := bb_ BK288 hb; replace HB := bs_ w hb; clear hb; replace hc288 := ce6_ BK288))
  refine bodyPost_ret (results_ct rfl _ _ gb288 30 #[.int .i64 0, .int .i64 0, .int .i64 0, .int .i64 0, .int .i64 0, .int .u64 0] (0, 0) _ rfl (bp6_ (bq_ BK288)) Try.underlying30 rfl (by kernel_rfl)) rfl ?_
  exact fi_

end Go.Proofs.Ytnijohomnajngaa.X
