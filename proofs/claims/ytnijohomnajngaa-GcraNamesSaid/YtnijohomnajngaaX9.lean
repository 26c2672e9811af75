-- written by xprint.py, a program of this session over the kit's print
import Derived.Test.YtnijohomnajngaaX0
import Derived.Test.YtnijohomnajngaaX7
import Derived.Test.YtnijohomnajngaaX8
namespace Go.Proofs.Ytnijohomnajngaa.X
open Go.RowKit Go.Proofs.YtnijohomnajngaaW.PrintWords Go.Proofs.YtnijohomnajngaaW.PrintLast Go.Proofs.YtnijohomnajngaaW.PrintMore
attribute [local go_sem] max2_int min2_int max_two min_two max_three min_three max_four min_four   -- for this text's walks alone
set_option linter.unusedVariables false
set_option linter.unusedSimpArgs false

/-! ### gcra_Of: function 11 -/
def gcra_Of.l0 : Nat → Int → List (S26) → Int → Int → Int → Int → Int → Int → Int → Int → Int → Int → Option (Int × Int × Int × Int × Int × Int × Int)
  | 0, _, _, _, _, _, _, _, _, _, _, _, _ => none
  | k + 1, x6, x32, x33, x34, x156000, x156001, x156002, x156003, x156004, x156005, x162000, x162001 => if x34 < x33 then (if 0 ≤ x34 then (if x34 < (x32.length : Int) then (if x6 = 0 then ((wide_Sub.f x162000 x162001 ((rd_T26 x32 x34).f0) ((rd_T26 x32 x34).f1)).bind fun bt171 => (gcra_Of.l0 k bt171.2.2 x32 x33 (wrap64 (x34 + 1)) x156000 x156001 x156002 x156003 x156004 x156005 bt171.1 bt171.2.1)) else (gcra_Of.l0 k x6 x32 x33 (wrap64 (x34 + 1)) x156000 x156001 x156002 x156003 x156004 x156005 x162000 x162001)) else (none)) else (none)) else (some (x156000, x156001, x156002, x162000, x162001, x156005, x6))
def gcra_Of.f (k : Nat) (a0_0 : Int) (a0_1 : Int) (a0_2 : Int) (a0_3 : Int) (a0_4 : Int) (a0_5 : Int) : Option (Int × Int × Int × Int × Int × Int × Int) := (bucket_Check.f a0_0 a0_1 a0_2 a0_3 a0_4 a0_5).bind fun t157 => (if t157 = 0 then ((gcra_end.f a0_0 a0_1 a0_2 a0_5).bind fun bt158 => ((gcra_tokens.f a0_0 a0_1 a0_2 a0_3).bind fun bt162 => ((wide_Of.f (IntKind.u64.wrap (a0_4))).bind fun bt164 => ((some (([(⟨bt162.1, bt162.2⟩ : S26), (⟨bt164.1, bt164.2⟩ : S26)] : List (S26)) : List (S26))).bind fun y166 => (gcra_Of.l0 k bt158.2.2 y166 (y166.length : Int) 0 a0_0 a0_1 a0_2 a0_3 a0_4 a0_5 bt158.1 bt158.2.1))))) else (some (0, 0, 0, 0, 0, 0, t157)))
theorem gcra_Of.mono_l : ∀ k, (∀ y0 y1 y2 y3 y4 y5 y6 y7 y8 y9 y10 y11, LeO (gcra_Of.l0 k y0 y1 y2 y3 y4 y5 y6 y7 y8 y9 y10 y11) (gcra_Of.l0 (k + 1) y0 y1 y2 y3 y4 y5 y6 y7 y8 y9 y10 y11))
  | 0 => fun _ _ _ _ _ _ _ _ _ _ _ _ r h => by simp [gcra_Of.l0] at h
  | k + 1 => by
    have ih0 := gcra_Of.mono_l k
    · intro y0 y1 y2 y3 y4 y5 y6 y7 y8 y9 y10 y11
      unfold gcra_Of.l0
      repeat' first
      | (with_reducible exact ih0 _ _ _ _ _ _ _ _ _ _ _ _)
      | (with_reducible exact LeO.refl _)
      | (with_reducible exact LeO.none _)
      | (with_reducible refine LeO.ite ?_ ?_)
      | (with_reducible refine LeO.bind ?_ (fun _ => ?_))
      | exact ih0 _ _ _ _ _ _ _ _ _ _ _ _
      | exact LeO.none _
      | refine LeO.ite ?_ ?_
      | refine LeO.bind ?_ (fun _ => ?_)
theorem gcra_Of.mono : ∀ a0 a1 a2 a3 a4 a5 k, LeO (gcra_Of.f k a0 a1 a2 a3 a4 a5) (gcra_Of.f (k + 1) a0 a1 a2 a3 a4 a5) := by
  intro a0 a1 a2 a3 a4 a5 k
  have ih0 := gcra_Of.mono_l k
  unfold gcra_Of.f
  repeat' first
      | (with_reducible exact ih0 _ _ _ _ _ _ _ _ _ _ _ _)
      | (with_reducible exact LeO.refl _)
      | (with_reducible exact LeO.none _)
      | (with_reducible refine LeO.ite ?_ ?_)
      | (with_reducible refine LeO.bind ?_ (fun _ => ?_))
      | exact ih0 _ _ _ _ _ _ _ _ _ _ _ _
      | exact LeO.none _
      | refine LeO.ite ?_ ?_
      | refine LeO.bind ?_ (fun _ => ?_)
def gcra_Of.T5 : Bool × List (List Nat × List Nat) := (true, [([], []), ([0], [0]), ([], []), ([2], [2]), ([1, 3], [1, 3]), ([], []), ([5], [5]), ([6], [6]), ([7, 4], [7]), ([4, 8], [4, 8]), ([9], [9]), ([], [])])
def gcra_Of.B5 : List Nat := [0, 1, 0, 4, 15, 0, 32, 96, 255, 511, 1023, 0]
theorem gcra_Of.tab5 : rtab .any (opsOf Try.f11 5) = gcra_Of.T5 := by kernel_rfl
theorem gcra_Of.bits5 : waitsOk gcra_Of.T5.2 gcra_Of.B5 = true := by kernel_rfl
set_option maxHeartbeats 8000000 in
set_option maxRecDepth 100000 in
theorem gcra_Of.calls (k : Nat) (a0_0 : Int) (a0_1 : Int) (a0_2 : Int) (a0_3 : Int) (a0_4 : Int) (a0_5 : Int) (r1 : Int) (r2 : Int) (r3 : Int) (r4 : Int) (r5 : Int) (r6 : Int) (r7 : Int) (w : World) (h : gcra_Of.f k a0_0 a0_1 a0_2 a0_3 a0_4 a0_5 = some (r1, r2, r3, r4, r5, r6, r7)) :
  Calls Try.prog 11 #[.agg #[.int .i64 a0_0, .int .i64 a0_1, .int .i64 a0_2, .int .i64 a0_3, .int .i64 a0_4, .int .u64 a0_5]] w fun e w' => e = .returned (.tuple #[.agg #[.int .i64 r1, .int .i64 r2, .int .i64 r3, .int .u64 r4, .int .u64 r5, .int .u64 r6], .int .i64 r7]) ∧ Below w.heap.size w w' := by
 have hu30 := Try.underlying30
 have hu28 := Try.underlying28
 have hu23 := Try.underlying23
 have hu26 := Try.underlying26
 have HB := Aside0.mk (Below.refl w.heap.size w)
 have H : ((bucket_Check.f a0_0 a0_1 a0_2 a0_3 a0_4 a0_5).bind fun t157 => (if t157 = 0 then ((gcra_end.f a0_0 a0_1 a0_2 a0_5).bind fun bt158 => ((gcra_tokens.f a0_0 a0_1 a0_2 a0_3).bind fun bt162 => ((wide_Of.f (IntKind.u64.wrap (a0_4))).bind fun bt164 => ((some (([(⟨bt162.1, bt162.2⟩ : S26), (⟨bt164.1, bt164.2⟩ : S26)] : List (S26)) : List (S26))).bind fun y166 => (gcra_Of.l0 k bt158.2.2 y166 (y166.length : Int) 0 a0_0 a0_1 a0_2 a0_3 a0_4 a0_5 bt158.1 bt158.2.1))))) else (some (0, 0, 0, 0, 0, 0, t157)))) = some (r1, r2, r3, r4, r5, r6, r7) := h
 clear h
 have H0_ := bo_ H; clear H; obtain ⟨t157, A2, H⟩ := H0_
 try dsimp only at H
 by_cases c3 : t157 = 0
 ·rw [if_pos c3] at H
  have c3b0 : (t157 == 0) = true := beq_iff_eq.mpr c3
  have c3b1 : (t157 != 0) = false := bne_eq_false_iff_eq.mpr c3
  clear c3
  have H0_ := bo_ H; clear H; obtain ⟨⟨t158, t159, t160⟩, A4, H⟩ := H0_
  try dsimp only at H
  have H0_ := bo_ H; clear H; obtain ⟨⟨t162, t163⟩, A5, H⟩ := H0_
  try dsimp only at H
  have H0_ := bo_ H; clear H; obtain ⟨⟨t164, t165⟩, A6, H⟩ := H0_
  try dsimp only at H
  obtain ⟨y166, hy166⟩ : ∃ y_ : List (S26), y_ = (([(⟨t162, t163⟩ : S26), (⟨t164, t165⟩ : S26)] : List (S26))) := ⟨_, rfl⟩
  replace H : (gcra_Of.l0 k t160 y166 (y166.length : Int) 0 a0_0 a0_1 a0_2 a0_3 a0_4 a0_5 t158 t159) = some (r1, r2, r3, r4, r5, r6, r7) := by first | (rw [hy166]; with_reducible exact H) | (have H2_ := (Option.bind_some _ _).symm.trans H; rw [hy166]; with_reducible exact H2_) | (have H2_ := (Option.bind_some _ _).symm.trans H; with_reducible exact H2_) | with_reducible exact H | (rw [hy166]; exact H) | exact H
  have Ny166 := Aside0.mk hy166
  clear hy166
  have H' := Aside0.mk H
  clear H
  go_enter Try.func11, Try.ntmps11
  try go_wp2_with (first | ((with_reducible refine gate_dst (N := 1) rfl ?_); refine bx_ #[.int .i64 a0_0, .int .i64 a0_1, .int .i64 a0_2, .int .i64 a0_3, .int .i64 a0_4, .int .u64 a0_5] 30 ?_; intro gb155 hg w7 BK155 hb; have GW155 := bz_ w hg; have GE155 := GW155; replace HB := bs_ w hb; clear hb hg) | ((with_reducible refine gate_dst (N := 2) rfl ?_); refine bx_ #[.int .i64 0, .int .i64 0, .int .i64 0, .int .u64 0, .int .u64 0, .int .u64 0] 28 ?_; intro gb156 hg w8 BK156 hb; have GW156 := bz_ w hg; have GE156 := GW156; have NB155_156 := bn_ BK155 hg; have NB156_155 := bm_ BK155 hg; replace BK155 := bb_ BK155 hb; replace HB := bs_ w hb; clear hb hg; replace hn155_156 := NB155_156.out; replace hn156_155 := NB156_155.out; replace hc155 := ce6_ BK155) | ((with_reducible refine gate_callee (f := 34) rfl ?_); refine goesA_ (some 10) Try.func34 #[.agg #[.int .i64 a0_0, .int .i64 a0_1, .int .i64 a0_2, .int .i64 a0_3, .int .i64 a0_4, .int .u64 a0_5]] ?_; (with_reducible refine (bucket_Check.calls a0_0 a0_1 a0_2 a0_3 a0_4 a0_5 t157 _ A2.out).mono ?_); rintro e w11 ⟨rfl, hb⟩; refine ⟨_, rfl, ?_⟩; replace BK155 := bb_ BK155 hb; replace BK156 := bb_ BK156 hb; replace HB := bs_ w hb; clear hb; replace hc155 := ce6_ BK155) | ((with_reducible refine gate_callee (f := 35) rfl ?_); refine goesA_ (some 20) Try.func35 #[.agg #[.int .i64 a0_0, .int .i64 a0_1, .int .i64 a0_2], .int .u64 a0_5] ?_; (with_reducible refine (gcra_end.calls a0_0 a0_1 a0_2 a0_5 t158 t159 t160 _ A4.out).mono ?_); rintro e w13 ⟨rfl, hb⟩; refine ⟨_, rfl, ?_⟩; replace BK155 := bb_ BK155 hb; replace BK156 := bb_ BK156 hb; replace HB := bs_ w hb; clear hb) | ((with_reducible refine gate_dst (N := 5) rfl ?_); refine bx_ #[.int .u64 0, .int .u64 0] 26 ?_; intro gb161 hg w14 BK161 hb; have GW161 := bz_ w hg; have NB155_161 := bn_ BK155 hg; have NB161_155 := bm_ BK155 hg; have NB156_161 := bn_ BK156 hg; have NB161_156 := bm_ BK156 hg; replace BK155 := bb_ BK155 hb; replace BK156 := bb_ BK156 hb; replace HB := bs_ w hb; clear hb hg; replace hn161_155 := NB161_155.out; replace hn155_161 := NB155_161.out; replace hn161_156 := NB161_156.out; replace hn156_161 := NB156_161.out; replace hc161 := ce2_ BK161))
  have n0_ : Aside0 (((w14.setCell ⟨gb161, 0, none⟩ (.int .u64 t158)).setCell ⟨gb161, 1, none⟩ (.int .u64 t159)).heap[gb155]? = some (.cells #[.int .i64 a0_0, .int .i64 a0_1, .int .i64 a0_2, .int .i64 a0_3, .int .i64 a0_4, .int .u64 a0_5] 30 (0, 0))) := ⟨(bt_ BK155)⟩
  have n1_ : Aside0 (((w14.setCell ⟨gb161, 0, none⟩ (.int .u64 t158)).setCell ⟨gb161, 1, none⟩ (.int .u64 t159)).heap[gb156]? = some (.cells #[.int .i64 0, .int .i64 0, .int .i64 0, .int .u64 0, .int .u64 0, .int .u64 0] 28 (0, 0))) := ⟨(bt_ BK156)⟩
  have n2_ : Aside0 (((w14.setCell ⟨gb161, 0, none⟩ (.int .u64 t158)).setCell ⟨gb161, 1, none⟩ (.int .u64 t159)).heap[gb161]? = some (.cells #[.int .u64 t158, .int .u64 t159] 26 (0, 0))) := ⟨(bp2_ (bq_ BK161))⟩
  have n3_ : Aside0 (Below w.heap.size w ((w14.setCell ⟨gb161, 0, none⟩ (.int .u64 t158)).setCell ⟨gb161, 1, none⟩ (.int .u64 t159))) := bw_
  (try clear BK155)
  (try clear BK156)
  (try clear BK161)
  (try clear HB)
  generalize ((w14.setCell ⟨gb161, 0, none⟩ (.int .u64 t158)).setCell ⟨gb161, 1, none⟩ (.int .u64 t159)) = w18 at n0_ n1_ n2_ n3_ ⊢
  have BK155 := n0_
  have BK156 := n1_
  have BK161 := n2_
  have HB := n3_
  clear n0_ n1_ n2_ n3_
  replace BK155 := Aside0.mk (blk_drew BK155.out)
  replace BK156 := Aside0.mk (blk_drew BK156.out)
  replace BK161 := Aside0.mk (blk_drew BK161.out)
  replace HB := Aside0.mk (below_drew1 HB.out)
  refine start_ (n := 12) (S := fun w' => w'.cell? ⟨gb155, 0, none⟩ = some (.int .i64 a0_0) ∧ w'.cell? ⟨gb155, 1, none⟩ = some (.int .i64 a0_1) ∧ w'.cell? ⟨gb155, 2, none⟩ = some (.int .i64 a0_2) ∧ w'.cell? ⟨gb155, 3, none⟩ = some (.int .i64 a0_3) ∧ w'.cell? ⟨gb155, 4, none⟩ = some (.int .i64 a0_4) ∧ w'.cell? ⟨gb155, 5, none⟩ = some (.int .u64 a0_5)) (ds := []) (bl_ 12 0) (by kernel_rfl) rfl (by kernel_rfl) (cc6_ BK155) (fun hHeld => ?_); refine with_tabW gcra_Of.tab5 gcra_Of.bits5 (fun HT_ HW_ => ?_)
  generalize w18.drew = w19 at BK155 BK156 BK161 HB hHeld ⊢
  refine pa_ 0 (some 23) (bl_ 12 1) HT_ ?_
  refine pa_ 2 (some 25) (bl_ 12 5) HT_ ?_
  refine pa_ 5 (some 28) (bl_ 12 37) HT_ ?_
  refine pa_ 11 (some 34) (bl_ 12 2085) HT_ ?_
  refine ta_ 1 (some 24) (bl_ 12 2087) HT_ HW_ hHeld ?_
  refine ta_ 3 (some 26) (bl_ 12 2095) HT_ HW_ hHeld ?_
  refine ta_ 6 (some 29) (bl_ 12 2159) HT_ HW_ hHeld ?_
  refine pa_ 7 (some 30) (bl_ 12 2287) HT_ ?_
  refine oa_ 4 (some 27) (bl_ 12 2303) HT_ fun K hK => ?_
  refine goesB_ Try.func36 #[.agg #[.int .i64 a0_0, .int .i64 a0_1, .int .i64 a0_2], .int .i64 a0_3] ?_
  with_reducible refine (gcra_tokens.calls a0_0 a0_1 a0_2 a0_3 t162 t163 _ A5.out).mono ?_
  rintro e w20 ⟨rfl, hb⟩
  refine ⟨_, rfl, ?_⟩
  replace BK155 := bb_ BK155 hb
  replace BK156 := bb_ BK156 hb
  replace BK161 := bb_ BK161 hb
  replace HB := bs_ w hb
  clear hb
  refine hK.out _ _ (cc6_ BK155) (fun hHeld => ?_)
  clear hK K
  refine nm_ (some 27) ?_
  refine oa_ 8 (some 31) (bl_ 12 2559) HT_ fun K hK => ?_
  refine goesB_ Try.func37 #[.int .u64 (IntKind.u64.wrap (a0_4))] ?_
  with_reducible refine (wide_Of.calls (IntKind.u64.wrap (a0_4)) t164 t165 _ A6.out).mono ?_
  rintro e w21 ⟨rfl, hb⟩
  refine ⟨_, rfl, ?_⟩
  replace BK155 := bb_ BK155 hb
  replace BK156 := bb_ BK156 hb
  replace BK161 := bb_ BK161 hb
  replace HB := bs_ w hb
  clear hb
  refine hK.out _ _ (cc6_ BK155) (fun hHeld => ?_)
  clear hK K
  refine nm_ (some 31) ?_
  refine oa_ 9 (some 32) (bl_ 12 3071) HT_ fun K hK => ?_
  refine Kd.R_lit_step k26 _ 26 ?hg (N := 32) ?hd (xs := ([(⟨t162, t163⟩ : S26), (⟨t164, t165⟩ : S26)] : List (S26))) (inner := [.int .u64 t162, .int .u64 t163, .int .u64 t164, .int .u64 t165]) (ok := fun _ => True) (okp := fun _ => True) ?hr ?hp (fun _ hk => hk) trivial (Below.refl _ _) (Nat.le_refl _) (by simp) ?_; (case hd => rfl); (case hg => rfl); (case hr => first | (go_simp; done) | (go_simp; rfl)); (case hp => exact (Reps.c2 (show Kd.M k26 _ _ _ (⟨t162, t163⟩ : S26) [.int .u64 t162, .int .u64 t163] from (k26_mkM _ _ _ (⟨t162, t163⟩ : S26) )) (Reps.c2 (show Kd.M k26 _ _ _ (⟨t164, t165⟩ : S26) [.int .u64 t164, .int .u64 t165] from (k26_mkM _ _ _ (⟨t164, t165⟩ : S26) )) (Reps.none _ _))))
  intro v167 w22 ho23 hb hg_ hnew_
  clear hg_ hnew_
  (first | rw [← Ny166.out] at ho23 | (simp only [Int.reduceToNat] at ho23; rw [← Ny166.out] at ho23))
  have HO168 := Aside0.mk (Kd.R_lower (Kd.R_newB ho23 (g := gb161) (o := .cells #[.int .u64 t158, .int .u64 t159] 26 (0, 0)) (bq_ BK161)) (below_size bh_))
  replace BK155 := bb_ BK155 hb
  replace BK156 := bb_ BK156 hb
  replace BK161 := bb_ BK161 hb
  replace HB := bs_ w hb
  clear hb ho23
  obtain ⟨Ao24, co24, eo24⟩ := Kd.R_slice HO168.out
  (first | subst eo24 | (injection eo24 with f1_ f2_ f3_; have f4_ := f1_.symm; have f5_ := f3_.symm; clear f1_ f2_ f3_; subst f4_; subst f5_))
  refine hK.out _ _ (cc6_ BK155) (fun hHeld => ?_)
  clear hK K
  refine nm_ (some 32) ?_
  refine pa_ 10 (some 33) (bl_ 12 4095) HT_ ?_
  refine done_ (done_of HT_.out (by kernel_rfl)) ?_
  try go_wp2
  go_loopg [6, 34] k (fun kq v6 v34 w' => ∃ (x6_1 : Int) (x34_1 : Int) (x162000_1 : Int) (x162001_1 : Int), v6 = .int .i64 x6_1 ∧ v34 = .int .i64 x34_1 ∧ Aside0 (gcra_Of.l0 kq x6_1 y166 (y166.length : Int) x34_1 a0_0 a0_1 a0_2 a0_3 a0_4 a0_5 x162000_1 x162001_1 = some (r1, r2, r3, r4, r5, r6, r7)) ∧ Aside0 (kq ≤ k) ∧ Aside0 (Kd.R k26 26 w' w.heap.size (fun k_ => k_ ≠ gb161) (.slice Ao24 y166.length co24) y166) ∧ Aside0 (w'.heap[gb155]? = some (.cells #[.int .i64 a0_0, .int .i64 a0_1, .int .i64 a0_2, .int .i64 a0_3, .int .i64 a0_4, .int .u64 a0_5] 30 (0, 0))) ∧ Aside0 (w'.heap[gb156]? = some (.cells #[.int .i64 0, .int .i64 0, .int .i64 0, .int .u64 0, .int .u64 0, .int .u64 0] 28 (0, 0))) ∧ Aside0 (w'.heap[gb161]? = some (.cells #[.int .u64 x162000_1, .int .u64 x162001_1] 26 (0, 0))) ∧ Aside0 (Below w.heap.size w w'))
  case atStart => exact ⟨(t160), (0), (t158), (t159), rf_, rf_, H', ⟨Nat.le_refl _⟩, ⟨by (with_reducible repeat (first | apply Kd.R_alloc | apply Kd.R_drewN | apply Kd.R_drew)); exact Kd.R_mono HO168.out (fun _ hk => hk.2)⟩, ⟨bq_ BK155⟩, ⟨bq_ BK156⟩, ⟨bq_ BK161⟩, bw_⟩
  case round =>
   clear H'
   try clear c2
   try clear c3
   try clear c3b0
   try clear c3b1
   obtain ⟨x6_1, x34_1, x162000_1, x162001_1, rfl, rfl, HA, HK1, HO_32, BK155, BK156, BK161, HB⟩ := hrel
   cases gk with
   | zero => exact absurd HA.out (by simp [gcra_Of.l0])
   | succ k1 =>
    have H := HA.out
    clear HA
    simp only [gcra_Of.l0] at H
    by_cases c25 : x34_1 < (y166.length : Int)
    ·rw [if_pos c25] at H
     have c25b0 : decide (x34_1 < (y166.length : Int)) = true := decide_eq_true c25
     clear c25
     by_cases c26 : 0 ≤ x34_1
     rotate_left
     ·rw [if_neg c26] at H; exact absurd H (by simp)
     rw [if_pos c26] at H
     have c26b0 : decide (0 ≤ x34_1) = true := decide_eq_true c26
     clear c26
     by_cases c27 : x34_1 < (y166.length : Int)
     rotate_left
     ·rw [if_neg c27] at H; exact absurd H (by simp)
     rw [if_pos c27] at H
     have c27b0 : decide (x34_1 < (y166.length : Int)) = true := decide_eq_true c27
     clear c27
     by_cases c28 : x6_1 = 0
     ·rw [if_pos c28] at H
      have c28b0 : (x6_1 == 0) = true := beq_iff_eq.mpr c28
      have c28b1 : (x6_1 != 0) = false := bne_eq_false_iff_eq.mpr c28
      clear c28
      have H0_ := bo_ H; clear H; obtain ⟨⟨t171, t172, t173⟩, A29, H⟩ := H0_
      replace H : (gcra_Of.l0 k1 t173 y166 (y166.length : Int) (wrap64 (x34_1 + 1)) a0_0 a0_1 a0_2 a0_3 a0_4 a0_5 t171 t172) = some (r1, r2, r3, r4, r5, r6, r7) := H
      have H' := Aside0.mk H
      clear H
      have p169 : 0 ≤ (x34_1 : Int) := of_decide_eq_true (by first | (with_reducible assumption) | assumption)
      have q169 : x34_1 < (y166.length : Int) := of_decide_eq_true (by first | (with_reducible assumption) | assumption)
      obtain ⟨ad169, e169, hx169_0, hx169_1⟩ := at_T26 (Kd.R_reads' HO_32.out).2.2 x34_1 p169 q169
      cases e169
      replace p169 := eq_true p169
      replace q169 := eq_true q169
      go_wp2_with (first | ((with_reducible refine gate_dst (N := 8) rfl ?_); refine bx_ #[.int .u64 0, .int .u64 0] 26 ?_; intro gb170 hg w30 BK170 hb; have GW170 := bz_ w hg; have GE170 := GW170; have NB155_170 := bn_ BK155 hg; have NB170_155 := bm_ BK155 hg; have NB156_170 := bn_ BK156 hg; have NB170_156 := bm_ BK156 hg; have NB161_170 := bn_ BK161 hg; have NB170_161 := bm_ BK161 hg; replace HO_32 := Aside0.mk (Kd.R_below (Kd.R_elderB (rs_ HO_32) gb170 (Nat.le_of_eq hg.symm)) hb); replace BK155 := bb_ BK155 hb; replace BK156 := bb_ BK156 hb; replace BK161 := bb_ BK161 hb; replace HB := bs_ w hb; clear hb hg; replace hn170_155 := NB170_155.out; replace hn155_170 := NB155_170.out; replace hn170_156 := NB170_156.out; replace hn156_170 := NB156_170.out; replace hn170_161 := NB170_161.out; replace hn161_170 := NB161_170.out; replace hc170 := ce2_ BK170; replace hn161_155 := NB161_155.out; replace hn155_161 := NB155_161.out; replace hn161_156 := NB161_156.out; replace hn156_161 := NB156_161.out; replace hc161 := ce2_ BK161) | ((with_reducible refine gate_callee (f := 38) rfl ?_); refine goesA_ (some 43) Try.func38 #[.agg #[.int .u64 x162000_1, .int .u64 x162001_1], .agg #[.int .u64 ((rd_T26 y166 x34_1).f0), .int .u64 ((rd_T26 y166 x34_1).f1)]] ?_; (with_reducible refine (wide_Sub.calls x162000_1 x162001_1 ((rd_T26 y166 x34_1).f0) ((rd_T26 y166 x34_1).f1) t171 t172 t173 _ A29.out).mono ?_); rintro e w38 ⟨rfl, hb⟩; refine ⟨_, rfl, ?_⟩; replace HO_32 := Aside0.mk (Kd.R_below (by (with_reducible repeat (first | apply Kd.R_alloc | apply Kd.R_drewN | apply Kd.R_drew)); exact (Kd.R_mono (Kd.R_far (p := ⟨gb170, 1, none⟩) (Kd.R_far (p := ⟨gb170, 0, none⟩) (Kd.R_mono HO_32.out (fun k_ hk => (⟨hk, hk.2⟩ : _ ∧ k_ ≠ gb170))) (fun _ hk => hk.2) (.int .u64 ((rd_T26 y166 x34_1).f0))) (fun _ hk => hk.2) (.int .u64 ((rd_T26 y166 x34_1).f1))) (fun _ h_ => h_.1))) hb); replace BK155 := bf_ BK155 hb; replace BK156 := bf_ BK156 hb; replace BK161 := bf_ BK161 hb; replace BK170 := Aside0.mk (blk_below (g := gb170) (o := .cells #[.int .u64 ((rd_T26 y166 x34_1).f0), .int .u64 ((rd_T26 y166 x34_1).f1)] 26 (0, 0)) (bp2_ (bq_ BK170)) hb); replace HB := bs_ w hb; clear hb; replace hc161 := ce2_ BK161))
      go_roundg k1
      case measure => have := HK1.out; omega
      case rel => exact ⟨(t173), (wrap64 (x34_1 + 1)), (t171), (t172), rf_, rf_, H', ⟨by have := HK1.out; omega⟩, ⟨by (with_reducible repeat (first | apply Kd.R_alloc | apply Kd.R_drewN | apply Kd.R_drew)); exact Kd.R_mono (Kd.R_far (p := ⟨gb161, 1, none⟩) (Kd.R_far (p := ⟨gb161, 0, none⟩) (Kd.R_mono HO_32.out (fun k_ hk => (⟨hk, hk.1⟩ : _ ∧ k_ ≠ gb161))) (fun _ hk => hk.2) (.int .u64 t171)) (fun _ hk => hk.2) (.int .u64 t172)) (fun _ hk => hk.1.1)⟩, ⟨(bt_ BK155)⟩, ⟨(bt_ BK156)⟩, ⟨(bp2_ (bq_ BK161))⟩, bw_⟩
     ·rw [if_neg c28] at H
      have c28b0 : (x6_1 == 0) = false := beq_eq_false_iff_ne.mpr c28
      have c28b1 : (x6_1 != 0) = true := bne_iff_ne.mpr c28
      have H' := Aside0.mk H
      clear H
      have p169 : 0 ≤ (x34_1 : Int) := of_decide_eq_true (by first | (with_reducible assumption) | assumption)
      have q169 : x34_1 < (y166.length : Int) := of_decide_eq_true (by first | (with_reducible assumption) | assumption)
      obtain ⟨ad169, e169, hx169_0, hx169_1⟩ := at_T26 (Kd.R_reads' HO_32.out).2.2 x34_1 p169 q169
      cases e169
      replace p169 := eq_true p169
      replace q169 := eq_true q169
      go_wp2_with (first | ((with_reducible refine gate_dst (N := 8) rfl ?_); refine bx_ #[.int .u64 0, .int .u64 0] 26 ?_; intro gb170 hg w40 BK170 hb; have GW170 := bz_ w hg; have GE170 := GW170; have NB155_170 := bn_ BK155 hg; have NB170_155 := bm_ BK155 hg; have NB156_170 := bn_ BK156 hg; have NB170_156 := bm_ BK156 hg; have NB161_170 := bn_ BK161 hg; have NB170_161 := bm_ BK161 hg; replace HO_32 := Aside0.mk (Kd.R_below (Kd.R_elderB (rs_ HO_32) gb170 (Nat.le_of_eq hg.symm)) hb); replace BK155 := bb_ BK155 hb; replace BK156 := bb_ BK156 hb; replace BK161 := bb_ BK161 hb; replace HB := bs_ w hb; clear hb hg; replace hn170_155 := NB170_155.out; replace hn155_170 := NB155_170.out; replace hn170_156 := NB170_156.out; replace hn156_170 := NB156_170.out; replace hn170_161 := NB170_161.out; replace hn161_170 := NB161_170.out; replace hc170 := ce2_ BK170))
      go_roundg k1
      case measure => have := HK1.out; omega
      case rel => exact ⟨(x6_1), (wrap64 (x34_1 + 1)), (x162000_1), (x162001_1), rf_, rf_, H', ⟨by have := HK1.out; omega⟩, ⟨by (with_reducible repeat (first | apply Kd.R_alloc | apply Kd.R_drewN | apply Kd.R_drew)); exact Kd.R_mono (Kd.R_far (p := ⟨gb170, 1, none⟩) (Kd.R_far (p := ⟨gb170, 0, none⟩) (Kd.R_mono HO_32.out (fun k_ hk => (⟨hk, hk.2⟩ : _ ∧ k_ ≠ gb170))) (fun _ hk => hk.2) (.int .u64 ((rd_T26 y166 x34_1).f0))) (fun _ hk => hk.2) (.int .u64 ((rd_T26 y166 x34_1).f1))) (fun _ hk => hk.1.1)⟩, ⟨(bt_ BK155)⟩, ⟨(bt_ BK156)⟩, ⟨(bt_ BK161)⟩, bw_⟩
    ·rw [if_neg c25] at H
     have c25b0 : decide (x34_1 < (y166.length : Int)) = false := decide_eq_false c25
     clear c25
     simp only [Option.some.injEq, Prod.mk.injEq] at H
     obtain ⟨rfl, rfl, rfl, rfl, rfl, rfl, rfl⟩ := H
     replace hn155_156 := NB155_156.out
     replace hn156_155 := NB156_155.out
     replace hn155_161 := NB155_161.out
     replace hn161_155 := NB161_155.out
     replace hc155 := ce6_ BK155
     replace hn161_156 := NB161_156.out
     replace hn156_161 := NB156_161.out
     replace hc161 := ce2_ BK161
     replace hc156 := ce6_ BK156
     go_wp2
     refine bodyPost_ret (results_ct rfl _ _ gb156 28 #[.int .i64 a0_0, .int .i64 a0_1, .int .i64 a0_2, .int .u64 x162000_1, .int .u64 x162001_1, .int .u64 a0_5] (0, 0) _ rfl (bp6_ (bq_ BK156)) Try.underlying28 rfl (by kernel_rfl)) rfl ?_
     exact fi_
 ·rw [if_neg c3] at H
  have c3b0 : (t157 == 0) = false := beq_eq_false_iff_ne.mpr c3
  have c3b1 : (t157 != 0) = true := bne_iff_ne.mpr c3
  simp only [Option.some.injEq, Prod.mk.injEq] at H
  obtain ⟨rfl, rfl, rfl, rfl, rfl, rfl, rfl⟩ := H
  go_enter Try.func11, Try.ntmps11
  go_wp2_with (first | ((with_reducible refine gate_dst (N := 1) rfl ?_); refine bx_ #[.int .i64 a0_0, .int .i64 a0_1, .int .i64 a0_2, .int .i64 a0_3, .int .i64 a0_4, .int .u64 a0_5] 30 ?_; intro gb155 hg w51 BK155 hb; have GW155 := bz_ w hg; have GE155 := GW155; replace HB := bs_ w hb; clear hb hg) | ((with_reducible refine gate_dst (N := 2) rfl ?_); refine bx_ #[.int .i64 0, .int .i64 0, .int .i64 0, .int .u64 0, .int .u64 0, .int .u64 0] 28 ?_; intro gb156 hg w52 BK156 hb; have GW156 := bz_ w hg; have GE156 := GW156; have NB155_156 := bn_ BK155 hg; have NB156_155 := bm_ BK155 hg; replace BK155 := bb_ BK155 hb; replace HB := bs_ w hb; clear hb hg; replace hn155_156 := NB155_156.out; replace hn156_155 := NB156_155.out; replace hc155 := ce6_ BK155) | ((with_reducible refine gate_callee (f := 34) rfl ?_); refine goesA_ (some 10) Try.func34 #[.agg #[.int .i64 a0_0, .int .i64 a0_1, .int .i64 a0_2, .int .i64 a0_3, .int .i64 a0_4, .int .u64 a0_5]] ?_; (with_reducible refine (bucket_Check.calls a0_0 a0_1 a0_2 a0_3 a0_4 a0_5 t157 _ A2.out).mono ?_); rintro e w55 ⟨rfl, hb⟩; refine ⟨_, rfl, ?_⟩; replace BK155 := bb_ BK155 hb; replace BK156 := bb_ BK156 hb; replace HB := bs_ w hb; clear hb; replace hc156 := ce6_ BK156))
  refine bodyPost_ret (results_ct rfl _ _ gb156 28 #[.int .i64 0, .int .i64 0, .int .i64 0, .int .u64 0, .int .u64 0, .int .u64 0] (0, 0) _ rfl (bp6_ (bq_ BK156)) Try.underlying28 rfl (by kernel_rfl)) rfl ?_
  exact fi_

end Go.Proofs.Ytnijohomnajngaa.X
