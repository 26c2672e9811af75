-- written by xprint.py, a program of this session over the kit's print
import Derived.Test.YtiifhbaabnpkeaaX0
import Derived.Test.YtiifhbaabnpkeaaX19
namespace Go.Proofs.Ytiifhbaabnpkeaa.X
open Go.RowKit Go.Proofs.YtiifhbaabnpkeaaW.PrintWords Go.Proofs.YtiifhbaabnpkeaaW.PrintLast Go.Proofs.YtiifhbaabnpkeaaW.PrintMore
attribute [local go_sem] max2_int min2_int max_two min_two max_three min_three max_four min_four   -- for this text's walks alone
set_option linter.unusedVariables false
set_option linter.unusedSimpArgs false

/-! ### wide_Cmp: function 24 -/
def wide_Cmp.f (k : Nat) (a0_0 : Int) (a0_1 : Int) (a1_0 : Int) (a1_1 : Int) : Option (Int) := (cmp_Compare_uint64.f a0_0 a1_0).bind fun t247 => ((cmp_Compare_uint64.f a0_1 a1_1).bind fun t248 => ((cmp_Or_int.f k (([t247, t248] : List Int))).bind fun t252 => (some t252)))
theorem wide_Cmp.mono : ∀ a0 a1 a2 a3 k, LeO (wide_Cmp.f k a0 a1 a2 a3) (wide_Cmp.f (k + 1) a0 a1 a2 a3) := by
  intro a0 a1 a2 a3 k
  unfold wide_Cmp.f
  repeat' first
      | (with_reducible exact cmp_Or_int.mono _ _)
      | (with_reducible exact LeO.refl _)
      | (with_reducible exact LeO.none _)
      | (with_reducible refine LeO.ite ?_ ?_)
      | (with_reducible refine LeO.bind ?_ (fun _ => ?_))
      | exact cmp_Or_int.mono _ _
      | exact LeO.none _
      | refine LeO.ite ?_ ?_
      | refine LeO.bind ?_ (fun _ => ?_)
def wide_Cmp.T1 : Bool × List (List Nat × List Nat) := (true, [([], []), ([0], [0]), ([], []), ([2], [2]), ([1, 3], [1, 3]), ([], []), ([5], [5]), ([], []), ([7], [7]), ([6, 8, 4], [6, 8]), ([4, 9], [4, 9]), ([10, 9], [10]), ([11, 11, 0, 1, 2, 3, 4, 5, 6, 7, 8, 9, 10, 11], [11])])
def wide_Cmp.B1 : List Nat := [0, 1, 0, 4, 15, 0, 32, 0, 128, 511, 1023, 2047, 4095]
theorem wide_Cmp.tab1 : rtab .any (opsOf Try.f24 1) = wide_Cmp.T1 := by kernel_rfl
theorem wide_Cmp.bits1 : waitsOk wide_Cmp.T1.2 wide_Cmp.B1 = true := by kernel_rfl
set_option maxHeartbeats 8000000 in
set_option maxRecDepth 100000 in
theorem wide_Cmp.calls (k : Nat) (a0_0 : Int) (a0_1 : Int) (a1_0 : Int) (a1_1 : Int) (r : Int) (w : World) (h : wide_Cmp.f k a0_0 a0_1 a1_0 a1_1 = some r) :
  Calls Try.prog 24 #[.agg #[.int .u64 a0_0, .int .u64 a0_1], .agg #[.int .u64 a1_0, .int .u64 a1_1]] w fun e w' => e = .returned (.int .i64 r) ∧ Below w.heap.size w w' := by
 have hu59 := Try.underlying59
 have HB := Aside0.mk (Below.refl w.heap.size w)
 have H : ((cmp_Compare_uint64.f a0_0 a1_0).bind fun t247 => ((cmp_Compare_uint64.f a0_1 a1_1).bind fun t248 => ((cmp_Or_int.f k (([t247, t248] : List Int))).bind fun t252 => (some t252)))) = some r := h
 clear h
 have H0_ := bo_ H; clear H; obtain ⟨t247, A3, H⟩ := H0_
 replace H : ((cmp_Compare_uint64.f a0_1 a1_1).bind fun t248 => ((cmp_Or_int.f k (([t247, t248] : List Int))).bind fun t252 => (some t252))) = some r := H
 have H0_ := bo_ H; clear H; obtain ⟨t248, A4, H⟩ := H0_
 replace H : ((cmp_Or_int.f k (([t247, t248] : List Int))).bind fun t252 => (some t252)) = some r := H
 obtain ⟨y249, hy249⟩ : ∃ y_ : List Int, y_ = (([t247, t248] : List Int)) := ⟨_, rfl⟩
 replace H : ((cmp_Or_int.f k y249).bind fun t252 => (some t252)) = some r := by first | (rw [hy249]; with_reducible exact H) | (have H2_ := (Option.bind_some _ _).symm.trans H; rw [hy249]; with_reducible exact H2_) | (have H2_ := (Option.bind_some _ _).symm.trans H; with_reducible exact H2_) | with_reducible exact H | (rw [hy249]; exact H) | exact H
 have Ny249 := Aside0.mk hy249
 clear hy249
 have H0_ := bo_ H; clear H; obtain ⟨t252, A5, H⟩ := H0_
 replace H : (some t252) = some r := H
 obtain rfl := Option.some.inj H
 go_enter Try.func24, Try.ntmps24
 try go_wp2_with (first | ((with_reducible refine gate_dst (N := 2) rfl ?_); refine bx_ #[.int .u64 a0_0, .int .u64 a0_1] 59 ?_; intro gb245 hg w6 BK245 hb; have GW245 := bz_ w hg; replace HB := bs_ w hb; clear hb hg) | ((with_reducible refine gate_dst (N := 3) rfl ?_); refine bx_ #[.int .u64 a1_0, .int .u64 a1_1] 59 ?_; intro gb246 hg w7 BK246 hb; have GW246 := bz_ w hg; have NB245_246 := bn_ BK245 hg; have NB246_245 := bm_ BK245 hg; replace BK245 := bb_ BK245 hb; replace HB := bs_ w hb; clear hb hg))
 replace BK245 := Aside0.mk (blk_drew BK245.out)
 replace BK246 := Aside0.mk (blk_drew BK246.out)
 replace HB := Aside0.mk (below_drew1 HB.out)
 refine start_ (n := 13) (S := fun w' => w'.cell? ⟨gb245, 0, none⟩ = some (.int .u64 a0_0) ∧ w'.cell? ⟨gb245, 1, none⟩ = some (.int .u64 a0_1) ∧ w'.cell? ⟨gb246, 0, none⟩ = some (.int .u64 a1_0) ∧ w'.cell? ⟨gb246, 1, none⟩ = some (.int .u64 a1_1)) (ds := []) (bl_ 13 0) (by kernel_rfl) rfl (by kernel_rfl) ⟨(blk_cell BK245.out 0).trans rfl, (blk_cell BK245.out 1).trans rfl, (blk_cell BK246.out 0).trans rfl, (blk_cell BK246.out 1).trans rfl⟩ (fun hHeld => ?_); refine with_tabW wide_Cmp.tab1 wide_Cmp.bits1 (fun HT_ HW_ => ?_)
 generalize w7.drew = w8 at BK245 BK246 HB hHeld ⊢
 refine pa_ 0 (some 5) (bl_ 13 1) HT_ ?_
 refine pa_ 2 (some 7) (bl_ 13 5) HT_ ?_
 refine pa_ 5 (some 10) (bl_ 13 37) HT_ ?_
 refine pa_ 7 (some 12) (bl_ 13 165) HT_ ?_
 refine ta_ 1 (some 6) (bl_ 13 167) HT_ HW_ hHeld ?_
 refine ta_ 3 (some 8) (bl_ 13 175) HT_ HW_ hHeld ?_
 refine ta_ 6 (some 11) (bl_ 13 239) HT_ HW_ hHeld ?_
 refine ta_ 8 (some 13) (bl_ 13 495) HT_ HW_ hHeld ?_
 refine oa_ 4 (some 9) (bl_ 13 511) HT_ fun K hK => ?_
 refine goesB_ Try.func39 #[.int .u64 a0_0, .int .u64 a1_0] ?_
 with_reducible refine (cmp_Compare_uint64.calls a0_0 a1_0 t247 _ A3.out).mono ?_
 rintro e w' ⟨rfl, ⟨nd, rfl⟩⟩
 refine ⟨_, rfl, ?_⟩
 refine hK.out _ _ ⟨(blk_cell BK245.out 0).trans rfl, (blk_cell BK245.out 1).trans rfl, (blk_cell BK246.out 0).trans rfl, (blk_cell BK246.out 1).trans rfl⟩ (fun hHeld => ?_)
 clear hK K
 refine nm_ (some 9) ?_
 refine oa_ 9 (some 14) (bl_ 13 1023) HT_ fun K hK => ?_
 refine goesB_ Try.func39 #[.int .u64 a0_1, .int .u64 a1_1] ?_
 with_reducible refine (cmp_Compare_uint64.calls a0_1 a1_1 t248 _ A4.out).mono ?_
 rintro e w' ⟨rfl, ⟨nd, rfl⟩⟩
 refine ⟨_, rfl, ?_⟩
 refine hK.out _ _ ⟨(blk_cell BK245.out 0).trans rfl, (blk_cell BK245.out 1).trans rfl, (blk_cell BK246.out 0).trans rfl, (blk_cell BK246.out 1).trans rfl⟩ (fun hHeld => ?_)
 clear hK K
 refine nm_ (some 14) ?_
 refine oa_ 10 (some 15) (bl_ 13 2047) HT_ fun K hK => ?_
 refine Kd.R_lit_step (Kd.int .i64) _ 3 ?hg (N := 15) ?hd (xs := ([t247, t248] : List Int)) (inner := [.int .i64 t247, .int .i64 t248]) (ok := fun _ => True) (okp := fun _ => True) ?hr ?hp (fun _ hk => hk) trivial (Below.refl _ _) (Nat.le_refl _) (by simp) ?_; (case hd => rfl); (case hg => rfl); (case hr => first | (go_simp; done) | (go_simp; rfl)); (case hp => exact (Reps.one (show Kd.M (Kd.int .i64) _ _ _ t247 [.int .i64 t247] from rfl) (Reps.one (show Kd.M (Kd.int .i64) _ _ _ t248 [.int .i64 t248] from rfl) (Reps.none _ _))))
 intro v250 w9 ho10 hb hg_ hnew_
 clear hg_ hnew_
 (first | rw [← Ny249.out] at ho10 | (simp only [Int.reduceToNat] at ho10; rw [← Ny249.out] at ho10))
 have HO251 := Aside0.mk (Kd.R_lower ho10 (below_size bh_))
 replace BK245 := bb_ BK245 hb
 replace BK246 := bb_ BK246 hb
 replace HB := bs_ w hb
 clear hb ho10
 obtain ⟨Ao11, co11, eo11⟩ := Kd.R_slice HO251.out
 (first | subst eo11 | (injection eo11 with f1_ f2_ f3_; have f4_ := f1_.symm; have f5_ := f3_.symm; clear f1_ f2_ f3_; subst f4_; subst f5_))
 refine hK.out _ _ ⟨(blk_cell BK245.out 0).trans rfl, (blk_cell BK245.out 1).trans rfl, (blk_cell BK246.out 0).trans rfl, (blk_cell BK246.out 1).trans rfl⟩ (fun hHeld => ?_)
 clear hK K
 refine nm_ (some 15) ?_
 refine oa_ 11 (some 16) (bl_ 13 4095) HT_ fun K hK => ?_
 refine goesB_ Try.func38 #[.slice Ao11 y249.length co11] ?_
 with_reducible refine (cmp_Or_int.calls k _ _ y249 t252 _ ?side1 ?side2 A5.out).mono ?_
 (case side1 => exact cr_ HO251)
 (case side2 => exact (Kd.R_reads' HO251.out).2.1)
 rintro e w' ⟨rfl, ⟨nd, rfl⟩⟩
 refine ⟨_, rfl, ?_⟩
 refine hK.out _ _ ⟨(blk_cell BK245.out 0).trans rfl, (blk_cell BK245.out 1).trans rfl, (blk_cell BK246.out 0).trans rfl, (blk_cell BK246.out 1).trans rfl⟩ (fun hHeld => ?_)
 clear hK K
 refine nm_ (some 16) ?_
 refine pa_ 12 (some 4) (bl_ 13 8191) HT_ ?_
 refine done_ (done_of HT_.out (by kernel_rfl)) ?_
 try go_wp2
 go_ret
 exact fi_

end Go.Proofs.Ytiifhbaabnpkeaa.X
