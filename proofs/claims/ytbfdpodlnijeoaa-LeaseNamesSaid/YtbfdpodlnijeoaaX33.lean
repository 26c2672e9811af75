-- written by xprint.py, a program of this session over the kit's print
import Derived.Test.YtbfdpodlnijeoaaX0
import Derived.Test.YtbfdpodlnijeoaaX32
namespace Go.Proofs.Ytbfdpodlnijeoaa.X
open Go.RowKit Go.Proofs.YtbfdpodlnijeoaaW.PrintWords Go.Proofs.YtbfdpodlnijeoaaW.PrintLast Go.Proofs.YtbfdpodlnijeoaaW.PrintMore
attribute [local go_sem] max2_int min2_int max_two min_two max_three min_three max_four min_four   -- for this text's walks alone
set_option linter.unusedVariables false
set_option linter.unusedSimpArgs false

/-! ### wide_Cmp: function 38 -/
def wide_Cmp.f (k : Nat) (a0_0 : Int) (a0_1 : Int) (a1_0 : Int) (a1_1 : Int) : Option (Int) := (cmp_Compare_uint64.f a0_0 a1_0).bind fun t607 => ((cmp_Compare_uint64.f a0_1 a1_1).bind fun t608 => ((cmp_Or_int.f k (([t607, t608] : List Int))).bind fun t612 => (some t612)))
theorem wide_Cmp.mono : ∀ a0 a1 a2 a3 k, LeO (wide_Cmp.f k a0 a1 a2 a3) (wide_Cmp.f (k + 1) a0 a1 a2 a3) := by
  intro a0 a1 a2 a3 k
  unfold wide_Cmp.f
  repeat' first
      | (with_reducible exact cmp_Or_int.mono _ _)
      | (with_reducible exact LeO.refl _)
      | (with_reducible exact LeO.none _)
      | (with_reducible refine LeO.ite ?_ ?_)
      | (with_reducible refine LeO.bind ?_ (fun _ => ?_))
      | exact cmp_Or_int.mono _ _
      | exact LeO.none _
      | refine LeO.ite ?_ ?_
      | refine LeO.bind ?_ (fun _ => ?_)
def wide_Cmp.T1 : Bool × List (List Nat × List Nat) := (true, [([], []), ([0], [0]), ([], []), ([2], [2]), ([1, 3], [1, 3]), ([], []), ([5], [5]), ([], []), ([7], [7]), ([6, 8, 4], [6, 8]), ([4, 9], [4, 9]), ([10, 9], [10]), ([11, 11, 0, 1, 2, 3, 4, 5, 6, 7, 8, 9, 10, 11], [11])])
def wide_Cmp.B1 : List Nat := [0, 1, 0, 4, 15, 0, 32, 0, 128, 511, 1023, 2047, 4095]
theorem wide_Cmp.tab1 : rtab .any (opsOf Try.f38 1) = wide_Cmp.T1 := by kernel_rfl
theorem wide_Cmp.bits1 : waitsOk wide_Cmp.T1.2 wide_Cmp.B1 = true := by kernel_rfl
set_option maxHeartbeats 8000000 in
set_option maxRecDepth 100000 in
theorem wide_Cmp.calls (k : Nat) (a0_0 : Int) (a0_1 : Int) (a1_0 : Int) (a1_1 : Int) (r : Int) (w : World) (h : wide_Cmp.f k a0_0 a0_1 a1_0 a1_1 = some r) :
  Calls Try.prog 38 #[.agg #[.int .u64 a0_0, .int .u64 a0_1], .agg #[.int .u64 a1_0, .int .u64 a1_1]] w fun e w' => e = .returned (.int .i64 r) ∧ Below w.heap.size w w' := by
 have hu82 := Try.underlying82
 have HB := Aside0.mk (Below.refl w.heap.size w)
 have H : ((cmp_Compare_uint64.f a0_0 a1_0).bind fun t607 => ((cmp_Compare_uint64.f a0_1 a1_1).bind fun t608 => ((cmp_Or_int.f k (([t607, t608] : List Int))).bind fun t612 => (some t612)))) = some r := h
 clear h
 have H0_ := bo_ H; clear H; obtain ⟨t607, A3, H⟩ := H0_
 replace H : ((cmp_Compare_uint64.f a0_1 a1_1).bind fun t608 => ((cmp_Or_int.f k (([t607, t608] : List Int))).bind fun t612 => (some t612))) = some r := H
 have H0_ := bo_ H; clear H; obtain ⟨t608, A4, H⟩ := H0_
 replace H : ((cmp_Or_int.f k (([t607, t608] : List Int))).bind fun t612 => (some t612)) = some r := H
 obtain ⟨y609, hy609⟩ : ∃ y_ : List Int, y_ = (([t607, t608] : List Int)) := ⟨_, rfl⟩
 replace H : ((cmp_Or_int.f k y609).bind fun t612 => (some t612)) = some r := by first | (rw [hy609]; with_reducible exact H) | (have H2_ := (Option.bind_some _ _).symm.trans H; rw [hy609]; with_reducible exact H2_) | (have H2_ := (Option.bind_some _ _).symm.trans H; with_reducible exact H2_) | with_reducible exact H | (rw [hy609]; exact H) | exact H
 have Ny609 := Aside0.mk hy609
 clear hy609
 have H0_ := bo_ H; clear H; obtain ⟨t612, A5, H⟩ := H0_
 replace H : (some t612) = some r := H
 obtain rfl := Option.some.inj H
 go_enter Try.func38, Try.ntmps38
 try go_wp2_with (first | ((with_reducible refine gate_dst (N := 2) rfl ?_); refine bx_ #[.int .u64 a0_0, .int .u64 a0_1] 82 ?_; intro gb605 hg w6 BK605 hb; have GW605 := bz_ w hg; replace HB := bs_ w hb; clear hb hg) | ((with_reducible refine gate_dst (N := 3) rfl ?_); refine bx_ #[.int .u64 a1_0, .int .u64 a1_1] 82 ?_; intro gb606 hg w7 BK606 hb; have GW606 := bz_ w hg; have NB605_606 := bn_ BK605 hg; have NB606_605 := bm_ BK605 hg; replace BK605 := bb_ BK605 hb; replace HB := bs_ w hb; clear hb hg))
 replace BK605 := Aside0.mk (blk_drew BK605.out)
 replace BK606 := Aside0.mk (blk_drew BK606.out)
 replace HB := Aside0.mk (below_drew1 HB.out)
 refine start_ (n := 13) (S := fun w' => w'.cell? ⟨gb605, 0, none⟩ = some (.int .u64 a0_0) ∧ w'.cell? ⟨gb605, 1, none⟩ = some (.int .u64 a0_1) ∧ w'.cell? ⟨gb606, 0, none⟩ = some (.int .u64 a1_0) ∧ w'.cell? ⟨gb606, 1, none⟩ = some (.int .u64 a1_1)) (ds := []) (bl_ 13 0) (by kernel_rfl) rfl (by kernel_rfl) ⟨(blk_cell BK605.out 0).trans rfl, (blk_cell BK605.out 1).trans rfl, (blk_cell BK606.out 0).trans rfl, (blk_cell BK606.out 1).trans rfl⟩ (fun hHeld => ?_); refine with_tabW wide_Cmp.tab1 wide_Cmp.bits1 (fun HT_ HW_ => ?_)
 generalize w7.drew = w8 at BK605 BK606 HB hHeld ⊢
 refine pa_ 0 (some 5) (bl_ 13 1) HT_ ?_
 refine pa_ 2 (some 7) (bl_ 13 5) HT_ ?_
 refine pa_ 5 (some 10) (bl_ 13 37) HT_ ?_
 refine pa_ 7 (some 12) (bl_ 13 165) HT_ ?_
 refine ta_ 1 (some 6) (bl_ 13 167) HT_ HW_ hHeld ?_
 refine ta_ 3 (some 8) (bl_ 13 175) HT_ HW_ hHeld ?_
 refine ta_ 6 (some 11) (bl_ 13 239) HT_ HW_ hHeld ?_
 refine ta_ 8 (some 13) (bl_ 13 495) HT_ HW_ hHeld ?_
 refine oa_ 4 (some 9) (bl_ 13 511) HT_ fun K hK => ?_
 refine goesB_ Try.func52 #[.int .u64 a0_0, .int .u64 a1_0] ?_
 with_reducible refine (cmp_Compare_uint64.calls a0_0 a1_0 t607 _ A3.out).mono ?_
 rintro e w' ⟨rfl, ⟨nd, rfl⟩⟩
 refine ⟨_, rfl, ?_⟩
 refine hK.out _ _ ⟨(blk_cell BK605.out 0).trans rfl, (blk_cell BK605.out 1).trans rfl, (blk_cell BK606.out 0).trans rfl, (blk_cell BK606.out 1).trans rfl⟩ (fun hHeld => ?_)
 clear hK K
 refine nm_ (some 9) ?_
 refine oa_ 9 (some 14) (bl_ 13 1023) HT_ fun K hK => ?_
 refine goesB_ Try.func52 #[.int .u64 a0_1, .int .u64 a1_1] ?_
 with_reducible refine (cmp_Compare_uint64.calls a0_1 a1_1 t608 _ A4.out).mono ?_
 rintro e w' ⟨rfl, ⟨nd, rfl⟩⟩
 refine ⟨_, rfl, ?_⟩
 refine hK.out _ _ ⟨(blk_cell BK605.out 0).trans rfl, (blk_cell BK605.out 1).trans rfl, (blk_cell BK606.out 0).trans rfl, (blk_cell BK606.out 1).trans rfl⟩ (fun hHeld => ?_)
 clear hK K
 refine nm_ (some 14) ?_
 refine oa_ 10 (some 15) (bl_ 13 2047) HT_ fun K hK => ?_
 refine Kd.R_lit_step (Kd.int .i64) _ 3 ?hg (N := 15) ?hd (xs := ([t607, t608] : List Int)) (inner := [.int .i64 t607, .int .i64 t608]) (ok := fun _ => True) (okp := fun _ => True) ?hr ?hp (fun _ hk => hk) trivial (Below.refl _ _) (Nat.le_refl _) (by simp) ?_; (case hd => rfl); (case hg => rfl); (case hr => first | (go_simp; done) | (go_simp; rfl)); (case hp => exact (Reps.one (show Kd.M (Kd.int .i64) _ _ _ t607 [.int .i64 t607] from rfl) (Reps.one (show Kd.M (Kd.int .i64) _ _ _ t608 [.int .i64 t608] from rfl) (Reps.none _ _))))
 intro v610 w9 ho10 hb hg_ hnew_
 clear hg_ hnew_
 (first | rw [← Ny609.out] at ho10 | (simp only [Int.reduceToNat] at ho10; rw [← Ny609.out] at ho10))
 have HO611 := Aside0.mk (Kd.R_lower ho10 (below_size bh_))
 replace BK605 := bb_ BK605 hb
 replace BK606 := bb_ BK606 hb
 replace HB := bs_ w hb
 clear hb ho10
 obtain ⟨Ao11, co11, eo11⟩ := Kd.R_slice HO611.out
 (first | subst eo11 | (injection eo11 with f1_ f2_ f3_; have f4_ := f1_.symm; have f5_ := f3_.symm; clear f1_ f2_ f3_; subst f4_; subst f5_))
 refine hK.out _ _ ⟨(blk_cell BK605.out 0).trans rfl, (blk_cell BK605.out 1).trans rfl, (blk_cell BK606.out 0).trans rfl, (blk_cell BK606.out 1).trans rfl⟩ (fun hHeld => ?_)
 clear hK K
 refine nm_ (some 15) ?_
 refine oa_ 11 (some 16) (bl_ 13 4095) HT_ fun K hK => ?_
 refine goesB_ Try.func51 #[.slice Ao11 y609.length co11] ?_
 with_reducible refine (cmp_Or_int.calls k _ _ y609 t612 _ ?side1 ?side2 A5.out).mono ?_
 (case side1 => exact cr_ HO611)
 (case side2 => exact (Kd.R_reads' HO611.out).2.1)
 rintro e w' ⟨rfl, ⟨nd, rfl⟩⟩
 refine ⟨_, rfl, ?_⟩
 refine hK.out _ _ ⟨(blk_cell BK605.out 0).trans rfl, (blk_cell BK605.out 1).trans rfl, (blk_cell BK606.out 0).trans rfl, (blk_cell BK606.out 1).trans rfl⟩ (fun hHeld => ?_)
 clear hK K
 refine nm_ (some 16) ?_
 refine pa_ 12 (some 4) (bl_ 13 8191) HT_ ?_
 refine done_ (done_of HT_.out (by kernel_rfl)) ?_
 try go_wp2
 go_ret
 exact fi_

end Go.Proofs.Ytbfdpodlnijeoaa.X
