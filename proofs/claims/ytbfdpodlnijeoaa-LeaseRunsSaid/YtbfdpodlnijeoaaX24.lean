-- written by xprint.py, a program of this session over the kit's print
import Derived.Test.YtbfdpodlnijeoaaX0
namespace Go.Proofs.Ytbfdpodlnijeoaa.X
open Go.RowKit Go.Proofs.YtbfdpodlnijeoaaW.PrintWords Go.Proofs.YtbfdpodlnijeoaaW.PrintLast Go.Proofs.YtbfdpodlnijeoaaW.PrintMore
attribute [local go_sem] max2_int min2_int max_two min_two max_three min_three max_four min_four   -- for this text's walks alone
set_option linter.unusedVariables false
set_option linter.unusedSimpArgs false

/-! ### spigotref42_Twin: function 22 -/
def spigotref42_Twin.f (a0_0 : Int) (a0_1 : Int) (a0_2 : Int) (a0_3 : Int) (a0_4 : Int) (a0_5 : Int) (a0_6 : Int) (l0_7 : List Int) : Option (Int × Int × Int × Int × Int × Int × Int × List Int) := (some (([] : List Int) : List Int)).bind fun y368 => (if y368.length + l0_7.length < 17592186044416 then (some (a0_0, a0_1, a0_2, a0_3, a0_4, a0_5, a0_6, (y368 ++ l0_7))) else (none))
def spigotref42_Twin.T1 : Bool × List (List Nat × List Nat) := (true, [([], []), ([0], [0]), ([], []), ([2], [2]), ([], []), ([], []), ([5], [5]), ([4, 6], [4, 6]), ([1, 3, 7], [1, 3, 7]), ([8, 7, 0, 1, 2, 3, 4, 5, 6, 7, 8], [8])])
def spigotref42_Twin.B1 : List Nat := [0, 1, 0, 4, 0, 0, 32, 112, 255, 511]
theorem spigotref42_Twin.tab1 : rtab .any (opsOf Try.f22 1) = spigotref42_Twin.T1 := by kernel_rfl
theorem spigotref42_Twin.bits1 : waitsOk spigotref42_Twin.T1.2 spigotref42_Twin.B1 = true := by kernel_rfl
set_option maxHeartbeats 8000000 in
set_option maxRecDepth 100000 in
theorem spigotref42_Twin.calls (a0_0 : Int) (a0_1 : Int) (a0_2 : Int) (a0_3 : Int) (a0_4 : Int) (a0_5 : Int) (a0_6 : Int) (A0_7 : Option Addr) (c0_7 : Nat) (l0_7 : List Int) (r1 : Int) (r2 : Int) (r3 : Int) (r4 : Int) (r5 : Int) (r6 : Int) (r7 : Int) (r8 : List Int) (w : World) (hr0_7 : Kd.C (Kd.int .i64) w A0_7 l0_7.length l0_7) (hc0_7 : l0_7.length ≤ c0_7) (h : spigotref42_Twin.f a0_0 a0_1 a0_2 a0_3 a0_4 a0_5 a0_6 l0_7 = some (r1, r2, r3, r4, r5, r6, r7, r8)) :
  Calls Try.prog 22 #[.agg #[.int .i64 a0_0, .int .i64 a0_1, .int .i64 a0_2, .int .i64 a0_3, .int .i64 a0_4, .int .u64 a0_5, .int .i64 a0_6, .slice A0_7 l0_7.length c0_7]] w fun e w' => ∃ v7_ : Value, e = .returned (.agg #[.int .i64 r1, .int .i64 r2, .int .i64 r3, .int .i64 r4, .int .i64 r5, .int .u64 r6, .int .i64 r7, v7_]) ∧ Kd.R (Kd.int .i64) 2 w' w.heap.size (fun _ => True) v7_ r8 ∧ Below w.heap.size w w' := by
 have hu29 := Try.underlying29
 have hu26 := Try.underlying26
 have HR0_7 := Aside0.mk hr0_7
 have HC0_7 := Aside0.mk hc0_7
 clear hr0_7 hc0_7
 have HB := Aside0.mk (Below.refl w.heap.size w)
 have H : ((some (([] : List Int) : List Int)).bind fun y368 => (if y368.length + l0_7.length < 17592186044416 then (some (a0_0, a0_1, a0_2, a0_3, a0_4, a0_5, a0_6, (y368 ++ l0_7))) else (none))) = some (r1, r2, r3, r4, r5, r6, r7, r8) := h
 clear h
 obtain ⟨y368, hy368⟩ : ∃ y_ : List Int, y_ = (([] : List Int)) := ⟨_, rfl⟩
 replace H : (if y368.length + l0_7.length < 17592186044416 then (some (a0_0, a0_1, a0_2, a0_3, a0_4, a0_5, a0_6, (y368 ++ l0_7))) else (none)) = some (r1, r2, r3, r4, r5, r6, r7, r8) := by first | (rw [hy368]; with_reducible exact H) | (have H2_ := (Option.bind_some _ _).symm.trans H; rw [hy368]; with_reducible exact H2_) | (have H2_ := (Option.bind_some _ _).symm.trans H; with_reducible exact H2_) | with_reducible exact H | (rw [hy368]; exact H) | exact H
 have Ny368 := Aside0.mk hy368
 clear hy368
 by_cases c2 : y368.length + l0_7.length < 17592186044416
 rotate_left
 ·rw [if_neg c2] at H; exact absurd H (by simp)
 rw [if_pos c2] at H
 have LMc2 := Aside0.mk c2
 clear c2
 obtain ⟨y371, hy371⟩ : ∃ y_ : List Int, y_ = (y368 ++ l0_7) := ⟨_, rfl⟩
 replace H : (some (a0_0, a0_1, a0_2, a0_3, a0_4, a0_5, a0_6, y371)) = some (r1, r2, r3, r4, r5, r6, r7, r8) := by first | (rw [hy371]; with_reducible exact H) | (have H2_ := (Option.bind_some _ _).symm.trans H; rw [hy371]; with_reducible exact H2_) | (have H2_ := (Option.bind_some _ _).symm.trans H; with_reducible exact H2_) | with_reducible exact H | (rw [hy371]; exact H) | exact H
 have Ny371 := Aside0.mk hy371
 clear hy371
 simp only [Option.some.injEq, Prod.mk.injEq] at H
 obtain ⟨rfl, rfl, rfl, rfl, rfl, rfl, rfl, rfl⟩ := H
 go_enter Try.func22, Try.ntmps22
 try go_wp2_with (first | ((with_reducible refine gate_dst (N := 1) rfl ?_); refine bx_ #[.int .i64 a0_0, .int .i64 a0_1, .int .i64 a0_2, .int .i64 a0_3, .int .i64 a0_4, .int .u64 a0_5, .int .i64 a0_6, .slice A0_7 l0_7.length c0_7] 29 ?_; intro gb366 hg w3 BK366 hb; have GW366 := bz_ w hg; have GE366 := GW366; replace HB := bs_ w hb; clear hb hg) | ((with_reducible refine gate_dst (N := 2) rfl ?_); refine bx_ #[.int .i64 0, .int .i64 0, .int .i64 0, .int .i64 0, .int .i64 0, .int .u64 0, .int .i64 0, .slice none 0 0] 29 ?_; intro gb367 hg w4 BK367 hb; have GW367 := bz_ w hg; have GE367 := GW367; have NB366_367 := bn_ BK366 hg; have NB367_366 := bm_ BK366 hg; replace BK366 := bb_ BK366 hb; replace HB := bs_ w hb; clear hb hg))
 replace BK366 := Aside0.mk (blk_drew BK366.out)
 replace BK367 := Aside0.mk (blk_drew BK367.out)
 replace HB := Aside0.mk (below_drew1 HB.out)
 refine start_ (n := 10) (S := fun w' => w'.cell? ⟨gb366, 0, none⟩ = some (.int .i64 a0_0) ∧ w'.cell? ⟨gb366, 1, none⟩ = some (.int .i64 a0_1) ∧ w'.cell? ⟨gb366, 2, none⟩ = some (.int .i64 a0_2) ∧ w'.cell? ⟨gb366, 3, none⟩ = some (.int .i64 a0_3) ∧ w'.cell? ⟨gb366, 4, none⟩ = some (.int .i64 a0_4) ∧ w'.cell? ⟨gb366, 5, none⟩ = some (.int .u64 a0_5) ∧ w'.cell? ⟨gb366, 6, none⟩ = some (.int .i64 a0_6) ∧ w'.cell? ⟨gb366, 7, none⟩ = some (.slice A0_7 l0_7.length c0_7)) (ds := []) (bl_ 10 0) (by kernel_rfl) rfl (by kernel_rfl) ⟨(blk_cell BK366.out 0).trans rfl, (blk_cell BK366.out 1).trans rfl, (blk_cell BK366.out 2).trans rfl, (blk_cell BK366.out 3).trans rfl, (blk_cell BK366.out 4).trans rfl, (blk_cell BK366.out 5).trans rfl, (blk_cell BK366.out 6).trans rfl, (blk_cell BK366.out 7).trans rfl⟩ (fun hHeld => ?_); refine with_tabW spigotref42_Twin.tab1 spigotref42_Twin.bits1 (fun HT_ HW_ => ?_)
 generalize w4.drew = w5 at BK366 BK367 HB hHeld ⊢
 refine pa_ 0 (some 3) (bl_ 10 1) HT_ ?_
 refine pa_ 2 (some 5) (bl_ 10 5) HT_ ?_
 refine pa_ 5 (some 8) (bl_ 10 37) HT_ ?_
 refine ta_ 1 (some 4) (bl_ 10 39) HT_ HW_ hHeld ?_
 refine ta_ 3 (some 6) (bl_ 10 47) HT_ HW_ hHeld ?_
 refine ta_ 6 (some 9) (bl_ 10 111) HT_ HW_ hHeld ?_
 refine oa_ 4 (some 7) (bl_ 10 127) HT_ fun K hK => ?_
 refine Kd.R_lit_step (Kd.int .i64) _ 2 ?hg (N := 7) ?hd (xs := ([] : List Int)) (inner := []) (ok := fun _ => True) (okp := fun _ => True) ?hr ?hp (fun _ hk => hk) trivial (Below.refl _ _) (Nat.le_refl _) (by simp) ?_; (case hd => rfl); (case hg => rfl); (case hr => first | (go_simp; done) | (go_simp; rfl)); (case hp => exact (Reps.none _ _))
 intro v369 w6 ho7 hb hg_ hnew_
 clear hg_ hnew_
 (first | rw [← Ny368.out] at ho7 | (simp only [Int.reduceToNat] at ho7; rw [← Ny368.out] at ho7))
 have HO370 := Aside0.mk (Kd.R_lower ho7 (below_size bh_))
 replace BK366 := bb_ BK366 hb
 replace BK367 := bb_ BK367 hb
 replace HB := bs_ w hb
 clear hb ho7
 refine hK.out _ _ ⟨(blk_cell BK366.out 0).trans rfl, (blk_cell BK366.out 1).trans rfl, (blk_cell BK366.out 2).trans rfl, (blk_cell BK366.out 3).trans rfl, (blk_cell BK366.out 4).trans rfl, (blk_cell BK366.out 5).trans rfl, (blk_cell BK366.out 6).trans rfl, (blk_cell BK366.out 7).trans rfl⟩ (fun hHeld => ?_)
 clear hK K
 refine nm_ (some 7) ?_
 refine oa_ 7 (some 10) (bl_ 10 255) HT_ fun K hK => ?_
 refine Kd.R_append_rows_step (Kd.int .i64) (w0 := w) w.heap.size (by rfl) (.tmp 7) (.tmp 9) 27 2 (.int .i64 0) 8 rfl Try.underlying27 info2 rfl (by decide) (by omega) v369 y368 l0_7 _ _ _ (fun _ => True) (fun _ => False) rfl rfl ?aO ?aR (fun _ _ h => h) (fun _ h => h.elim) ?aF ?aB ?aS ?aL ?_
 (case aR => exact cs_ HR0_7 HB)
 (case aB => exact bh_)
 (case aF => exact (fun _ _ => trivial))
 (case aO => exact (rs_ HO370))
 (case aS => exact (below_size bh_))
 (case aL => have := LMc2.out; omega)
 intro v372 w8 ho hb hg hat
 rw [← Ny371.out] at ho
 have HO373 := Aside0.mk (ho)
 replace BK366 := Aside0.mk (blk_grown (g := gb366) (o := .cells #[.int .i64 a0_0, .int .i64 a0_1, .int .i64 a0_2, .int .i64 a0_3, .int .i64 a0_4, .int .u64 a0_5, .int .i64 a0_6, .slice A0_7 l0_7.length c0_7] 29 (0, 0)) (bq_ BK366) hg (Kd.R_ne HO370.out BK366.out (by decide)))
 replace BK367 := Aside0.mk (blk_grown (g := gb367) (o := .cells #[.int .i64 0, .int .i64 0, .int .i64 0, .int .i64 0, .int .i64 0, .int .u64 0, .int .i64 0, .slice none 0 0] 29 (0, 0)) (bq_ BK367) hg (Kd.R_ne HO370.out BK367.out (by decide)))
 replace HB := Aside0.mk (hb)
 clear HO370
 clear ho hb hg hat
 obtain ⟨Ao9, co9, eo9⟩ := Kd.R_slice HO373.out
 (first | subst eo9 | (injection eo9 with f1_ f2_ f3_; have f4_ := f1_.symm; have f5_ := f3_.symm; clear f1_ f2_ f3_; subst f4_; subst f5_))
 refine hK.out _ _ ⟨(blk_cell BK366.out 0).trans rfl, (blk_cell BK366.out 1).trans rfl, (blk_cell BK366.out 2).trans rfl, (blk_cell BK366.out 3).trans rfl, (blk_cell BK366.out 4).trans rfl, (blk_cell BK366.out 5).trans rfl, (blk_cell BK366.out 6).trans rfl, (blk_cell BK366.out 7).trans rfl⟩ (fun hHeld => ?_)
 clear hK K
 refine nm_ (some 10) ?_
 refine pa_ 8 (some 11) (bl_ 10 511) HT_ ?_
 refine oa_ 9 none (bl_ 10 1023) HT_ fun K hK => ?_
 have hs10 : w8.cell? ⟨gb367, 0, none⟩ = some (.int .i64 0) := (blk_cell BK367.out 0).trans rfl
 have hfs10 := blk_frozen BK367.out 0
 have hns10_0 := NB366_367.out
 have hms10_0 := NB367_366.out
 have hs11 : w8.cell? ⟨gb367, 1, none⟩ = some (.int .i64 0) := (blk_cell BK367.out 1).trans rfl
 have hfs11 := blk_frozen BK367.out 1
 have hns11_0 := NB366_367.out
 have hms11_0 := NB367_366.out
 have hs12 : w8.cell? ⟨gb367, 2, none⟩ = some (.int .i64 0) := (blk_cell BK367.out 2).trans rfl
 have hfs12 := blk_frozen BK367.out 2
 have hns12_0 := NB366_367.out
 have hms12_0 := NB367_366.out
 have hs13 : w8.cell? ⟨gb367, 3, none⟩ = some (.int .i64 0) := (blk_cell BK367.out 3).trans rfl
 have hfs13 := blk_frozen BK367.out 3
 have hns13_0 := NB366_367.out
 have hms13_0 := NB367_366.out
 have hs14 : w8.cell? ⟨gb367, 4, none⟩ = some (.int .i64 0) := (blk_cell BK367.out 4).trans rfl
 have hfs14 := blk_frozen BK367.out 4
 have hns14_0 := NB366_367.out
 have hms14_0 := NB367_366.out
 have hs15 : w8.cell? ⟨gb367, 5, none⟩ = some (.int .u64 0) := (blk_cell BK367.out 5).trans rfl
 have hfs15 := blk_frozen BK367.out 5
 have hns15_0 := NB366_367.out
 have hms15_0 := NB367_366.out
 have hs16 : w8.cell? ⟨gb367, 6, none⟩ = some (.int .i64 0) := (blk_cell BK367.out 6).trans rfl
 have hfs16 := blk_frozen BK367.out 6
 have hns16_0 := NB366_367.out
 have hms16_0 := NB367_366.out
 have hs17 : w8.cell? ⟨gb367, 7, none⟩ = some (.slice none 0 0) := (blk_cell BK367.out 7).trans rfl
 have hfs17 := blk_frozen BK367.out 7
 have hns17_0 := NB366_367.out
 have hms17_0 := NB367_366.out
 refine sk_ ?_
 refine hK.out _ _ ⟨((cell_far (p := ⟨gb367, _, none⟩) NB366_367.out _).trans (((cell_far (p := ⟨gb367, _, none⟩) NB366_367.out _).trans (((cell_far (p := ⟨gb367, _, none⟩) NB366_367.out _).trans (((cell_far (p := ⟨gb367, _, none⟩) NB366_367.out _).trans (((cell_far (p := ⟨gb367, _, none⟩) NB366_367.out _).trans (((cell_far (p := ⟨gb367, _, none⟩) NB366_367.out _).trans (((cell_far (p := ⟨gb367, _, none⟩) NB366_367.out _).trans (((cell_far (p := ⟨gb367, _, none⟩) NB366_367.out _).trans (hHeld.1)))))))))))))))), ((cell_far (p := ⟨gb367, _, none⟩) NB366_367.out _).trans (((cell_far (p := ⟨gb367, _, none⟩) NB366_367.out _).trans (((cell_far (p := ⟨gb367, _, none⟩) NB366_367.out _).trans (((cell_far (p := ⟨gb367, _, none⟩) NB366_367.out _).trans (((cell_far (p := ⟨gb367, _, none⟩) NB366_367.out _).trans (((cell_far (p := ⟨gb367, _, none⟩) NB366_367.out _).trans (((cell_far (p := ⟨gb367, _, none⟩) NB366_367.out _).trans (((cell_far (p := ⟨gb367, _, none⟩) NB366_367.out _).trans (hHeld.2.1)))))))))))))))), ((cell_far (p := ⟨gb367, _, none⟩) NB366_367.out _).trans (((cell_far (p := ⟨gb367, _, none⟩) NB366_367.out _).trans (((cell_far (p := ⟨gb367, _, none⟩) NB366_367.out _).trans (((cell_far (p := ⟨gb367, _, none⟩) NB366_367.out _).trans (((cell_far (p := ⟨gb367, _, none⟩) NB366_367.out _).trans (((cell_far (p := ⟨gb367, _, none⟩) NB366_367.out _).trans (((cell_far (p := ⟨gb367, _, none⟩) NB366_367.out _).trans (((cell_far (p := ⟨gb367, _, none⟩) NB366_367.out _).trans (hHeld.2.2.1)))))))))))))))), ((cell_far (p := ⟨gb367, _, none⟩) NB366_367.out _).trans (((cell_far (p := ⟨gb367, _, none⟩) NB366_367.out _).trans (((cell_far (p := ⟨gb367, _, none⟩) NB366_367.out _).trans (((cell_far (p := ⟨gb367, _, none⟩) NB366_367.out _).trans (((cell_far (p := ⟨gb367, _, none⟩) NB366_367.out _).trans (((cell_far (p := ⟨gb367, _, none⟩) NB366_367.out _).trans (((cell_far (p := ⟨gb367, _, none⟩) NB366_367.out _).trans (((cell_far (p := ⟨gb367, _, none⟩) NB366_367.out _).trans (hHeld.2.2.2.1)))))))))))))))), ((cell_far (p := ⟨gb367, _, none⟩) NB366_367.out _).trans (((cell_far (p := ⟨gb367, _, none⟩) NB366_367.out _).trans (((cell_far (p := ⟨gb367, _, none⟩) NB366_367.out _).trans (((cell_far (p := ⟨gb367, _, none⟩) NB366_367.out _).trans (((cell_far (p := ⟨gb367, _, none⟩) NB366_367.out _).trans (((cell_far (p := ⟨gb367, _, none⟩) NB366_367.out _).trans (((cell_far (p := ⟨gb367, _, none⟩) NB366_367.out _).trans (((cell_far (p := ⟨gb367, _, none⟩) NB366_367.out _).trans (hHeld.2.2.2.2.1)))))))))))))))), ((cell_far (p := ⟨gb367, _, none⟩) NB366_367.out _).trans (((cell_far (p := ⟨gb367, _, none⟩) NB366_367.out _).trans (((cell_far (p := ⟨gb367, _, none⟩) NB366_367.out _).trans (((cell_far (p := ⟨gb367, _, none⟩) NB366_367.out _).trans (((cell_far (p := ⟨gb367, _, none⟩) NB366_367.out _).trans (((cell_far (p := ⟨gb367, _, none⟩) NB366_367.out _).trans (((cell_far (p := ⟨gb367, _, none⟩) NB366_367.out _).trans (((cell_far (p := ⟨gb367, _, none⟩) NB366_367.out _).trans (hHeld.2.2.2.2.2.1)))))))))))))))), ((cell_far (p := ⟨gb367, _, none⟩) NB366_367.out _).trans (((cell_far (p := ⟨gb367, _, none⟩) NB366_367.out _).trans (((cell_far (p := ⟨gb367, _, none⟩) NB366_367.out _).trans (((cell_far (p := ⟨gb367, _, none⟩) NB366_367.out _).trans (((cell_far (p := ⟨gb367, _, none⟩) NB366_367.out _).trans (((cell_far (p := ⟨gb367, _, none⟩) NB366_367.out _).trans (((cell_far (p := ⟨gb367, _, none⟩) NB366_367.out _).trans (((cell_far (p := ⟨gb367, _, none⟩) NB366_367.out _).trans (hHeld.2.2.2.2.2.2.1)))))))))))))))), ((cell_far (p := ⟨gb367, _, none⟩) NB366_367.out _).trans (((cell_far (p := ⟨gb367, _, none⟩) NB366_367.out _).trans (((cell_far (p := ⟨gb367, _, none⟩) NB366_367.out _).trans (((cell_far (p := ⟨gb367, _, none⟩) NB366_367.out _).trans (((cell_far (p := ⟨gb367, _, none⟩) NB366_367.out _).trans (((cell_far (p := ⟨gb367, _, none⟩) NB366_367.out _).trans (((cell_far (p := ⟨gb367, _, none⟩) NB366_367.out _).trans (((cell_far (p := ⟨gb367, _, none⟩) NB366_367.out _).trans (hHeld.2.2.2.2.2.2.2))))))))))))))))⟩ (fun hHeld => ?_)
 clear hK K
 refine done_ (done_of HT_.out (by kernel_rfl)) ?_
 try go_wp2
 refine bodyPost_ret (results_cell_row rfl _ _ gb367 29 #[.int .i64 a0_0, .int .i64 a0_1, .int .i64 a0_2, .int .i64 a0_3, .int .i64 a0_4, .int .u64 a0_5, .int .i64 a0_6, .slice Ao9 y371.length co9] (0, 0) _ rfl (blk_put (cs := #[.int .i64 a0_0, .int .i64 a0_1, .int .i64 a0_2, .int .i64 a0_3, .int .i64 a0_4, .int .u64 a0_5, .int .i64 a0_6, .slice none 0 0]) (blk_put (cs := #[.int .i64 a0_0, .int .i64 a0_1, .int .i64 a0_2, .int .i64 a0_3, .int .i64 a0_4, .int .u64 a0_5, .int .i64 0, .slice none 0 0]) (blk_put (cs := #[.int .i64 a0_0, .int .i64 a0_1, .int .i64 a0_2, .int .i64 a0_3, .int .i64 a0_4, .int .u64 0, .int .i64 0, .slice none 0 0]) (blk_put (cs := #[.int .i64 a0_0, .int .i64 a0_1, .int .i64 a0_2, .int .i64 a0_3, .int .i64 0, .int .u64 0, .int .i64 0, .slice none 0 0]) (blk_put (cs := #[.int .i64 a0_0, .int .i64 a0_1, .int .i64 a0_2, .int .i64 0, .int .i64 0, .int .u64 0, .int .i64 0, .slice none 0 0]) (blk_put (cs := #[.int .i64 a0_0, .int .i64 a0_1, .int .i64 0, .int .i64 0, .int .i64 0, .int .u64 0, .int .i64 0, .slice none 0 0]) (blk_put (cs := #[.int .i64 a0_0, .int .i64 0, .int .i64 0, .int .i64 0, .int .i64 0, .int .u64 0, .int .i64 0, .slice none 0 0]) (blk_put (cs := #[.int .i64 0, .int .i64 0, .int .i64 0, .int .i64 0, .int .i64 0, .int .u64 0, .int .i64 0, .slice none 0 0]) (bq_ BK367) 0 _ rfl) 1 _ rfl) 2 _ rfl) 3 _ rfl) 4 _ rfl) 5 _ rfl) 6 _ rfl) 7 _ rfl) Try.underlying29 rfl (by kernel_rfl)) rfl ?_
 exact ⟨_, by first | rfl | (simp [errW_none, errW_some] <;> rfl) | (simp [*, errW_none, errW_some] <;> rfl), by (with_reducible repeat (first | apply Kd.R_alloc | apply Kd.R_drewN | apply Kd.R_drew)); exact Kd.R_mono (Kd.R_far (p := ⟨gb367, 7, none⟩) (Kd.R_far (p := ⟨gb367, 6, none⟩) (Kd.R_far (p := ⟨gb367, 5, none⟩) (Kd.R_far (p := ⟨gb367, 4, none⟩) (Kd.R_far (p := ⟨gb367, 3, none⟩) (Kd.R_far (p := ⟨gb367, 2, none⟩) (Kd.R_far (p := ⟨gb367, 1, none⟩) (Kd.R_far (p := ⟨gb367, 0, none⟩) (Kd.R_types HO373.out BK367.out (by decide)) (fun _ hk => hk.2) (.int .i64 a0_0)) (fun _ hk => hk.2) (.int .i64 a0_1)) (fun _ hk => hk.2) (.int .i64 a0_2)) (fun _ hk => hk.2) (.int .i64 a0_3)) (fun _ hk => hk.2) (.int .i64 a0_4)) (fun _ hk => hk.2) (.int .u64 a0_5)) (fun _ hk => hk.2) (.int .i64 a0_6)) (fun _ hk => hk.2) (.slice Ao9 y371.length co9)) (fun _ hk => trivial), by repeat (first | (with_reducible first | exact HB.out | apply below_alloc | apply pw_below_drewN | apply below_drew1 | refine below_set ?_ GE366.out | refine below_set ?_ GE367.out) | exact HB.out)⟩

/-! ### spigotref01_Add: function 39 -/
def spigotref01_Add.f (a0_0 : Int) (a0_1 : Int) (a1_0 : Int) (a1_1 : Int) : Option (Int × Int × Int) := if a1_1 > (IntKind.u64.wrap (18446744073709551615 - a0_1)) then (if a1_0 > (IntKind.u64.wrap (18446744073709551615 - a0_0)) then (some (0, 0, 16)) else (if (IntKind.u64.wrap (a0_0 + a1_0)) = 18446744073709551615 then (some (0, 0, 16)) else (some (IntKind.u64.wrap ((IntKind.u64.wrap (a0_0 + a1_0)) + 1), IntKind.u64.wrap (a0_1 + a1_1), 0)))) else (if a1_0 > (IntKind.u64.wrap (18446744073709551615 - a0_0)) then (some (0, 0, 16)) else (some (IntKind.u64.wrap (IntKind.u64.wrap (a0_0 + a1_0)), IntKind.u64.wrap (a0_1 + a1_1), 0)))
set_option maxHeartbeats 8000000 in
set_option maxRecDepth 100000 in
theorem spigotref01_Add.calls (a0_0 : Int) (a0_1 : Int) (a1_0 : Int) (a1_1 : Int) (r1 : Int) (r2 : Int) (r3 : Int) (w : World) (h : spigotref01_Add.f a0_0 a0_1 a1_0 a1_1 = some (r1, r2, r3)) :
  Calls Try.prog 39 #[.agg #[.int .u64 a0_0, .int .u64 a0_1], .agg #[.int .u64 a1_0, .int .u64 a1_1]] w fun e w' => e = .returned (.tuple #[.agg #[.int .u64 r1, .int .u64 r2], .int .i64 r3]) ∧ Below w.heap.size w w' := by
 have hu82 := Try.underlying82
 have HB := Aside0.mk (Below.refl w.heap.size w)
 have H : (if a1_1 > (IntKind.u64.wrap (18446744073709551615 - a0_1)) then (if a1_0 > (IntKind.u64.wrap (18446744073709551615 - a0_0)) then (some (0, 0, 16)) else (if (IntKind.u64.wrap (a0_0 + a1_0)) = 18446744073709551615 then (some (0, 0, 16)) else (some (IntKind.u64.wrap ((IntKind.u64.wrap (a0_0 + a1_0)) + 1), IntKind.u64.wrap (a0_1 + a1_1), 0)))) else (if a1_0 > (IntKind.u64.wrap (18446744073709551615 - a0_0)) then (some (0, 0, 16)) else (some (IntKind.u64.wrap (IntKind.u64.wrap (a0_0 + a1_0)), IntKind.u64.wrap (a0_1 + a1_1), 0)))) = some (r1, r2, r3) := h
 clear h
 by_cases c3 : a1_1 > (IntKind.u64.wrap (18446744073709551615 - a0_1))
 ·rw [if_pos c3] at H
  have c3b0 : decide ((IntKind.u64.wrap (18446744073709551615 - a0_1)) < a1_1) = true := decide_eq_true c3
  clear c3
  by_cases c4 : a1_0 > (IntKind.u64.wrap (18446744073709551615 - a0_0))
  ·rw [if_pos c4] at H
   have c4b0 : decide ((IntKind.u64.wrap (18446744073709551615 - a0_0)) < a1_0) = true := decide_eq_true c4
   clear c4
   simp only [Option.some.injEq, Prod.mk.injEq] at H
   obtain ⟨rfl, rfl, rfl⟩ := H
   go_enter Try.func39, Try.ntmps39
   go_wp2_with (first | ((with_reducible refine gate_dst (N := 2) rfl ?_); (try refine ug_ (by rfl) ?_); refine bx_ #[.int .u64 a0_0, .int .u64 a0_1] 82 ?_; intro gb374 hg w5 BK374 hb; have GW374 := bz_ w hg; have GE374 := GW374; replace HB := bs_ w hb; clear hb hg) | ((with_reducible refine gate_dst (N := 3) rfl ?_); (try refine ug_ (by rfl) ?_); refine bx_ #[.int .u64 a1_0, .int .u64 a1_1] 82 ?_; intro gb375 hg w6 BK375 hb; have GW375 := bz_ w hg; have GE375 := GW375; have NB374_375 := bn_ BK374 hg; have NB375_374 := bm_ BK374 hg; replace BK374 := bb_ BK374 hb; replace HB := bs_ w hb; clear hb hg) | ((with_reducible refine gate_dst (N := 4) rfl ?_); (try refine ug_ (by rfl) ?_); refine bx_ #[.int .u64 0, .int .u64 0] 82 ?_; intro gb376 hg w7 BK376 hb; have GW376 := bz_ w hg; have GE376 := GW376; have NB374_376 := bn_ BK374 hg; have NB376_374 := bm_ BK374 hg; have NB375_376 := bn_ BK375 hg; have NB376_375 := bm_ BK375 hg; replace BK374 := bb_ BK374 hb; replace BK375 := bb_ BK375 hb; replace HB := bs_ w hb; clear hb hg; replace hn375_374 := NB375_374.out; replace hn374_375 := NB374_375.out; replace hn375_376 := NB375_376.out; replace hn376_375 := NB376_375.out; replace hc375 := ce2_ BK375; replace hn374_376 := NB374_376.out; replace hn376_374 := NB376_374.out; replace hc374 := ce2_ BK374; replace hc376 := ce2_ BK376))
   refine bodyPost_ret (results_ct rfl _ _ gb376 82 #[.int .u64 0, .int .u64 0] (0, 0) _ rfl (bp2_ (bq_ BK376)) Try.underlying82 rfl (by kernel_rfl)) rfl ?_
   exact fi_
  ·rw [if_neg c4] at H
   have c4b0 : decide ((IntKind.u64.wrap (18446744073709551615 - a0_0)) < a1_0) = false := decide_eq_false c4
   clear c4
   by_cases c14 : (IntKind.u64.wrap (a0_0 + a1_0)) = 18446744073709551615
   ·rw [if_pos c14] at H
    have c14b0 : ((IntKind.u64.wrap (a0_0 + a1_0)) == 18446744073709551615) = true := beq_iff_eq.mpr c14
    have c14b1 : ((IntKind.u64.wrap (a0_0 + a1_0)) != 18446744073709551615) = false := bne_eq_false_iff_eq.mpr c14
    clear c14
    simp only [Option.some.injEq, Prod.mk.injEq] at H
    obtain ⟨rfl, rfl, rfl⟩ := H
    go_enter Try.func39, Try.ntmps39
    go_wp2_with (first | ((with_reducible refine gate_dst (N := 2) rfl ?_); (try refine ug_ (by rfl) ?_); refine bx_ #[.int .u64 a0_0, .int .u64 a0_1] 82 ?_; intro gb374 hg w15 BK374 hb; have GW374 := bz_ w hg; have GE374 := GW374; replace HB := bs_ w hb; clear hb hg) | ((with_reducible refine gate_dst (N := 3) rfl ?_); (try refine ug_ (by rfl) ?_); refine bx_ #[.int .u64 a1_0, .int .u64 a1_1] 82 ?_; intro gb375 hg w16 BK375 hb; have GW375 := bz_ w hg; have GE375 := GW375; have NB374_375 := bn_ BK374 hg; have NB375_374 := bm_ BK374 hg; replace BK374 := bb_ BK374 hb; replace HB := bs_ w hb; clear hb hg) | ((with_reducible refine gate_dst (N := 4) rfl ?_); (try refine ug_ (by rfl) ?_); refine bx_ #[.int .u64 0, .int .u64 0] 82 ?_; intro gb376 hg w17 BK376 hb; have GW376 := bz_ w hg; have GE376 := GW376; have NB374_376 := bn_ BK374 hg; have NB376_374 := bm_ BK374 hg; have NB375_376 := bn_ BK375 hg; have NB376_375 := bm_ BK375 hg; replace BK374 := bb_ BK374 hb; replace BK375 := bb_ BK375 hb; replace HB := bs_ w hb; clear hb hg; replace hn375_374 := NB375_374.out; replace hn374_375 := NB374_375.out; replace hn375_376 := NB375_376.out; replace hn376_375 := NB376_375.out; replace hc375 := ce2_ BK375; replace hn374_376 := NB374_376.out; replace hn376_374 := NB376_374.out; replace hc374 := ce2_ BK374; replace hc376 := ce2_ BK376))
    refine bodyPost_ret (results_ct rfl _ _ gb376 82 #[.int .u64 0, .int .u64 0] (0, 0) _ rfl (bp2_ (bq_ BK376)) Try.underlying82 rfl (by kernel_rfl)) rfl ?_
    exact fi_
   ·rw [if_neg c14] at H
    have c14b0 : ((IntKind.u64.wrap (a0_0 + a1_0)) == 18446744073709551615) = false := beq_eq_false_iff_ne.mpr c14
    have c14b1 : ((IntKind.u64.wrap (a0_0 + a1_0)) != 18446744073709551615) = true := bne_iff_ne.mpr c14
    simp only [Option.some.injEq, Prod.mk.injEq] at H
    obtain ⟨rfl, rfl, rfl⟩ := H
    go_enter Try.func39, Try.ntmps39
    go_wp2_with (first | ((with_reducible refine gate_dst (N := 2) rfl ?_); (try refine ug_ (by rfl) ?_); refine bx_ #[.int .u64 a0_0, .int .u64 a0_1] 82 ?_; intro gb374 hg w24 BK374 hb; have GW374 := bz_ w hg; have GE374 := GW374; replace HB := bs_ w hb; clear hb hg) | ((with_reducible refine gate_dst (N := 3) rfl ?_); (try refine ug_ (by rfl) ?_); refine bx_ #[.int .u64 a1_0, .int .u64 a1_1] 82 ?_; intro gb375 hg w25 BK375 hb; have GW375 := bz_ w hg; have GE375 := GW375; have NB374_375 := bn_ BK374 hg; have NB375_374 := bm_ BK374 hg; replace BK374 := bb_ BK374 hb; replace HB := bs_ w hb; clear hb hg) | ((with_reducible refine gate_dst (N := 4) rfl ?_); (try refine ug_ (by rfl) ?_); refine bx_ #[.int .u64 0, .int .u64 0] 82 ?_; intro gb376 hg w26 BK376 hb; have GW376 := bz_ w hg; have GE376 := GW376; have NB374_376 := bn_ BK374 hg; have NB376_374 := bm_ BK374 hg; have NB375_376 := bn_ BK375 hg; have NB376_375 := bm_ BK375 hg; replace BK374 := bb_ BK374 hb; replace BK375 := bb_ BK375 hb; replace HB := bs_ w hb; clear hb hg; replace hn375_374 := NB375_374.out; replace hn374_375 := NB374_375.out; replace hn375_376 := NB375_376.out; replace hn376_375 := NB376_375.out; replace hc375 := ce2_ BK375; replace hn374_376 := NB374_376.out; replace hn376_374 := NB376_374.out; replace hc374 := ce2_ BK374; replace hc376 := ce2_ BK376))
    refine bodyPost_ret (results_ct rfl _ _ gb376 82 #[.int .u64 (IntKind.u64.wrap ((IntKind.u64.wrap (a0_0 + a1_0)) + 1)), .int .u64 (IntKind.u64.wrap (a0_1 + a1_1))] (0, 0) _ rfl (bp2_ (bq_ BK376)) Try.underlying82 rfl (by kernel_rfl)) rfl ?_
    exact fi_
 ·rw [if_neg c3] at H
  have c3b0 : decide ((IntKind.u64.wrap (18446744073709551615 - a0_1)) < a1_1) = false := decide_eq_false c3
  clear c3
  by_cases c33 : a1_0 > (IntKind.u64.wrap (18446744073709551615 - a0_0))
  ·rw [if_pos c33] at H
   have c33b0 : decide ((IntKind.u64.wrap (18446744073709551615 - a0_0)) < a1_0) = true := decide_eq_true c33
   clear c33
   simp only [Option.some.injEq, Prod.mk.injEq] at H
   obtain ⟨rfl, rfl, rfl⟩ := H
   go_enter Try.func39, Try.ntmps39
   go_wp2_with (first | ((with_reducible refine gate_dst (N := 2) rfl ?_); (try refine ug_ (by rfl) ?_); refine bx_ #[.int .u64 a0_0, .int .u64 a0_1] 82 ?_; intro gb374 hg w34 BK374 hb; have GW374 := bz_ w hg; have GE374 := GW374; replace HB := bs_ w hb; clear hb hg) | ((with_reducible refine gate_dst (N := 3) rfl ?_); (try refine ug_ (by rfl) ?_); refine bx_ #[.int .u64 a1_0, .int .u64 a1_1] 82 ?_; intro gb375 hg w35 BK375 hb; have GW375 := bz_ w hg; have GE375 := GW375; have NB374_375 := bn_ BK374 hg; have NB375_374 := bm_ BK374 hg; replace BK374 := bb_ BK374 hb; replace HB := bs_ w hb; clear hb hg) | ((with_reducible refine gate_dst (N := 4) rfl ?_); (try refine ug_ (by rfl) ?_); refine bx_ #[.int .u64 0, .int .u64 0] 82 ?_; intro gb376 hg w36 BK376 hb; have GW376 := bz_ w hg; have GE376 := GW376; have NB374_376 := bn_ BK374 hg; have NB376_374 := bm_ BK374 hg; have NB375_376 := bn_ BK375 hg; have NB376_375 := bm_ BK375 hg; replace BK374 := bb_ BK374 hb; replace BK375 := bb_ BK375 hb; replace HB := bs_ w hb; clear hb hg; replace hn375_374 := NB375_374.out; replace hn374_375 := NB374_375.out; replace hn375_376 := NB375_376.out; replace hn376_375 := NB376_375.out; replace hc375 := ce2_ BK375; replace hn374_376 := NB374_376.out; replace hn376_374 := NB376_374.out; replace hc374 := ce2_ BK374; replace hc376 := ce2_ BK376))
   refine bodyPost_ret (results_ct rfl _ _ gb376 82 #[.int .u64 0, .int .u64 0] (0, 0) _ rfl (bp2_ (bq_ BK376)) Try.underlying82 rfl (by kernel_rfl)) rfl ?_
   exact fi_
  ·rw [if_neg c33] at H
   have c33b0 : decide ((IntKind.u64.wrap (18446744073709551615 - a0_0)) < a1_0) = false := decide_eq_false c33
   clear c33
   simp only [Option.some.injEq, Prod.mk.injEq] at H
   obtain ⟨rfl, rfl, rfl⟩ := H
   go_enter Try.func39, Try.ntmps39
   go_wp2_with (first | ((with_reducible refine gate_dst (N := 2) rfl ?_); (try refine ug_ (by rfl) ?_); refine bx_ #[.int .u64 a0_0, .int .u64 a0_1] 82 ?_; intro gb374 hg w43 BK374 hb; have GW374 := bz_ w hg; have GE374 := GW374; replace HB := bs_ w hb; clear hb hg) | ((with_reducible refine gate_dst (N := 3) rfl ?_); (try refine ug_ (by rfl) ?_); refine bx_ #[.int .u64 a1_0, .int .u64 a1_1] 82 ?_; intro gb375 hg w44 BK375 hb; have GW375 := bz_ w hg; have GE375 := GW375; have NB374_375 := bn_ BK374 hg; have NB375_374 := bm_ BK374 hg; replace BK374 := bb_ BK374 hb; replace HB := bs_ w hb; clear hb hg) | ((with_reducible refine gate_dst (N := 4) rfl ?_); (try refine ug_ (by rfl) ?_); refine bx_ #[.int .u64 0, .int .u64 0] 82 ?_; intro gb376 hg w45 BK376 hb; have GW376 := bz_ w hg; have GE376 := GW376; have NB374_376 := bn_ BK374 hg; have NB376_374 := bm_ BK374 hg; have NB375_376 := bn_ BK375 hg; have NB376_375 := bm_ BK375 hg; replace BK374 := bb_ BK374 hb; replace BK375 := bb_ BK375 hb; replace HB := bs_ w hb; clear hb hg; replace hn375_374 := NB375_374.out; replace hn374_375 := NB374_375.out; replace hn375_376 := NB375_376.out; replace hn376_375 := NB376_375.out; replace hc375 := ce2_ BK375; replace hn374_376 := NB374_376.out; replace hn376_374 := NB376_374.out; replace hc374 := ce2_ BK374; replace hc376 := ce2_ BK376))
   refine bodyPost_ret (results_ct rfl _ _ gb376 82 #[.int .u64 (IntKind.u64.wrap (IntKind.u64.wrap (a0_0 + a1_0))), .int .u64 (IntKind.u64.wrap (a0_1 + a1_1))] (0, 0) _ rfl (bp2_ (bq_ BK376)) Try.underlying82 rfl (by kernel_rfl)) rfl ?_
   exact fi_

/-! ### spigotref01_Mul: function 40 -/
def spigotref01_Mul.f (a0 : Int) (a1 : Int) : Option (Int × Int) := some (IntKind.u64.wrap ((IntKind.u64.wrap ((IntKind.u64.wrap ((IntKind.u64.wrap ((IntKind.u64.wrap (Int.tdiv a0 4294967296)) * (IntKind.u64.wrap (Int.tdiv a1 4294967296)))) + (IntKind.u64.wrap (Int.tdiv (IntKind.u64.wrap ((IntKind.u64.wrap (Int.tdiv a0 4294967296)) * (Int.tmod a1 4294967296))) 4294967296)))) + (IntKind.u64.wrap (Int.tdiv (IntKind.u64.wrap ((Int.tmod a0 4294967296) * (IntKind.u64.wrap (Int.tdiv a1 4294967296)))) 4294967296)))) + (IntKind.u64.wrap (Int.tdiv (IntKind.u64.wrap ((IntKind.u64.wrap ((IntKind.u64.wrap (Int.tdiv (IntKind.u64.wrap ((Int.tmod a0 4294967296) * (Int.tmod a1 4294967296))) 4294967296)) + (Int.tmod (IntKind.u64.wrap ((IntKind.u64.wrap (Int.tdiv a0 4294967296)) * (Int.tmod a1 4294967296))) 4294967296))) + (Int.tmod (IntKind.u64.wrap ((Int.tmod a0 4294967296) * (IntKind.u64.wrap (Int.tdiv a1 4294967296)))) 4294967296))) 4294967296))), IntKind.u64.wrap ((IntKind.u64.wrap ((Int.tmod (IntKind.u64.wrap ((IntKind.u64.wrap ((IntKind.u64.wrap (Int.tdiv (IntKind.u64.wrap ((Int.tmod a0 4294967296) * (Int.tmod a1 4294967296))) 4294967296)) + (Int.tmod (IntKind.u64.wrap ((IntKind.u64.wrap (Int.tdiv a0 4294967296)) * (Int.tmod a1 4294967296))) 4294967296))) + (Int.tmod (IntKind.u64.wrap ((Int.tmod a0 4294967296) * (IntKind.u64.wrap (Int.tdiv a1 4294967296)))) 4294967296))) 4294967296) * 4294967296)) + (Int.tmod (IntKind.u64.wrap ((Int.tmod a0 4294967296) * (Int.tmod a1 4294967296))) 4294967296)))
set_option maxHeartbeats 8000000 in
set_option maxRecDepth 100000 in
theorem spigotref01_Mul.calls (a0 : Int) (a1 : Int) (r1 : Int) (r2 : Int) (w : World) (h : spigotref01_Mul.f a0 a1 = some (r1, r2)) :
  Calls Try.prog 40 #[.int .u64 a0, .int .u64 a1] w fun e w' => e = .returned (.agg #[.int .u64 r1, .int .u64 r2]) ∧ Below w.heap.size w w' := by
 have hu82 := Try.underlying82
 have HB := Aside0.mk (Below.refl w.heap.size w)
 have H : (some (IntKind.u64.wrap ((IntKind.u64.wrap ((IntKind.u64.wrap ((IntKind.u64.wrap ((IntKind.u64.wrap (Int.tdiv a0 4294967296)) * (IntKind.u64.wrap (Int.tdiv a1 4294967296)))) + (IntKind.u64.wrap (Int.tdiv (IntKind.u64.wrap ((IntKind.u64.wrap (Int.tdiv a0 4294967296)) * (Int.tmod a1 4294967296))) 4294967296)))) + (IntKind.u64.wrap (Int.tdiv (IntKind.u64.wrap ((Int.tmod a0 4294967296) * (IntKind.u64.wrap (Int.tdiv a1 4294967296)))) 4294967296)))) + (IntKind.u64.wrap (Int.tdiv (IntKind.u64.wrap ((IntKind.u64.wrap ((IntKind.u64.wrap (Int.tdiv (IntKind.u64.wrap ((Int.tmod a0 4294967296) * (Int.tmod a1 4294967296))) 4294967296)) + (Int.tmod (IntKind.u64.wrap ((IntKind.u64.wrap (Int.tdiv a0 4294967296)) * (Int.tmod a1 4294967296))) 4294967296))) + (Int.tmod (IntKind.u64.wrap ((Int.tmod a0 4294967296) * (IntKind.u64.wrap (Int.tdiv a1 4294967296)))) 4294967296))) 4294967296))), IntKind.u64.wrap ((IntKind.u64.wrap ((Int.tmod (IntKind.u64.wrap ((IntKind.u64.wrap ((IntKind.u64.wrap (Int.tdiv (IntKind.u64.wrap ((Int.tmod a0 4294967296) * (Int.tmod a1 4294967296))) 4294967296)) + (Int.tmod (IntKind.u64.wrap ((IntKind.u64.wrap (Int.tdiv a0 4294967296)) * (Int.tmod a1 4294967296))) 4294967296))) + (Int.tmod (IntKind.u64.wrap ((Int.tmod a0 4294967296) * (IntKind.u64.wrap (Int.tdiv a1 4294967296)))) 4294967296))) 4294967296) * 4294967296)) + (Int.tmod (IntKind.u64.wrap ((Int.tmod a0 4294967296) * (Int.tmod a1 4294967296))) 4294967296)))) = some (r1, r2) := h
 clear h
 simp only [Option.some.injEq, Prod.mk.injEq] at H
 obtain ⟨rfl, rfl⟩ := H
 go_enter Try.func40, Try.ntmps40
 go_wp2_with (first | ((with_reducible refine gate_dst (N := 4) rfl ?_); refine bx_ #[.int .u64 0, .int .u64 0] 82 ?_; intro gb377 hg w3 BK377 hb; have GW377 := bz_ w hg; replace HB := bs_ w hb; clear hb hg; replace hc377 := ce2_ BK377))
 refine bodyPost_ret (results_cell_row rfl _ _ gb377 82 #[.int .u64 (IntKind.u64.wrap ((IntKind.u64.wrap ((IntKind.u64.wrap ((IntKind.u64.wrap ((IntKind.u64.wrap (Int.tdiv a0 4294967296)) * (IntKind.u64.wrap (Int.tdiv a1 4294967296)))) + (IntKind.u64.wrap (Int.tdiv (IntKind.u64.wrap ((IntKind.u64.wrap (Int.tdiv a0 4294967296)) * (Int.tmod a1 4294967296))) 4294967296)))) + (IntKind.u64.wrap (Int.tdiv (IntKind.u64.wrap ((Int.tmod a0 4294967296) * (IntKind.u64.wrap (Int.tdiv a1 4294967296)))) 4294967296)))) + (IntKind.u64.wrap (Int.tdiv (IntKind.u64.wrap ((IntKind.u64.wrap ((IntKind.u64.wrap (Int.tdiv (IntKind.u64.wrap ((Int.tmod a0 4294967296) * (Int.tmod a1 4294967296))) 4294967296)) + (Int.tmod (IntKind.u64.wrap ((IntKind.u64.wrap (Int.tdiv a0 4294967296)) * (Int.tmod a1 4294967296))) 4294967296))) + (Int.tmod (IntKind.u64.wrap ((Int.tmod a0 4294967296) * (IntKind.u64.wrap (Int.tdiv a1 4294967296)))) 4294967296))) 4294967296)))), .int .u64 (IntKind.u64.wrap ((IntKind.u64.wrap ((Int.tmod (IntKind.u64.wrap ((IntKind.u64.wrap ((IntKind.u64.wrap (Int.tdiv (IntKind.u64.wrap ((Int.tmod a0 4294967296) * (Int.tmod a1 4294967296))) 4294967296)) + (Int.tmod (IntKind.u64.wrap ((IntKind.u64.wrap (Int.tdiv a0 4294967296)) * (Int.tmod a1 4294967296))) 4294967296))) + (Int.tmod (IntKind.u64.wrap ((Int.tmod a0 4294967296) * (IntKind.u64.wrap (Int.tdiv a1 4294967296)))) 4294967296))) 4294967296) * 4294967296)) + (Int.tmod (IntKind.u64.wrap ((Int.tmod a0 4294967296) * (Int.tmod a1 4294967296))) 4294967296)))] (0, 0) _ rfl (bp2_ (bq_ BK377)) Try.underlying82 rfl (by kernel_rfl)) rfl ?_
 exact fi_

end Go.Proofs.Ytbfdpodlnijeoaa.X
