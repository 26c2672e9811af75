-- written by xprint.py, a program of this session over the kit's print
import Derived.Test.YtiifhbaabnpkeaaX0
import Derived.Test.YtiifhbaabnpkeaaX5
import Derived.Test.YtiifhbaabnpkeaaX8
namespace Go.Proofs.Ytiifhbaabnpkeaa.X
open Go.RowKit Go.Proofs.YtiifhbaabnpkeaaW.PrintWords Go.Proofs.YtiifhbaabnpkeaaW.PrintLast Go.Proofs.YtiifhbaabnpkeaaW.PrintMore
attribute [local go_sem] max2_int min2_int max_two min_two max_three min_three max_four min_four   -- for this text's walks alone
set_option linter.unusedVariables false
set_option linter.unusedSimpArgs false

/-! ### wide_Up: function 47 -/
def wide_Up.j0 : Nat → Int → Bool → Int → Int → Option (Int × Int × Int)
  | 0, _, _, _, _ => none
  | k + 1, x8, x21, x296000, x296001 => if x21 = true then (some (x296000, x296001, x8)) else ((wide_Of.f 1).bind fun bt296 => ((wide_Add.f x296000 x296001 bt296.1 bt296.2).bind fun bt298 => (some (bt298.1, bt298.2.1, bt298.2.2))))
def wide_Up.f (k : Nat) (a0_0 : Int) (a0_1 : Int) (a1 : Int) : Option (Int × Int × Int) := (wide_Div.f k a0_0 a0_1 a1).bind fun bt291 => (if bt291.2.2.2 = 0 then (wide_Up.j0 k bt291.2.2.2 (bt291.2.2.1 == 0) bt291.1 bt291.2.1) else (wide_Up.j0 k bt291.2.2.2 true bt291.1 bt291.2.1))
theorem wide_Up.mono_l : ∀ k, (∀ y0 y1 y2 y3, LeO (wide_Up.j0 k y0 y1 y2 y3) (wide_Up.j0 (k + 1) y0 y1 y2 y3))
  | 0 => fun _ _ _ _ r h => by simp [wide_Up.j0] at h
  | k + 1 => by
    have ih0 := wide_Up.mono_l k
    · intro y0 y1 y2 y3
      unfold wide_Up.j0
      repeat' first
      | (with_reducible exact ih0 _ _ _ _)
      | (with_reducible exact wide_Div.mono _ _ _ _)
      | (with_reducible exact LeO.refl _)
      | (with_reducible exact LeO.none _)
      | (with_reducible refine LeO.ite ?_ ?_)
      | (with_reducible refine LeO.bind ?_ (fun _ => ?_))
      | exact ih0 _ _ _ _
      | exact wide_Div.mono _ _ _ _
      | exact LeO.none _
      | refine LeO.ite ?_ ?_
      | refine LeO.bind ?_ (fun _ => ?_)
theorem wide_Up.mono : ∀ a0 a1 a2 k, LeO (wide_Up.f k a0 a1 a2) (wide_Up.f (k + 1) a0 a1 a2) := by
  intro a0 a1 a2 k
  have ih0 := wide_Up.mono_l k
  unfold wide_Up.f
  repeat' first
      | (with_reducible exact ih0 _ _ _ _)
      | (with_reducible exact wide_Div.mono _ _ _ _)
      | (with_reducible exact LeO.refl _)
      | (with_reducible exact LeO.none _)
      | (with_reducible refine LeO.ite ?_ ?_)
      | (with_reducible refine LeO.bind ?_ (fun _ => ?_))
      | exact ih0 _ _ _ _
      | exact wide_Div.mono _ _ _ _
      | exact LeO.none _
      | refine LeO.ite ?_ ?_
      | refine LeO.bind ?_ (fun _ => ?_)
set_option maxHeartbeats 8000000 in
set_option maxRecDepth 100000 in
theorem wide_Up.calls (k : Nat) (a0_0 : Int) (a0_1 : Int) (a1 : Int) (r1 : Int) (r2 : Int) (r3 : Int) (w : World) (h : wide_Up.f k a0_0 a0_1 a1 = some (r1, r2, r3)) :
  Calls Try.prog 47 #[.agg #[.int .u64 a0_0, .int .u64 a0_1], .int .u64 a1] w fun e w' => e = .returned (.tuple #[.agg #[.int .u64 r1, .int .u64 r2], .int .i64 r3]) ∧ Below w.heap.size w w' := by
 have hu59 := Try.underlying59
 have HB := Aside0.mk (Below.refl w.heap.size w)
 have H : ((wide_Div.f k a0_0 a0_1 a1).bind fun bt291 => (if bt291.2.2.2 = 0 then (wide_Up.j0 k bt291.2.2.2 (bt291.2.2.1 == 0) bt291.1 bt291.2.1) else (wide_Up.j0 k bt291.2.2.2 true bt291.1 bt291.2.1))) = some (r1, r2, r3) := h
 clear h
 have H0_ := bo_ H; clear H; obtain ⟨⟨t291, t292, t293, t294⟩, A3, H⟩ := H0_
 replace H : (if t294 = 0 then (wide_Up.j0 k t294 (t293 == 0) t291 t292) else (wide_Up.j0 k t294 true t291 t292)) = some (r1, r2, r3) := H
 have HC4 := Aside0.mk H
 clear H
 go_enter Try.func47, Try.ntmps47
 go_upto_region 2 with (first | ((with_reducible refine gate_dst (N := 2) rfl ?_); (try refine ug_ (by rfl) ?_); refine bx_ #[.int .u64 a0_0, .int .u64 a0_1] 59 ?_; intro gb289 hg w5 BK289 hb; have GW289 := bz_ w hg; replace HB := bs_ w hb; clear hb hg) | ((with_reducible refine gate_dst (N := 4) rfl ?_); (try refine ug_ (by rfl) ?_); refine bx_ #[.int .u64 0, .int .u64 0] 59 ?_; intro gb290 hg w6 BK290 hb; have GW290 := bz_ w hg; have NB289_290 := bn_ BK289 hg; have NB290_289 := bm_ BK289 hg; replace BK289 := bb_ BK289 hb; replace HB := bs_ w hb; clear hb hg; replace hn289_290 := NB289_290.out; replace hn290_289 := NB290_289.out; replace hc289 := ce2_ BK289) | ((with_reducible refine gate_callee (f := 52) rfl ?_); (try refine ug_ (by rfl) ?_); refine goesA_ (some 12) Try.func52 #[.agg #[.int .u64 a0_0, .int .u64 a0_1], .int .u64 a1] ?_; (with_reducible refine (wide_Div.calls k a0_0 a0_1 a1 t291 t292 t293 t294 _ A3.out).mono ?_); rintro e w9 ⟨rfl, hb⟩; refine ⟨_, rfl, ?_⟩; replace BK289 := bb_ BK289 hb; replace BK290 := bb_ BK290 hb; replace HB := bs_ w hb; clear hb) | ((with_reducible refine gate_dst (N := 6) rfl ?_); (try refine ug_ (by rfl) ?_); refine bx_ #[.int .u64 0, .int .u64 0] 59 ?_; intro gb295 hg w10 BK295 hb; have GW295 := bz_ w hg; have NB289_295 := bn_ BK289 hg; have NB295_289 := bm_ BK289 hg; have NB290_295 := bn_ BK290 hg; have NB295_290 := bm_ BK290 hg; replace BK289 := bb_ BK289 hb; replace BK290 := bb_ BK290 hb; replace HB := bs_ w hb; clear hb hg; replace hn295_289 := NB295_289.out; replace hn289_295 := NB289_295.out; replace hn295_290 := NB295_290.out; replace hn290_295 := NB290_295.out; replace hc295 := ce2_ BK295))
 (try simp only [Act.put, List.setIfInBounds_toArray, List.set_cons_zero, List.set_cons_succ])
 go_cut [21] (fun v21 wc => ∃ (kq : Nat) (x21_3 : Bool), v21 = .bool x21_3 ∧ Aside0 (wide_Up.j0 kq t294 x21_3 t291 t292 = some (r1, r2, r3)) ∧ Aside0 (kq ≤ k) ∧ Aside0 (wc.heap[gb289]? = some (.cells #[.int .u64 a0_0, .int .u64 a0_1] 59 (0, 0))) ∧ Aside0 (wc.heap[gb290]? = some (.cells #[.int .u64 0, .int .u64 0] 59 (0, 0))) ∧ Aside0 (wc.heap[gb295]? = some (.cells #[.int .u64 t291, .int .u64 t292] 59 (0, 0))) ∧ Aside0 (Below w.heap.size w wc))
 case first =>
  have H := HC4.out
  clear HC4
  by_cases c14 : t294 = 0
  ·rw [if_pos c14] at H
   have c14b0 : (t294 == 0) = true := beq_iff_eq.mpr c14
   have c14b1 : (t294 != 0) = false := bne_eq_false_iff_eq.mpr c14
   clear c14
   (first | rw [c14b0] | (simp only [i64_w, i32_w]; rw [c14b0]) | skip)
   have H' := Aside0.mk H
   clear H
   go_wp2
   go_meet
   case rel => exact ⟨_, ((t293 == 0)), rf_, H', al_, ⟨(bt_ BK289)⟩, ⟨(bt_ BK290)⟩, ⟨(bp2_ (bq_ BK295))⟩, bw_⟩
  ·rw [if_neg c14] at H
   have c14b0 : (t294 == 0) = false := beq_eq_false_iff_ne.mpr c14
   have c14b1 : (t294 != 0) = true := bne_iff_ne.mpr c14
   (first | rw [c14b0] | (simp only [i64_w, i32_w]; rw [c14b0]) | skip)
   have H' := Aside0.mk H
   clear H
   go_wp2
   go_meet
   case rel => exact ⟨_, (true), rf_, H', al_, ⟨(bt_ BK289)⟩, ⟨(bt_ BK290)⟩, ⟨(bp2_ (bq_ BK295))⟩, bw_⟩
 case rest =>
  clear HC4
  obtain ⟨kq, x21_3, rfl, HA, HJ3, BK289, BK290, BK295, HB⟩ := hcut
  cases kq with
  | zero => exact absurd HA.out (by simp [wide_Up.j0])
  | succ kj3 =>
   have H := HA.out
   clear HA
   simp only [wide_Up.j0] at H
   by_cases c15 : x21_3 = true
   ·subst c15
    replace H : (some (t291, t292, t294)) = some (r1, r2, r3) := by rw [if_pos rfl] at H; exact H
    simp only [Option.some.injEq, Prod.mk.injEq] at H
    obtain ⟨rfl, rfl, rfl⟩ := H
    replace hn295_289 := NB295_289.out
    replace hn289_295 := NB289_295.out
    replace hn295_290 := NB295_290.out
    replace hn290_295 := NB290_295.out
    replace hc295 := ce2_ BK295
    replace hn290_289 := NB290_289.out
    replace hn289_290 := NB289_290.out
    replace hc290 := ce2_ BK290
    go_wp2
    refine bodyPost_ret (results_ct rfl _ _ gb290 59 #[.int .u64 t291, .int .u64 t292] (0, 0) _ rfl (bp2_ (bq_ BK290)) Try.underlying59 rfl (by kernel_rfl)) rfl ?_
    exact fi_
   ·replace c15 := Bool.eq_false_iff.mpr c15
    subst c15
    rw [if_neg (show ¬ (false = true) by decide)] at H
    try dsimp only at H
    have H0_ := bo_ H; clear H; obtain ⟨⟨t296, t297⟩, A21, H⟩ := H0_
    replace H : ((wide_Add.f t291 t292 t296 t297).bind fun bt298 => (some (bt298.1, bt298.2.1, bt298.2.2))) = some (r1, r2, r3) := H
    have H0_ := bo_ H; clear H; obtain ⟨⟨t298, t299, t300⟩, A22, H⟩ := H0_
    replace H : (some (t298, t299, t300)) = some (r1, r2, r3) := H
    simp only [Option.some.injEq, Prod.mk.injEq] at H
    obtain ⟨rfl, rfl, rfl⟩ := H
    try go_wp2
    replace BK289 := Aside0.mk (blk_drew BK289.out)
    replace BK290 := Aside0.mk (blk_drew BK290.out)
    replace BK295 := Aside0.mk (blk_drew BK295.out)
    replace HB := Aside0.mk (below_drew1 HB.out)
    refine start_ (n := 7) (S := fun w' => w'.cell? ⟨gb295, 0, none⟩ = some (.int .u64 t291) ∧ w'.cell? ⟨gb295, 1, none⟩ = some (.int .u64 t292)) (ds := []) (bl_ 7 0) (by kernel_rfl) rfl (by kernel_rfl) (cc2_ BK295) (fun hHeld => ?_)
    generalize wc.drew = w23 at BK289 BK290 BK295 HB hHeld ⊢
    refine take_ (i := 0) (N := some 24) (v := ?_) (a' := ?_) (bl_ 7 1) rfl rfl (by kernel_rfl) (fun _ _ _ h => h) (Or.inl ⟨by rfl, ?_⟩) hHeld ?_ ?_
    rotate_left
    ·rintro w' ⟨s0, s1⟩
     go_simp
     with_reducible rfl
    rotate_left
    ·simp only [Act.put, List.setIfInBounds_toArray, List.set_cons_zero, List.set_cons_succ, i64_w, i32_w]
     rfl
    refine one_ (i := 1) (N := some 25) (bl_ 7 3) rfl rfl (by kernel_rfl) (by decide) (fun K hK => ?_)
    refine goesB_ Try.func23 #[.int .u64 1] ?_
    with_reducible refine (wide_Of.calls 1 t296 t297 _ A21.out).mono ?_
    rintro e w24 ⟨rfl, hb⟩
    refine ⟨_, rfl, ?_⟩
    replace BK289 := bb_ BK289 hb
    replace BK290 := bb_ BK290 hb
    replace BK295 := bb_ BK295 hb
    replace HB := bs_ w hb
    clear hb
    refine hK.out _ _ (cc2_ BK295) (fun hHeld => ?_)
    clear hK K
    refine nm_ (some 25) ?_
    refine one_ (i := 2) (N := some 26) (bl_ 7 7) rfl rfl (by kernel_rfl) (by decide) (fun K hK => ?_)
    refine goesB_ Try.func22 #[.agg #[.int .u64 t291, .int .u64 t292], .agg #[.int .u64 t296, .int .u64 t297]] ?_
    with_reducible refine (wide_Add.calls t291 t292 t296 t297 t298 t299 t300 _ A22.out).mono ?_
    rintro e w25 ⟨rfl, hb⟩
    refine ⟨_, rfl, ?_⟩
    replace BK289 := bb_ BK289 hb
    replace BK290 := bb_ BK290 hb
    replace BK295 := bb_ BK295 hb
    replace HB := bs_ w hb
    clear hb
    refine hK.out _ _ (cc2_ BK295) (fun hHeld => ?_)
    clear hK K
    refine nm_ (some 26) ?_
    refine pure_ (i := 3) (N := some 27) (v := ?_) (a' := ?_) (bl_ 7 15) rfl rfl (by kernel_rfl) (fun _ _ _ h => h) (Or.inl ⟨by rfl, ?_⟩) ?_ ?_
    rotate_left
    ·intro w'
     go_simp
     with_reducible rfl
    rotate_left
    ·simp only [Act.put, List.setIfInBounds_toArray, List.set_cons_zero, List.set_cons_succ, i64_w, i32_w]
     rfl
    refine pure_ (i := 4) (N := some 28) (v := ?_) (a' := ?_) (bl_ 7 31) rfl rfl (by kernel_rfl) (fun _ _ _ h => h) (Or.inl ⟨by rfl, ?_⟩) ?_ ?_
    rotate_left
    ·intro w'
     go_simp
     with_reducible rfl
    rotate_left
    ·simp only [Act.put, List.setIfInBounds_toArray, List.set_cons_zero, List.set_cons_succ, i64_w, i32_w]
     rfl
    refine one_ (i := 5) (N := none) (bl_ 7 63) rfl rfl (by kernel_rfl) (by decide) (fun K hK => ?_)
    have hs26 : w25.cell? ⟨gb290, 0, none⟩ = some (.int .u64 0) := (blk_cell BK290.out 0).trans rfl
    have hfs26 := blk_frozen BK290.out 0
    have hns26_0 := NB289_290.out
    have hns26_2 := NB295_290.out
    have hms26_0 := NB290_289.out
    have hms26_2 := NB290_295.out
    have hs27 : w25.cell? ⟨gb290, 1, none⟩ = some (.int .u64 0) := (blk_cell BK290.out 1).trans rfl
    have hfs27 := blk_frozen BK290.out 1
    have hns27_0 := NB289_290.out
    have hns27_2 := NB295_290.out
    have hms27_0 := NB290_289.out
    have hms27_2 := NB290_295.out
    refine sk_ ?_
    refine hK.out _ _ (cf2_ hHeld) (fun hHeld => ?_)
    clear hK K
    refine pure_ (i := 6) (N := some 5) (v := ?_) (a' := ?_) (bl_ 7 127) rfl rfl (by kernel_rfl) (fun _ _ _ h => h) (Or.inl ⟨by rfl, ?_⟩) ?_ ?_
    rotate_left
    ·intro w'
     go_simp
     with_reducible rfl
    rotate_left
    ·simp only [Act.put, List.setIfInBounds_toArray, List.set_cons_zero, List.set_cons_succ, i64_w, i32_w]
     rfl
    refine done_ (by kernel_rfl) ?_
    try go_wp2
    refine bodyPost_ret (results_ct rfl _ _ gb290 59 #[.int .u64 t298, .int .u64 t299] (0, 0) _ rfl (bp2_ (bq_ BK290)) Try.underlying59 rfl (by kernel_rfl)) rfl ?_
    exact fi_

end Go.Proofs.Ytiifhbaabnpkeaa.X
