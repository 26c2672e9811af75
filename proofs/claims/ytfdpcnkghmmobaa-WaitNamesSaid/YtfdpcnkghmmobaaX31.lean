-- written by xprint.py, a program of this session over the kit's print
import Derived.Test.YtfdpcnkghmmobaaX0
import Derived.Test.YtfdpcnkghmmobaaX6
import Derived.Test.YtfdpcnkghmmobaaX9
namespace Go.Proofs.Ytfdpcnkghmmobaa.X
open Go.RowKit Go.Proofs.YtfdpcnkghmmobaaW.PrintWords Go.Proofs.YtfdpcnkghmmobaaW.PrintLast Go.Proofs.YtfdpcnkghmmobaaW.PrintMore
attribute [local go_sem] max2_int min2_int max_two min_two max_three min_three max_four min_four   -- for this text's walks alone
set_option linter.unusedVariables false
set_option linter.unusedSimpArgs false

/-! ### wide_Up: function 59 -/
def wide_Up.j0 : Nat → Int → Bool → Int → Int → Option (Int × Int × Int)
  | 0, _, _, _, _ => none
  | k + 1, x8, x21, x317000, x317001 => if x21 = true then (some (x317000, x317001, x8)) else ((wide_Of.f 1).bind fun bt317 => ((wide_Add.f x317000 x317001 bt317.1 bt317.2).bind fun bt319 => (some (bt319.1, bt319.2.1, bt319.2.2))))
def wide_Up.f (k : Nat) (a0_0 : Int) (a0_1 : Int) (a1 : Int) : Option (Int × Int × Int) := (wide_Div.f k a0_0 a0_1 a1).bind fun bt312 => (if bt312.2.2.2 = 0 then (wide_Up.j0 k bt312.2.2.2 (bt312.2.2.1 == 0) bt312.1 bt312.2.1) else (wide_Up.j0 k bt312.2.2.2 true bt312.1 bt312.2.1))
theorem wide_Up.mono_l : ∀ k, (∀ y0 y1 y2 y3, LeO (wide_Up.j0 k y0 y1 y2 y3) (wide_Up.j0 (k + 1) y0 y1 y2 y3))
  | 0 => fun _ _ _ _ r h => by simp [wide_Up.j0] at h
  | k + 1 => by
    have ih0 := wide_Up.mono_l k
    · intro y0 y1 y2 y3
      unfold wide_Up.j0
      repeat' first
      | (with_reducible exact ih0 _ _ _ _)
      | (with_reducible exact wide_Div.mono _ _ _ _)
      | (with_reducible exact LeO.refl _)
      | (with_reducible exact LeO.none _)
      | (with_reducible refine LeO.ite ?_ ?_)
      | (with_reducible refine LeO.bind ?_ (fun _ => ?_))
      | exact ih0 _ _ _ _
      | exact wide_Div.mono _ _ _ _
      | exact LeO.none _
      | refine LeO.ite ?_ ?_
      | refine LeO.bind ?_ (fun _ => ?_)
theorem wide_Up.mono : ∀ a0 a1 a2 k, LeO (wide_Up.f k a0 a1 a2) (wide_Up.f (k + 1) a0 a1 a2) := by
  intro a0 a1 a2 k
  have ih0 := wide_Up.mono_l k
  unfold wide_Up.f
  repeat' first
      | (with_reducible exact ih0 _ _ _ _)
      | (with_reducible exact wide_Div.mono _ _ _ _)
      | (with_reducible exact LeO.refl _)
      | (with_reducible exact LeO.none _)
      | (with_reducible refine LeO.ite ?_ ?_)
      | (with_reducible refine LeO.bind ?_ (fun _ => ?_))
      | exact ih0 _ _ _ _
      | exact wide_Div.mono _ _ _ _
      | exact LeO.none _
      | refine LeO.ite ?_ ?_
      | refine LeO.bind ?_ (fun _ => ?_)
set_option maxHeartbeats 8000000 in
set_option maxRecDepth 100000 in
theorem wide_Up.calls (k : Nat) (a0_0 : Int) (a0_1 : Int) (a1 : Int) (r1 : Int) (r2 : Int) (r3 : Int) (w : World) (h : wide_Up.f k a0_0 a0_1 a1 = some (r1, r2, r3)) :
  Calls Try.prog 59 #[.agg #[.int .u64 a0_0, .int .u64 a0_1], .int .u64 a1] w fun e w' => e = .returned (.tuple #[.agg #[.int .u64 r1, .int .u64 r2], .int .i64 r3]) ∧ Below w.heap.size w w' := by
 have hu97 := Try.underlying97
 have HB := Aside0.mk (Below.refl w.heap.size w)
 have H : ((wide_Div.f k a0_0 a0_1 a1).bind fun bt312 => (if bt312.2.2.2 = 0 then (wide_Up.j0 k bt312.2.2.2 (bt312.2.2.1 == 0) bt312.1 bt312.2.1) else (wide_Up.j0 k bt312.2.2.2 true bt312.1 bt312.2.1))) = some (r1, r2, r3) := h
 clear h
 have H0_ := bo_ H; clear H; obtain ⟨⟨t312, t313, t314, t315⟩, A3, H⟩ := H0_
 replace H : (if t315 = 0 then (wide_Up.j0 k t315 (t314 == 0) t312 t313) else (wide_Up.j0 k t315 true t312 t313)) = some (r1, r2, r3) := H
 have HC4 := Aside0.mk H
 clear H
 go_enter Try.func59, Try.ntmps59
 go_upto_region 2 with (first | ((with_reducible refine gate_dst (N := 2) rfl ?_); (try refine ug_ (by rfl) ?_); refine bx_ #[.int .u64 a0_0, .int .u64 a0_1] 97 ?_; intro gb310 hg w5 BK310 hb; have GW310 := bz_ w hg; replace HB := bs_ w hb; clear hb hg) | ((with_reducible refine gate_dst (N := 4) rfl ?_); (try refine ug_ (by rfl) ?_); refine bx_ #[.int .u64 0, .int .u64 0] 97 ?_; intro gb311 hg w6 BK311 hb; have GW311 := bz_ w hg; have NB310_311 := bn_ BK310 hg; have NB311_310 := bm_ BK310 hg; replace BK310 := bb_ BK310 hb; replace HB := bs_ w hb; clear hb hg; replace hn310_311 := NB310_311.out; replace hn311_310 := NB311_310.out; replace hc310 := ce2_ BK310) | ((with_reducible refine gate_callee (f := 73) rfl ?_); (try refine ug_ (by rfl) ?_); refine goesA_ (some 12) Try.func73 #[.agg #[.int .u64 a0_0, .int .u64 a0_1], .int .u64 a1] ?_; (with_reducible refine (wide_Div.calls k a0_0 a0_1 a1 t312 t313 t314 t315 _ A3.out).mono ?_); rintro e w9 ⟨rfl, hb⟩; refine ⟨_, rfl, ?_⟩; replace BK310 := bb_ BK310 hb; replace BK311 := bb_ BK311 hb; replace HB := bs_ w hb; clear hb) | ((with_reducible refine gate_dst (N := 6) rfl ?_); (try refine ug_ (by rfl) ?_); refine bx_ #[.int .u64 0, .int .u64 0] 97 ?_; intro gb316 hg w10 BK316 hb; have GW316 := bz_ w hg; have NB310_316 := bn_ BK310 hg; have NB316_310 := bm_ BK310 hg; have NB311_316 := bn_ BK311 hg; have NB316_311 := bm_ BK311 hg; replace BK310 := bb_ BK310 hb; replace BK311 := bb_ BK311 hb; replace HB := bs_ w hb; clear hb hg; replace hn316_310 := NB316_310.out; replace hn310_316 := NB310_316.out; replace hn316_311 := NB316_311.out; replace hn311_316 := NB311_316.out; replace hc316 := ce2_ BK316))
 (try simp only [Act.put, List.setIfInBounds_toArray, List.set_cons_zero, List.set_cons_succ])
 go_cut [21] (fun v21 wc => ∃ (kq : Nat) (x21_3 : Bool), v21 = .bool x21_3 ∧ Aside0 (wide_Up.j0 kq t315 x21_3 t312 t313 = some (r1, r2, r3)) ∧ Aside0 (kq ≤ k) ∧ Aside0 (wc.heap[gb310]? = some (.cells #[.int .u64 a0_0, .int .u64 a0_1] 97 (0, 0))) ∧ Aside0 (wc.heap[gb311]? = some (.cells #[.int .u64 0, .int .u64 0] 97 (0, 0))) ∧ Aside0 (wc.heap[gb316]? = some (.cells #[.int .u64 t312, .int .u64 t313] 97 (0, 0))) ∧ Aside0 (Below w.heap.size w wc))
 case first =>
  have H := HC4.out
  clear HC4
  by_cases c14 : t315 = 0
  ·rw [if_pos c14] at H
   have c14b0 : (t315 == 0) = true := beq_iff_eq.mpr c14
   have c14b1 : (t315 != 0) = false := bne_eq_false_iff_eq.mpr c14
   clear c14
   (first | rw [c14b0] | (simp only [i64_w, i32_w]; rw [c14b0]) | skip)
   have H' := Aside0.mk H
   clear H
   go_wp2
   go_meet
   case rel => exact ⟨_, ((t314 == 0)), rf_, H', al_, ⟨(bt_ BK310)⟩, ⟨(bt_ BK311)⟩, ⟨(bp2_ (bq_ BK316))⟩, bw_⟩
  ·rw [if_neg c14] at H
   have c14b0 : (t315 == 0) = false := beq_eq_false_iff_ne.mpr c14
   have c14b1 : (t315 != 0) = true := bne_iff_ne.mpr c14
   (first | rw [c14b0] | (simp only [i64_w, i32_w]; rw [c14b0]) | skip)
   have H' := Aside0.mk H
   clear H
   go_wp2
   go_meet
   case rel => exact ⟨_, (true), rf_, H', al_, ⟨(bt_ BK310)⟩, ⟨(bt_ BK311)⟩, ⟨(bp2_ (bq_ BK316))⟩, bw_⟩
 case rest =>
  clear HC4
  obtain ⟨kq, x21_3, rfl, HA, HJ3, BK310, BK311, BK316, HB⟩ := hcut
  cases kq with
  | zero => exact absurd HA.out (by simp [wide_Up.j0])
  | succ kj3 =>
   have H := HA.out
   clear HA
   simp only [wide_Up.j0] at H
   by_cases c15 : x21_3 = true
   ·subst c15
    replace H : (some (t312, t313, t315)) = some (r1, r2, r3) := by rw [if_pos rfl] at H; exact H
    simp only [Option.some.injEq, Prod.mk.injEq] at H
    obtain ⟨rfl, rfl, rfl⟩ := H
    replace hn316_310 := NB316_310.out
    replace hn310_316 := NB310_316.out
    replace hn316_311 := NB316_311.out
    replace hn311_316 := NB311_316.out
    replace hc316 := ce2_ BK316
    replace hn311_310 := NB311_310.out
    replace hn310_311 := NB310_311.out
    replace hc311 := ce2_ BK311
    go_wp2
    refine bodyPost_ret (results_ct rfl _ _ gb311 97 #[.int .u64 t312, .int .u64 t313] (0, 0) _ rfl (bp2_ (bq_ BK311)) Try.underlying97 rfl (by kernel_rfl)) rfl ?_
    exact fi_
   ·replace c15 := Bool.eq_false_iff.mpr c15
    subst c15
    rw [if_neg (show ¬ (false = true) by decide)] at H
    try dsimp only at H
    have H0_ := bo_ H; clear H; obtain ⟨⟨t317, t318⟩, A21, H⟩ := H0_
    replace H : ((wide_Add.f t312 t313 t317 t318).bind fun bt319 => (some (bt319.1, bt319.2.1, bt319.2.2))) = some (r1, r2, r3) := H
    have H0_ := bo_ H; clear H; obtain ⟨⟨t319, t320, t321⟩, A22, H⟩ := H0_
    replace H : (some (t319, t320, t321)) = some (r1, r2, r3) := H
    simp only [Option.some.injEq, Prod.mk.injEq] at H
    obtain ⟨rfl, rfl, rfl⟩ := H
    try go_wp2
    replace BK310 := Aside0.mk (blk_drew BK310.out)
    replace BK311 := Aside0.mk (blk_drew BK311.out)
    replace BK316 := Aside0.mk (blk_drew BK316.out)
    replace HB := Aside0.mk (below_drew1 HB.out)
    refine start_ (n := 7) (S := fun w' => w'.cell? ⟨gb316, 0, none⟩ = some (.int .u64 t312) ∧ w'.cell? ⟨gb316, 1, none⟩ = some (.int .u64 t313)) (ds := []) (bl_ 7 0) (by kernel_rfl) rfl (by kernel_rfl) (cc2_ BK316) (fun hHeld => ?_)
    generalize wc.drew = w23 at BK310 BK311 BK316 HB hHeld ⊢
    refine take_ (i := 0) (N := some 24) (v := ?_) (a' := ?_) (bl_ 7 1) rfl rfl (by kernel_rfl) (fun _ _ _ h => h) (Or.inl ⟨by rfl, ?_⟩) hHeld ?_ ?_
    rotate_left
    ·rintro w' ⟨s0, s1⟩
     go_simp
     with_reducible rfl
    rotate_left
    ·simp only [Act.put, List.setIfInBounds_toArray, List.set_cons_zero, List.set_cons_succ, i64_w, i32_w]
     rfl
    refine one_ (i := 1) (N := some 25) (bl_ 7 3) rfl rfl (by kernel_rfl) (by decide) (fun K hK => ?_)
    refine goesB_ Try.func58 #[.int .u64 1] ?_
    with_reducible refine (wide_Of.calls 1 t317 t318 _ A21.out).mono ?_
    rintro e w24 ⟨rfl, hb⟩
    refine ⟨_, rfl, ?_⟩
    replace BK310 := bb_ BK310 hb
    replace BK311 := bb_ BK311 hb
    replace BK316 := bb_ BK316 hb
    replace HB := bs_ w hb
    clear hb
    refine hK.out _ _ (cc2_ BK316) (fun hHeld => ?_)
    clear hK K
    refine nm_ (some 25) ?_
    refine one_ (i := 2) (N := some 26) (bl_ 7 7) rfl rfl (by kernel_rfl) (by decide) (fun K hK => ?_)
    refine goesB_ Try.func72 #[.agg #[.int .u64 t312, .int .u64 t313], .agg #[.int .u64 t317, .int .u64 t318]] ?_
    with_reducible refine (wide_Add.calls t312 t313 t317 t318 t319 t320 t321 _ A22.out).mono ?_
    rintro e w25 ⟨rfl, hb⟩
    refine ⟨_, rfl, ?_⟩
    replace BK310 := bb_ BK310 hb
    replace BK311 := bb_ BK311 hb
    replace BK316 := bb_ BK316 hb
    replace HB := bs_ w hb
    clear hb
    refine hK.out _ _ (cc2_ BK316) (fun hHeld => ?_)
    clear hK K
    refine nm_ (some 26) ?_
    refine pure_ (i := 3) (N := some 27) (v := ?_) (a' := ?_) (bl_ 7 15) rfl rfl (by kernel_rfl) (fun _ _ _ h => h) (Or.inl ⟨by rfl, ?_⟩) ?_ ?_
    rotate_left
    ·intro w'
     go_simp
     with_reducible rfl
    rotate_left
    ·simp only [Act.put, List.setIfInBounds_toArray, List.set_cons_zero, List.set_cons_succ, i64_w, i32_w]
     rfl
    refine pure_ (i := 4) (N := some 28) (v := ?_) (a' := ?_) (bl_ 7 31) rfl rfl (by kernel_rfl) (fun _ _ _ h => h) (Or.inl ⟨by rfl, ?_⟩) ?_ ?_
    rotate_left
    ·intro w'
     go_simp
     with_reducible rfl
    rotate_left
    ·simp only [Act.put, List.setIfInBounds_toArray, List.set_cons_zero, List.set_cons_succ, i64_w, i32_w]
     rfl
    refine one_ (i := 5) (N := none) (bl_ 7 63) rfl rfl (by kernel_rfl) (by decide) (fun K hK => ?_)
    have hs26 : w25.cell? ⟨gb311, 0, none⟩ = some (.int .u64 0) := (blk_cell BK311.out 0).trans rfl
    have hfs26 := blk_frozen BK311.out 0
    have hns26_0 := NB310_311.out
    have hns26_2 := NB316_311.out
    have hms26_0 := NB311_310.out
    have hms26_2 := NB311_316.out
    have hs27 : w25.cell? ⟨gb311, 1, none⟩ = some (.int .u64 0) := (blk_cell BK311.out 1).trans rfl
    have hfs27 := blk_frozen BK311.out 1
    have hns27_0 := NB310_311.out
    have hns27_2 := NB316_311.out
    have hms27_0 := NB311_310.out
    have hms27_2 := NB311_316.out
    refine sk_ ?_
    refine hK.out _ _ (cf2_ hHeld) (fun hHeld => ?_)
    clear hK K
    refine pure_ (i := 6) (N := some 5) (v := ?_) (a' := ?_) (bl_ 7 127) rfl rfl (by kernel_rfl) (fun _ _ _ h => h) (Or.inl ⟨by rfl, ?_⟩) ?_ ?_
    rotate_left
    ·intro w'
     go_simp
     with_reducible rfl
    rotate_left
    ·simp only [Act.put, List.setIfInBounds_toArray, List.set_cons_zero, List.set_cons_succ, i64_w, i32_w]
     rfl
    refine done_ (by kernel_rfl) ?_
    try go_wp2
    refine bodyPost_ret (results_ct rfl _ _ gb311 97 #[.int .u64 t319, .int .u64 t320] (0, 0) _ rfl (bp2_ (bq_ BK311)) Try.underlying97 rfl (by kernel_rfl)) rfl ?_
    exact fi_

end Go.Proofs.Ytfdpcnkghmmobaa.X
