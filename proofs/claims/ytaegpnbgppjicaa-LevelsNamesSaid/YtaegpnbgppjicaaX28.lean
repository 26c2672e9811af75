-- written by xprint.py, a program of this session over the kit's print
import Derived.Test.YtaegpnbgppjicaaX0
import Derived.Test.YtaegpnbgppjicaaX6
import Derived.Test.YtaegpnbgppjicaaX9
namespace Go.Proofs.Ytaegpnbgppjicaa.X
open Go.RowKit Go.Proofs.YtaegpnbgppjicaaW.PrintWords Go.Proofs.YtaegpnbgppjicaaW.PrintLast Go.Proofs.YtaegpnbgppjicaaW.PrintMore
attribute [local go_sem] max2_int min2_int max_two min_two max_three min_three max_four min_four   -- for this text's walks alone
set_option linter.unusedVariables false
set_option linter.unusedSimpArgs false

/-! ### wide_Up: function 52 -/
def wide_Up.j0 : Nat → Int → Bool → Int → Int → Option (Int × Int × Int)
  | 0, _, _, _, _ => none
  | k + 1, x8, x21, x313000, x313001 => if x21 = true then (some (x313000, x313001, x8)) else ((wide_Of.f 1).bind fun bt313 => ((wide_Add.f x313000 x313001 bt313.1 bt313.2).bind fun bt315 => (some (bt315.1, bt315.2.1, bt315.2.2))))
def wide_Up.f (k : Nat) (a0_0 : Int) (a0_1 : Int) (a1 : Int) : Option (Int × Int × Int) := (wide_Div.f k a0_0 a0_1 a1).bind fun bt308 => (if bt308.2.2.2 = 0 then (wide_Up.j0 k bt308.2.2.2 (bt308.2.2.1 == 0) bt308.1 bt308.2.1) else (wide_Up.j0 k bt308.2.2.2 true bt308.1 bt308.2.1))
theorem wide_Up.mono_l : ∀ k, (∀ y0 y1 y2 y3, LeO (wide_Up.j0 k y0 y1 y2 y3) (wide_Up.j0 (k + 1) y0 y1 y2 y3))
  | 0 => fun _ _ _ _ r h => by simp [wide_Up.j0] at h
  | k + 1 => by
    have ih0 := wide_Up.mono_l k
    · intro y0 y1 y2 y3
      unfold wide_Up.j0
      repeat' first
      | (with_reducible exact ih0 _ _ _ _)
      | (with_reducible exact wide_Div.mono _ _ _ _)
      | (with_reducible exact LeO.refl _)
      | (with_reducible exact LeO.none _)
      | (with_reducible refine LeO.ite ?_ ?_)
      | (with_reducible refine LeO.bind ?_ (fun _ => ?_))
      | exact ih0 _ _ _ _
      | exact wide_Div.mono _ _ _ _
      | exact LeO.none _
      | refine LeO.ite ?_ ?_
      | refine LeO.bind ?_ (fun _ => ?_)
theorem wide_Up.mono : ∀ a0 a1 a2 k, LeO (wide_Up.f k a0 a1 a2) (wide_Up.f (k + 1) a0 a1 a2) := by
  intro a0 a1 a2 k
  have ih0 := wide_Up.mono_l k
  unfold wide_Up.f
  repeat' first
      | (with_reducible exact ih0 _ _ _ _)
      | (with_reducible exact wide_Div.mono _ _ _ _)
      | (with_reducible exact LeO.refl _)
      | (with_reducible exact LeO.none _)
      | (with_reducible refine LeO.ite ?_ ?_)
      | (with_reducible refine LeO.bind ?_ (fun _ => ?_))
      | exact ih0 _ _ _ _
      | exact wide_Div.mono _ _ _ _
      | exact LeO.none _
      | refine LeO.ite ?_ ?_
      | refine LeO.bind ?_ (fun _ => ?_)
set_option maxHeartbeats 8000000 in
set_option maxRecDepth 100000 in
theorem wide_Up.calls (k : Nat) (a0_0 : Int) (a0_1 : Int) (a1 : Int) (r1 : Int) (r2 : Int) (r3 : Int) (w : World) (h : wide_Up.f k a0_0 a0_1 a1 = some (r1, r2, r3)) :
  Calls Try.prog 52 #[.agg #[.int .u64 a0_0, .int .u64 a0_1], .int .u64 a1] w fun e w' => e = .returned (.tuple #[.agg #[.int .u64 r1, .int .u64 r2], .int .i64 r3]) ∧ Below w.heap.size w w' := by
 have hu83 := Try.underlying83
 have HB := Aside0.mk (Below.refl w.heap.size w)
 have H : ((wide_Div.f k a0_0 a0_1 a1).bind fun bt308 => (if bt308.2.2.2 = 0 then (wide_Up.j0 k bt308.2.2.2 (bt308.2.2.1 == 0) bt308.1 bt308.2.1) else (wide_Up.j0 k bt308.2.2.2 true bt308.1 bt308.2.1))) = some (r1, r2, r3) := h
 clear h
 have H0_ := bo_ H; clear H; obtain ⟨⟨t308, t309, t310, t311⟩, A3, H⟩ := H0_
 replace H : (if t311 = 0 then (wide_Up.j0 k t311 (t310 == 0) t308 t309) else (wide_Up.j0 k t311 true t308 t309)) = some (r1, r2, r3) := H
 have HC4 := Aside0.mk H
 clear H
 go_enter Try.func52, Try.ntmps52
 go_upto_region 2 with (first | ((with_reducible refine gate_dst (N := 2) rfl ?_); (try refine ug_ (by rfl) ?_); refine bx_ #[.int .u64 a0_0, .int .u64 a0_1] 83 ?_; intro gb306 hg w5 BK306 hb; have GW306 := bz_ w hg; replace HB := bs_ w hb; clear hb hg) | ((with_reducible refine gate_dst (N := 4) rfl ?_); (try refine ug_ (by rfl) ?_); refine bx_ #[.int .u64 0, .int .u64 0] 83 ?_; intro gb307 hg w6 BK307 hb; have GW307 := bz_ w hg; have NB306_307 := bn_ BK306 hg; have NB307_306 := bm_ BK306 hg; replace BK306 := bb_ BK306 hb; replace HB := bs_ w hb; clear hb hg; replace hn306_307 := NB306_307.out; replace hn307_306 := NB307_306.out; replace hc306 := ce2_ BK306) | ((with_reducible refine gate_callee (f := 59) rfl ?_); (try refine ug_ (by rfl) ?_); refine goesA_ (some 12) Try.func59 #[.agg #[.int .u64 a0_0, .int .u64 a0_1], .int .u64 a1] ?_; (with_reducible refine (wide_Div.calls k a0_0 a0_1 a1 t308 t309 t310 t311 _ A3.out).mono ?_); rintro e w9 ⟨rfl, hb⟩; refine ⟨_, rfl, ?_⟩; replace BK306 := bb_ BK306 hb; replace BK307 := bb_ BK307 hb; replace HB := bs_ w hb; clear hb) | ((with_reducible refine gate_dst (N := 6) rfl ?_); (try refine ug_ (by rfl) ?_); refine bx_ #[.int .u64 0, .int .u64 0] 83 ?_; intro gb312 hg w10 BK312 hb; have GW312 := bz_ w hg; have NB306_312 := bn_ BK306 hg; have NB312_306 := bm_ BK306 hg; have NB307_312 := bn_ BK307 hg; have NB312_307 := bm_ BK307 hg; replace BK306 := bb_ BK306 hb; replace BK307 := bb_ BK307 hb; replace HB := bs_ w hb; clear hb hg; replace hn312_306 := NB312_306.out; replace hn306_312 := NB306_312.out; replace hn312_307 := NB312_307.out; replace hn307_312 := NB307_312.out; replace hc312 := ce2_ BK312))
 (try simp only [Act.put, List.setIfInBounds_toArray, List.set_cons_zero, List.set_cons_succ])
 go_cut [21] (fun v21 wc => ∃ (kq : Nat) (x21_3 : Bool), v21 = .bool x21_3 ∧ Aside0 (wide_Up.j0 kq t311 x21_3 t308 t309 = some (r1, r2, r3)) ∧ Aside0 (kq ≤ k) ∧ Aside0 (wc.heap[gb306]? = some (.cells #[.int .u64 a0_0, .int .u64 a0_1] 83 (0, 0))) ∧ Aside0 (wc.heap[gb307]? = some (.cells #[.int .u64 0, .int .u64 0] 83 (0, 0))) ∧ Aside0 (wc.heap[gb312]? = some (.cells #[.int .u64 t308, .int .u64 t309] 83 (0, 0))) ∧ Aside0 (Below w.heap.size w wc))
 case first =>
  have H := HC4.out
  clear HC4
  by_cases c14 : t311 = 0
  ·rw [if_pos c14] at H
   have c14b0 : (t311 == 0) = true := beq_iff_eq.mpr c14
   have c14b1 : (t311 != 0) = false := bne_eq_false_iff_eq.mpr c14
   clear c14
   (first | rw [c14b0] | (simp only [i64_w, i32_w]; rw [c14b0]) | skip)
   have H' := Aside0.mk H
   clear H
   go_wp2
   go_meet
   case rel => exact ⟨_, ((t310 == 0)), rf_, H', al_, ⟨(bt_ BK306)⟩, ⟨(bt_ BK307)⟩, ⟨(bp2_ (bq_ BK312))⟩, bw_⟩
  ·rw [if_neg c14] at H
   have c14b0 : (t311 == 0) = false := beq_eq_false_iff_ne.mpr c14
   have c14b1 : (t311 != 0) = true := bne_iff_ne.mpr c14
   (first | rw [c14b0] | (simp only [i64_w, i32_w]; rw [c14b0]) | skip)
   have H' := Aside0.mk H
   clear H
   go_wp2
   go_meet
   case rel => exact ⟨_, (true), rf_, H', al_, ⟨(bt_ BK306)⟩, ⟨(bt_ BK307)⟩, ⟨(bp2_ (bq_ BK312))⟩, bw_⟩
 case rest =>
  clear HC4
  obtain ⟨kq, x21_3, rfl, HA, HJ3, BK306, BK307, BK312, HB⟩ := hcut
  cases kq with
  | zero => exact absurd HA.out (by simp [wide_Up.j0])
  | succ kj3 =>
   have H := HA.out
   clear HA
   simp only [wide_Up.j0] at H
   by_cases c15 : x21_3 = true
   ·subst c15
    replace H : (some (t308, t309, t311)) = some (r1, r2, r3) := by rw [if_pos rfl] at H; exact H
    simp only [Option.some.injEq, Prod.mk.injEq] at H
    obtain ⟨rfl, rfl, rfl⟩ := H
    replace hn312_306 := NB312_306.out
    replace hn306_312 := NB306_312.out
    replace hn312_307 := NB312_307.out
    replace hn307_312 := NB307_312.out
    replace hc312 := ce2_ BK312
    replace hn307_306 := NB307_306.out
    replace hn306_307 := NB306_307.out
    replace hc307 := ce2_ BK307
    go_wp2
    refine bodyPost_ret (results_ct rfl _ _ gb307 83 #[.int .u64 t308, .int .u64 t309] (0, 0) _ rfl (bp2_ (bq_ BK307)) Try.underlying83 rfl (by kernel_rfl)) rfl ?_
    exact fi_
   ·replace c15 := Bool.eq_false_iff.mpr c15
    subst c15
    rw [if_neg (show ¬ (false = true) by decide)] at H
    try dsimp only at H
    have H0_ := bo_ H; clear H; obtain ⟨⟨t313, t314⟩, A21, H⟩ := H0_
    replace H : ((wide_Add.f t308 t309 t313 t314).bind fun bt315 => (some (bt315.1, bt315.2.1, bt315.2.2))) = some (r1, r2, r3) := H
    have H0_ := bo_ H; clear H; obtain ⟨⟨t315, t316, t317⟩, A22, H⟩ := H0_
    replace H : (some (t315, t316, t317)) = some (r1, r2, r3) := H
    simp only [Option.some.injEq, Prod.mk.injEq] at H
    obtain ⟨rfl, rfl, rfl⟩ := H
    try go_wp2
    replace BK306 := Aside0.mk (blk_drew BK306.out)
    replace BK307 := Aside0.mk (blk_drew BK307.out)
    replace BK312 := Aside0.mk (blk_drew BK312.out)
    replace HB := Aside0.mk (below_drew1 HB.out)
    refine start_ (n := 7) (S := fun w' => w'.cell? ⟨gb312, 0, none⟩ = some (.int .u64 t308) ∧ w'.cell? ⟨gb312, 1, none⟩ = some (.int .u64 t309)) (ds := []) (bl_ 7 0) (by kernel_rfl) rfl (by kernel_rfl) (cc2_ BK312) (fun hHeld => ?_)
    generalize wc.drew = w23 at BK306 BK307 BK312 HB hHeld ⊢
    refine take_ (i := 0) (N := some 24) (v := ?_) (a' := ?_) (bl_ 7 1) rfl rfl (by kernel_rfl) (fun _ _ _ h => h) (Or.inl ⟨by rfl, ?_⟩) hHeld ?_ ?_
    rotate_left
    ·rintro w' ⟨s0, s1⟩
     go_simp
     with_reducible rfl
    rotate_left
    ·simp only [Act.put, List.setIfInBounds_toArray, List.set_cons_zero, List.set_cons_succ, i64_w, i32_w]
     rfl
    refine one_ (i := 1) (N := some 25) (bl_ 7 3) rfl rfl (by kernel_rfl) (by decide) (fun K hK => ?_)
    refine goesB_ Try.func51 #[.int .u64 1] ?_
    with_reducible refine (wide_Of.calls 1 t313 t314 _ A21.out).mono ?_
    rintro e w24 ⟨rfl, hb⟩
    refine ⟨_, rfl, ?_⟩
    replace BK306 := bb_ BK306 hb
    replace BK307 := bb_ BK307 hb
    replace BK312 := bb_ BK312 hb
    replace HB := bs_ w hb
    clear hb
    refine hK.out _ _ (cc2_ BK312) (fun hHeld => ?_)
    clear hK K
    refine nm_ (some 25) ?_
    refine one_ (i := 2) (N := some 26) (bl_ 7 7) rfl rfl (by kernel_rfl) (by decide) (fun K hK => ?_)
    refine goesB_ Try.func58 #[.agg #[.int .u64 t308, .int .u64 t309], .agg #[.int .u64 t313, .int .u64 t314]] ?_
    with_reducible refine (wide_Add.calls t308 t309 t313 t314 t315 t316 t317 _ A22.out).mono ?_
    rintro e w25 ⟨rfl, hb⟩
    refine ⟨_, rfl, ?_⟩
    replace BK306 := bb_ BK306 hb
    replace BK307 := bb_ BK307 hb
    replace BK312 := bb_ BK312 hb
    replace HB := bs_ w hb
    clear hb
    refine hK.out _ _ (cc2_ BK312) (fun hHeld => ?_)
    clear hK K
    refine nm_ (some 26) ?_
    refine pure_ (i := 3) (N := some 27) (v := ?_) (a' := ?_) (bl_ 7 15) rfl rfl (by kernel_rfl) (fun _ _ _ h => h) (Or.inl ⟨by rfl, ?_⟩) ?_ ?_
    rotate_left
    ·intro w'
     go_simp
     with_reducible rfl
    rotate_left
    ·simp only [Act.put, List.setIfInBounds_toArray, List.set_cons_zero, List.set_cons_succ, i64_w, i32_w]
     rfl
    refine pure_ (i := 4) (N := some 28) (v := ?_) (a' := ?_) (bl_ 7 31) rfl rfl (by kernel_rfl) (fun _ _ _ h => h) (Or.inl ⟨by rfl, ?_⟩) ?_ ?_
    rotate_left
    ·intro w'
     go_simp
     with_reducible rfl
    rotate_left
    ·simp only [Act.put, List.setIfInBounds_toArray, List.set_cons_zero, List.set_cons_succ, i64_w, i32_w]
     rfl
    refine one_ (i := 5) (N := none) (bl_ 7 63) rfl rfl (by kernel_rfl) (by decide) (fun K hK => ?_)
    have hs26 : w25.cell? ⟨gb307, 0, none⟩ = some (.int .u64 0) := (blk_cell BK307.out 0).trans rfl
    have hfs26 := blk_frozen BK307.out 0
    have hns26_0 := NB306_307.out
    have hns26_2 := NB312_307.out
    have hms26_0 := NB307_306.out
    have hms26_2 := NB307_312.out
    have hs27 : w25.cell? ⟨gb307, 1, none⟩ = some (.int .u64 0) := (blk_cell BK307.out 1).trans rfl
    have hfs27 := blk_frozen BK307.out 1
    have hns27_0 := NB306_307.out
    have hns27_2 := NB312_307.out
    have hms27_0 := NB307_306.out
    have hms27_2 := NB307_312.out
    refine sk_ ?_
    refine hK.out _ _ (cf2_ hHeld) (fun hHeld => ?_)
    clear hK K
    refine pure_ (i := 6) (N := some 5) (v := ?_) (a' := ?_) (bl_ 7 127) rfl rfl (by kernel_rfl) (fun _ _ _ h => h) (Or.inl ⟨by rfl, ?_⟩) ?_ ?_
    rotate_left
    ·intro w'
     go_simp
     with_reducible rfl
    rotate_left
    ·simp only [Act.put, List.setIfInBounds_toArray, List.set_cons_zero, List.set_cons_succ, i64_w, i32_w]
     rfl
    refine done_ (by kernel_rfl) ?_
    try go_wp2
    refine bodyPost_ret (results_ct rfl _ _ gb307 83 #[.int .u64 t315, .int .u64 t316] (0, 0) _ rfl (bp2_ (bq_ BK307)) Try.underlying83 rfl (by kernel_rfl)) rfl ?_
    exact fi_

end Go.Proofs.Ytaegpnbgppjicaa.X
