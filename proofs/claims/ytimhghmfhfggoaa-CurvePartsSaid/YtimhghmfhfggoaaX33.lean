-- written by xprint.py, a program of this session over the kit's print
import Derived.Test.YtimhghmfhfggoaaX0
import Derived.Test.YtimhghmfhfggoaaX18
import Derived.Test.YtimhghmfhfggoaaX26
import Derived.Test.YtimhghmfhfggoaaX32
namespace Go.Proofs.Ytimhghmfhfggoaa.X
open Go.RowKit Go.Proofs.YtimhghmfhfggoaaW.PrintWords Go.Proofs.YtimhghmfhfggoaaW.PrintLast Go.Proofs.YtimhghmfhfggoaaW.PrintMore
attribute [local go_sem] max2_int min2_int max_two min_two max_three min_three max_four min_four   -- for this text's walks alone
set_option linter.unusedVariables false
set_option linter.unusedSimpArgs false

mutual
def curve_Pass.j0 : Nat → List (S49) → List (S62) → Int → Bool → Option ((List (S62)) × Int)
  | 0, _, _, _, _ => none
  | k + 1, x0, x1, x6, x27 => if x27 = true then (some (([] : List (S62)), x6)) else (curve_Pass.l0 k x1 ([] : List (S51)) x0 (x0.length : Int) 0)
def curve_Pass.l0 : Nat → List (S62) → List (S51) → List (S49) → Int → Int → Option ((List (S62)) × Int)
  | 0, _, _, _, _, _ => none
  | k + 1, x1, x7, x29, x30, x31 => if x31 < x30 then (if 0 ≤ x31 then (if x31 < (x29.length : Int) then (if 0 < (x1.length : Int) then ((bucket_Full.f ((rd_T49 x29 x31).f0) ((rd_T49 x29 x31).f1) ((rd_T49 x29 x31).f2) ((rd_T62 x1 0).f0)).bind fun bt298 => (if bt298.2.2.2.2.2.2 = 0 then (if x7.length < 2932031007402 then (curve_Pass.l0 k x1 (x7 ++ [(⟨(⟨bt298.1, bt298.2.1, bt298.2.2.1⟩ : S49), bt298.2.2.2.1, bt298.2.2.2.2.1, bt298.2.2.2.2.2.1⟩ : S51)]) x29 x30 (wrap64 (x31 + 1))) else (none)) else (some (([] : List (S62)), bt298.2.2.2.2.2.2)))) else (none)) else (none)) else (none)) else (curve_Pass.l1 k x7 ([] : List (S62)) x1 (x1.length : Int) 0)
def curve_Pass.l1 : Nat → List (S51) → List (S62) → List (S62) → Int → Int → Option ((List (S62)) × Int)
  | 0, _, _, _, _, _ => none
  | k + 1, x7, x12, x52, x53, x54 => if x54 < x53 then (if 0 ≤ x54 then (if x54 < (x52.length : Int) then ((levels_Take.f k x7 ((rd_T62 x52 x54).f0) ((rd_T62 x52 x54).f1)).bind fun bt311 => (if bt311.2.2 = 0 then (if bt311.2.1 = true then (if x12.length < 8796093022208 then (curve_Pass.l1 k bt311.1 (x12 ++ [(⟨(rd_T62 x52 x54).f0, (rd_T62 x52 x54).f1⟩ : S62)]) x52 x53 (wrap64 (x54 + 1))) else (none)) else (curve_Pass.l1 k bt311.1 x12 x52 x53 (wrap64 (x54 + 1)))) else (some (([] : List (S62)), bt311.2.2)))) else (none)) else (none)) else (some (x12, 0))
end
def curve_Pass.f (k : Nat) (l0 : List (S49)) (l1 : List (S62)) : Option ((List (S62)) × Int) := (curve_both.f k l0 l1).bind fun t294 => (if t294 = 0 then (curve_Pass.j0 k l0 l1 t294 ((l1.length : Int) == 0)) else (curve_Pass.j0 k l0 l1 t294 true))
def curve_Pass.T8 : Bool × List (List Nat × List Nat) := (true, [([], []), ([], []), ([1], [1]), ([2], [2]), ([3], [3]), ([0, 4], [0, 4]), ([5], [5]), ([6], [6]), ([6], [6]), ([], []), ([9, 7, 5, 0, 1, 2, 3, 4, 5, 6, 7, 9], [7, 9]), ([8, 10, 0, 1, 2, 3, 4, 5, 6, 7, 8, 9, 10], [8])])
def curve_Pass.B8 : List Nat := [0, 0, 2, 6, 14, 31, 63, 127, 127, 0, 767, 2047]
theorem curve_Pass.tab8 : rtab .any (opsOf Try.f21 8) = curve_Pass.T8 := by kernel_rfl
theorem curve_Pass.bits8 : waitsOk curve_Pass.T8.2 curve_Pass.B8 = true := by kernel_rfl
set_option maxHeartbeats 8000000 in
set_option maxRecDepth 100000 in
theorem curve_Pass.calls (k : Nat) (A0 : Option Addr) (c0 : Nat) (l0 : List (S49)) (A1 : Option Addr) (c1 : Nat) (l1 : List (S62)) (r1 : List (S62)) (r2 : Int) (w : World) (hr0 : Kd.C k49 w A0 l0.length l0) (hc0 : l0.length ≤ c0) (hr1 : Kd.C k62 w A1 l1.length l1) (hc1 : l1.length ≤ c1) (h : curve_Pass.f k l0 l1 = some (r1, r2)) :
  Calls Try.prog 21 #[.slice A0 l0.length c0, .slice A1 l1.length c1] w fun e w' => ∃ v0_ : Value, e = .returned (.tuple #[v0_, .int .i64 r2]) ∧ Kd.R k62 62 w' w.heap.size (fun _ => True) v0_ r1 ∧ Below w.heap.size w w' := by
 have hu49 := Try.underlying49
 have hu51 := Try.underlying51
 have hu62 := Try.underlying62
 have HR0 := Aside0.mk hr0
 have HC0 := Aside0.mk hc0
 clear hr0 hc0
 have HR1 := Aside0.mk hr1
 have HC1 := Aside0.mk hc1
 clear hr1 hc1
 have HB := Aside0.mk (Below.refl w.heap.size w)
 have H : ((curve_both.f k l0 l1).bind fun t294 => (if t294 = 0 then (curve_Pass.j0 k l0 l1 t294 ((l1.length : Int) == 0)) else (curve_Pass.j0 k l0 l1 t294 true))) = some (r1, r2) := h
 clear h
 have H0_ := bo_ H; clear H; obtain ⟨t294, A3, H⟩ := H0_
 replace H : (if t294 = 0 then (curve_Pass.j0 k l0 l1 t294 ((l1.length : Int) == 0)) else (curve_Pass.j0 k l0 l1 t294 true)) = some (r1, r2) := H
 have HC4 := Aside0.mk H
 clear H
 go_enter Try.func21, Try.ntmps21
 go_upto_region 2 with (first | ((with_reducible refine gate_callee (f := 32) rfl ?_); (try refine ug_ (by rfl) ?_); refine goesA_ (some 20) Try.func32 #[.slice A0 l0.length c0, .slice A1 l1.length c1] ?_; (with_reducible refine (curve_both.calls k _ _ l0 _ _ l1 t294 _ ?side1 ?side2 ?side3 ?side4 A3.out).mono ?_); (case side1 => exact ch_ HR0); (case side2 => exact HC0.out); (case side3 => exact ch_ HR1); (case side4 => exact HC1.out); rintro e w5 ⟨rfl, hb⟩; refine ⟨_, rfl, ?_⟩; replace HB := bs_ w hb; clear hb))
 (try simp only [Act.put, List.setIfInBounds_toArray, List.set_cons_zero, List.set_cons_succ])
 go_cut [27] (fun v27 wc => ∃ (kq : Nat) (x27_3 : Bool), v27 = .bool x27_3 ∧ Aside0 (curve_Pass.j0 kq l0 l1 t294 x27_3 = some (r1, r2)) ∧ Aside0 (kq ≤ k) ∧ Aside0 (Below w.heap.size w wc))
 case first =>
  have H := HC4.out
  clear HC4
  by_cases c6 : t294 = 0
  ·rw [if_pos c6] at H
   have c6b0 : (t294 == 0) = true := beq_iff_eq.mpr c6
   have c6b1 : (t294 != 0) = false := bne_eq_false_iff_eq.mpr c6
   clear c6
   (first | rw [c6b0] | (simp only [i64_w, i32_w]; rw [c6b0]) | skip)
   have H' := Aside0.mk H
   clear H
   go_wp2
   go_meet
   case rel => exact ⟨_, (((l1.length : Int) == 0)), rf_, H', al_, bw_⟩
  ·rw [if_neg c6] at H
   have c6b0 : (t294 == 0) = false := beq_eq_false_iff_ne.mpr c6
   have c6b1 : (t294 != 0) = true := bne_iff_ne.mpr c6
   (first | rw [c6b0] | (simp only [i64_w, i32_w]; rw [c6b0]) | skip)
   have H' := Aside0.mk H
   clear H
   go_wp2
   go_meet
   case rel => exact ⟨_, (true), rf_, H', al_, bw_⟩
 case rest =>
  clear HC4
  try clear c1
  obtain ⟨kq, x27_3, rfl, HA, HJ3, HB⟩ := hcut
  cases kq with
  | zero => exact absurd HA.out (by simp [curve_Pass.j0])
  | succ kj3 =>
   have H := HA.out
   clear HA
   simp only [curve_Pass.j0] at H
   by_cases c7 : x27_3 = true
   ·subst c7
    replace H : (some (([] : List (S62)), t294)) = some (r1, r2) := by rw [if_pos rfl] at H; exact H
    simp only [Option.some.injEq, Prod.mk.injEq] at H
    obtain ⟨rfl, rfl⟩ := H
    go_wp2
    go_ret2
    exact ⟨_, by first | rfl | (simp [errW_none, errW_some] <;> rfl) | (simp [*, errW_none, errW_some] <;> rfl), by first | exact Kd.R_nil _ _ _ _ _ | exact Kd.N_nil _ _ _ _ _ | exact Kd.V_nil _ _ _ _ _ | exact Kd.Q_nil _ _ _ _ _ | exact Kd.S_nil _ _ _ _ _, by repeat (first | (with_reducible first | exact HB.out | apply below_alloc | apply pw_below_drewN | apply below_drew1) | exact HB.out)⟩
   ·replace c7 := Bool.eq_false_iff.mpr c7
    subst c7
    rw [if_neg (show ¬ (false = true) by decide)] at H
    try dsimp only at H
    have H' := Aside0.mk H
    clear H
    go_wp2
    go_loopg [7, 31] kj3 (fun kq v7 v31 w' => ∃ (x7_2 : List (S51)) (x31_2 : Int), v31 = .int .i64 x31_2 ∧ Aside0 (curve_Pass.l0 kq l1 x7_2 l0 (l0.length : Int) x31_2 = some (r1, r2)) ∧ Aside0 (kq ≤ kj3) ∧ Aside0 (Kd.R k51 51 w' w.heap.size (fun _ => True) v7 x7_2) ∧ Aside0 (Below w.heap.size w w'))
    case atStart => exact ⟨(([] : List (S51))), (0), rf_, H', ⟨Nat.le_refl _⟩, ⟨by first | exact Kd.R_nil _ _ _ _ _ | exact Kd.N_nil _ _ _ _ _ | exact Kd.V_nil _ _ _ _ _ | exact Kd.Q_nil _ _ _ _ _ | exact Kd.S_nil _ _ _ _ _⟩, bw_⟩
    case round =>
     clear H'
     try clear c1
     try clear c7
     obtain ⟨x7_2, x31_2, rfl, HA, HK2, HO_7, HB⟩ := hrel
     cases gk with
     | zero => exact absurd HA.out (by simp [curve_Pass.l0])
     | succ k2 =>
      have H := HA.out
      clear HA
      simp only [curve_Pass.l0] at H
      by_cases c8 : x31_2 < (l0.length : Int)
      ·rw [if_pos c8] at H
       have c8b0 : decide (x31_2 < (l0.length : Int)) = true := decide_eq_true c8
       clear c8
       by_cases c9 : 0 ≤ x31_2
       rotate_left
       ·rw [if_neg c9] at H; exact absurd H (by simp)
       rw [if_pos c9] at H
       have c9b0 : decide (0 ≤ x31_2) = true := decide_eq_true c9
       clear c9
       by_cases c10 : x31_2 < (l0.length : Int)
       rotate_left
       ·rw [if_neg c10] at H; exact absurd H (by simp)
       rw [if_pos c10] at H
       have c10b0 : decide (x31_2 < (l0.length : Int)) = true := decide_eq_true c10
       clear c10
       by_cases c11 : 0 < (l1.length : Int)
       rotate_left
       ·rw [if_neg c11] at H; exact absurd H (by simp)
       rw [if_pos c11] at H
       have c11b0 : decide (0 < (l1.length : Int)) = true := decide_eq_true c11
       have c11b1 : decide (0 < l1.length) = true := decide_eq_true (by omega)
       clear c11
       have H0_ := bo_ H; clear H; obtain ⟨⟨t298, t299, t300, t301, t302, t303, t304⟩, A12, H⟩ := H0_
       try dsimp only at H
       by_cases c13 : t304 = 0
       ·rw [if_pos c13] at H
        have c13b0 : (t304 == 0) = true := beq_iff_eq.mpr c13
        have c13b1 : (t304 != 0) = false := bne_eq_false_iff_eq.mpr c13
        clear c13
        by_cases c14 : x7_2.length < 2932031007402
        rotate_left
        ·rw [if_neg c14] at H; exact absurd H (by simp)
        rw [if_pos c14] at H
        have LMc14 := Aside0.mk c14
        clear c14
        obtain ⟨y306, hy306⟩ : ∃ y_ : List (S51), y_ = (x7_2 ++ [(⟨(⟨t298, t299, t300⟩ : S49), t301, t302, t303⟩ : S51)]) := ⟨_, rfl⟩
        replace H : (curve_Pass.l0 k2 l1 y306 l0 (l0.length : Int) (wrap64 (x31_2 + 1))) = some (r1, r2) := by first | (rw [hy306]; with_reducible exact H) | (have H2_ := (Option.bind_some _ _).symm.trans H; rw [hy306]; with_reducible exact H2_) | (have H2_ := (Option.bind_some _ _).symm.trans H; with_reducible exact H2_) | with_reducible exact H | (rw [hy306]; exact H) | exact H
        have Ny306 := Aside0.mk hy306
        clear hy306
        have H' := Aside0.mk H
        clear H
        have p295 : 0 ≤ (x31_2 : Int) := of_decide_eq_true (by first | (with_reducible assumption) | assumption)
        have q295 : x31_2 < (l0.length : Int) := of_decide_eq_true (by first | (with_reducible assumption) | assumption)
        obtain ⟨ad295, e295, hx295_0, hx295_1, hx295_2⟩ := at_T49 HR0.out x31_2 p295 q295
        cases e295
        replace hx295_0 := (HB.out.cell (World.block_lt_of_cell? w _ hx295_0)).trans hx295_0
        replace hx295_1 := (HB.out.cell (World.block_lt_of_cell? w _ hx295_1)).trans hx295_1
        replace hx295_2 := (HB.out.cell (World.block_lt_of_cell? w _ hx295_2)).trans hx295_2
        replace p295 := eq_true p295
        replace q295 := eq_true q295
        try go_wp2_with (first | ((with_reducible refine gate_dst (N := 9) rfl ?_); (try refine ug_ (by rfl) ?_); refine bx_ #[.int .i64 0, .int .i64 0, .int .i64 0] 49 ?_; intro gb296 hg w15 BK296 hb; have GW296 := bz_ w hg; have GE296 := GW296; replace HO_7 := rb_ HO_7 hb; replace HB := bs_ w hb; clear hb hg; replace hc296 := ce3_ BK296))
        have n0_ : Aside0 (Kd.R k51 51 (((w15.setCell ⟨gb296, 0, none⟩ (.int .i64 ((rd_T49 l0 x31_2).f0))).setCell ⟨gb296, 1, none⟩ (.int .i64 ((rd_T49 l0 x31_2).f1))).setCell ⟨gb296, 2, none⟩ (.int .i64 ((rd_T49 l0 x31_2).f2))) w.heap.size (fun _ => True) u7 x7_2) := ⟨by (with_reducible repeat (first | apply Kd.R_alloc | apply Kd.R_drewN | apply Kd.R_drew)); exact Kd.R_mono (rf3_ (g := gb296) (Kd.R_types HO_7.out BK296.out (by decide)) (fun _ hk => hk.2)) (fun _ hk => trivial)⟩
        have n1_ : Aside0 ((((w15.setCell ⟨gb296, 0, none⟩ (.int .i64 ((rd_T49 l0 x31_2).f0))).setCell ⟨gb296, 1, none⟩ (.int .i64 ((rd_T49 l0 x31_2).f1))).setCell ⟨gb296, 2, none⟩ (.int .i64 ((rd_T49 l0 x31_2).f2))).heap[gb296]? = some (.cells #[.int .i64 ((rd_T49 l0 x31_2).f0), .int .i64 ((rd_T49 l0 x31_2).f1), .int .i64 ((rd_T49 l0 x31_2).f2)] 49 (0, 0))) := ⟨(bp3_ (bq_ BK296))⟩
        have n2_ : Aside0 (Below w.heap.size w (((w15.setCell ⟨gb296, 0, none⟩ (.int .i64 ((rd_T49 l0 x31_2).f0))).setCell ⟨gb296, 1, none⟩ (.int .i64 ((rd_T49 l0 x31_2).f1))).setCell ⟨gb296, 2, none⟩ (.int .i64 ((rd_T49 l0 x31_2).f2)))) := bw_
        (try clear HO_7)
        (try clear BK296)
        (try clear HB)
        generalize (((w15.setCell ⟨gb296, 0, none⟩ (.int .i64 ((rd_T49 l0 x31_2).f0))).setCell ⟨gb296, 1, none⟩ (.int .i64 ((rd_T49 l0 x31_2).f1))).setCell ⟨gb296, 2, none⟩ (.int .i64 ((rd_T49 l0 x31_2).f2))) = w17 at n0_ n1_ n2_ ⊢
        have HO_7 := n0_
        have BK296 := n1_
        have HB := n2_
        clear n0_ n1_ n2_
        replace HO_7 := Aside0.mk (Kd.R_drew HO_7.out)
        replace BK296 := Aside0.mk (blk_drew BK296.out)
        replace HB := Aside0.mk (below_drew1 HB.out)
        have p297 : 0 ≤ (0 : Int) := (by omega)
        have q297 : 0 < (l1.length : Int) := of_decide_eq_true (by first | (with_reducible assumption) | assumption)
        obtain ⟨ad297, e297, hx297_0, hx297_1⟩ := at_T62 HR1.out 0 p297 q297
        have hw297_1 := hx297_1
        (try rw [show ((0 : Int)).toNat = 0 from rfl] at hw297_1)
        (try rw [show 0 * 2 = 0 from rfl] at hw297_1)
        (try rw [Addr.add_zero'] at hw297_1)
        have hw297_0 := hx297_0
        (try rw [show ((0 : Int)).toNat = 0 from rfl] at hw297_0)
        (try rw [show 0 * 2 = 0 from rfl] at hw297_0)
        (try rw [Addr.add_zero'] at hw297_0)
        cases e297
        have qi297 : (0 < l1.length) = True := eq_true (by omega)
        (try rw [show ((0 : Int)).toNat = 0 from rfl] at hx297_0)
        (try rw [show 0 * 2 = 0 from rfl] at hx297_0)
        (try rw [Addr.add_zero'] at hx297_0)
        (try rw [show ((0 : Int)).toNat = 0 from rfl] at hx297_1)
        (try rw [show 0 * 2 = 0 from rfl] at hx297_1)
        (try rw [Addr.add_zero'] at hx297_1)
        replace hx297_0 := (HB.out.cell (World.block_lt_of_cell? w _ hx297_0)).trans hx297_0
        replace hx297_1 := (HB.out.cell (World.block_lt_of_cell? w _ hx297_1)).trans hx297_1
        replace p297 := eq_true p297
        replace q297 := eq_true q297
        refine start_ (n := 12) (S := fun w' => w'.cell? ⟨gb296, 0, none⟩ = some (.int .i64 ((rd_T49 l0 x31_2).f0)) ∧ w'.cell? ⟨gb296, 1, none⟩ = some (.int .i64 ((rd_T49 l0 x31_2).f1)) ∧ w'.cell? ⟨gb296, 2, none⟩ = some (.int .i64 ((rd_T49 l0 x31_2).f2)) ∧ w'.cell? ad297 = some (.int .u64 ((rd_T62 l1 0).f0)) ∧ w'.cell? ⟨ad297.block, ad297.off + 1, none⟩ = some (.int .i64 ((rd_T62 l1 0).f1))) (ds := []) (bl_ 12 0) (by kernel_rfl) rfl (by kernel_rfl) ⟨(blk_cell BK296.out 0).trans rfl, (blk_cell BK296.out 1).trans rfl, (blk_cell BK296.out 2).trans rfl, ((HB.out.cell (World.block_lt_of_cell? w _ hw297_0)).trans hw297_0), ((HB.out.cell (World.block_lt_of_cell? w _ hw297_1)).trans hw297_1)⟩ (fun hHeld => ?_); refine with_tabW curve_Pass.tab8 curve_Pass.bits8 (fun HT_ HW_ => ?_)
        generalize w17.drew = w18 at HO_7 BK296 HB hx297_0 hx297_1 hHeld ⊢
        refine pa_ 1 (some 37) (bl_ 12 2) HT_ ?_
        refine pa_ 2 (some 38) (bl_ 12 6) HT_ ?_
        refine pa_ 3 (some 39) (bl_ 12 14) HT_ ?_
        refine ta_ 0 (some 36) (bl_ 12 15) HT_ HW_ hHeld ?_
        refine ta_ 4 (some 40) (bl_ 12 31) HT_ HW_ hHeld ?_
        refine join_ (σ := Nat) 2 (bl_ 12 1023) (fun s_ => [(41, .tuple #[.agg #[.int .i64 t298, .int .i64 t299, .int .i64 t300, .int .i64 t301, .int .i64 t302, .int .u64 t303], .int .i64 t304]), (10, .pointer (some ⟨s_, 0, none⟩)), (35, .tuple #[.agg #[.int .i64 t298, .int .i64 t299, .int .i64 t300, .int .i64 t301, .int .i64 t302, .int .u64 t303], .int .i64 t304]), (42, .agg #[.int .i64 t298, .int .i64 t299, .int .i64 t300, .int .i64 t301, .int .i64 t302, .int .u64 t303]), (43, .int .i64 t304)]) (fun s_ w' => (w'.cell? ⟨gb296, 0, none⟩ = some (.int .i64 ((rd_T49 l0 x31_2).f0)) ∧ w'.cell? ⟨gb296, 1, none⟩ = some (.int .i64 ((rd_T49 l0 x31_2).f1)) ∧ w'.cell? ⟨gb296, 2, none⟩ = some (.int .i64 ((rd_T49 l0 x31_2).f2)) ∧ w'.cell? ad297 = some (.int .u64 ((rd_T62 l1 0).f0)) ∧ w'.cell? ⟨ad297.block, ad297.off + 1, none⟩ = some (.int .i64 ((rd_T62 l1 0).f1))) ∧ (Kd.R k51 51 w' w.heap.size (fun k_ => k_ ≠ s_) u7 x7_2) ∧ (w'.heap[gb296]? = some (.cells #[.int .i64 ((rd_T49 l0 x31_2).f0), .int .i64 ((rd_T49 l0 x31_2).f1), .int .i64 ((rd_T49 l0 x31_2).f2)] 49 (0, 0))) ∧ (w'.heap[s_]? = some (.cells #[.int .i64 0, .int .i64 0, .int .i64 0, .int .i64 0, .int .i64 0, .int .u64 0] 51 (0, 0))) ∧ (w.heap.size ≤ s_) ∧ (w.heap.size ≤ s_) ∧ (gb296 ≠ s_) ∧ (s_ ≠ gb296) ∧ (Below w.heap.size w w')) ?_ ?_
        rotate_left
        ·intro hCont
         refine tw_ 5 9 (some 41) (some 10) (bl_ 12 63) (bl_ 12 543) HT_ (fun K hK => ?_) fun K hK => ?_
         ·refine goesB_ Try.func39 #[.agg #[.int .i64 ((rd_T49 l0 x31_2).f0), .int .i64 ((rd_T49 l0 x31_2).f1), .int .i64 ((rd_T49 l0 x31_2).f2)], .int .u64 ((rd_T62 l1 0).f0)] ?_
          with_reducible refine (bucket_Full.calls ((rd_T49 l0 x31_2).f0) ((rd_T49 l0 x31_2).f1) ((rd_T49 l0 x31_2).f2) ((rd_T62 l1 0).f0) t298 t299 t300 t301 t302 t303 t304 _ A12.out).mono ?_
          rintro e w19 ⟨rfl, hb⟩
          refine ⟨_, rfl, ?_⟩
          replace HO_7 := rb_ HO_7 hb
          replace BK296 := bb_ BK296 hb
          replace HB := bs_ w hb
          clear hb
          refine hK.out _ _ ⟨(blk_cell BK296.out 0).trans rfl, (blk_cell BK296.out 1).trans rfl, (blk_cell BK296.out 2).trans rfl, ((HB.out.cell (World.block_lt_of_cell? w _ hw297_0)).trans hw297_0), ((HB.out.cell (World.block_lt_of_cell? w _ hw297_1)).trans hw297_1)⟩ (fun hHeld => ?_)
          clear hK K
          refine nm_ (some 41) ?_
          refine pa_ 6 (some 35) (bl_ 12 127) HT_ ?_
          refine pa_ 7 (some 42) (bl_ 12 255) HT_ ?_
          refine pa_ 8 (some 43) (bl_ 12 511) HT_ ?_
          refine oa_ 9 (some 10) (bl_ 12 1023) HT_ fun K hK => ?_
          refine bs2_ #[.int .i64 0, .int .i64 0, .int .i64 0, .int .i64 0, .int .i64 0, .int .u64 0] 51 ?_
          intro gb305 hg w20 BK305 hb
          have GW305 := bz_ w hg
          have GE305 := GW305
          have NB296_305 := bn_ BK296 hg
          have NB305_296 := bm_ BK296 hg
          replace HO_7 := Aside0.mk (Kd.R_below (Kd.R_elderB (rs_ HO_7) gb305 (Nat.le_of_eq hg.symm)) hb)
          replace BK296 := bb_ BK296 hb
          replace HB := bs_ w hb
          clear hb hg
          refine hK.out _ _ ⟨(blk_cell BK296.out 0).trans rfl, (blk_cell BK296.out 1).trans rfl, (blk_cell BK296.out 2).trans rfl, ((HB.out.cell (World.block_lt_of_cell? w _ hw297_0)).trans hw297_0), ((HB.out.cell (World.block_lt_of_cell? w _ hw297_1)).trans hw297_1)⟩ (fun hHeld => ?_)
          clear hK K
          refine nm_ (some 10) ?_
          exact no_ (hCont (gb305) _ ⟨hHeld, (by (with_reducible repeat (first | apply Kd.R_alloc | apply Kd.R_drewN | apply Kd.R_drew)); exact Kd.R_mono HO_7.out (fun _ hk => hk.2)), (bq_ BK296), (bq_ BK305), GW305.out, GE305.out, NB296_305.out, NB305_296.out, bh_⟩)
         ·refine bs2_ #[.int .i64 0, .int .i64 0, .int .i64 0, .int .i64 0, .int .i64 0, .int .u64 0] 51 ?_
          intro gb305 hg w19 BK305 hb
          have GW305 := bz_ w hg
          have GE305 := GW305
          have NB296_305 := bn_ BK296 hg
          have NB305_296 := bm_ BK296 hg
          replace HO_7 := Aside0.mk (Kd.R_below (Kd.R_elderB (rs_ HO_7) gb305 (Nat.le_of_eq hg.symm)) hb)
          replace BK296 := bb_ BK296 hb
          replace HB := bs_ w hb
          clear hb hg
          refine hK.out _ _ ⟨(blk_cell BK296.out 0).trans rfl, (blk_cell BK296.out 1).trans rfl, (blk_cell BK296.out 2).trans rfl, ((HB.out.cell (World.block_lt_of_cell? w _ hw297_0)).trans hw297_0), ((HB.out.cell (World.block_lt_of_cell? w _ hw297_1)).trans hw297_1)⟩ (fun hHeld => ?_)
          clear hK K
          refine nm_ (some 10) ?_
          refine oa_ 5 (some 41) (bl_ 12 575) HT_ fun K hK => ?_
          refine goesB_ Try.func39 #[.agg #[.int .i64 ((rd_T49 l0 x31_2).f0), .int .i64 ((rd_T49 l0 x31_2).f1), .int .i64 ((rd_T49 l0 x31_2).f2)], .int .u64 ((rd_T62 l1 0).f0)] ?_
          with_reducible refine (bucket_Full.calls ((rd_T49 l0 x31_2).f0) ((rd_T49 l0 x31_2).f1) ((rd_T49 l0 x31_2).f2) ((rd_T62 l1 0).f0) t298 t299 t300 t301 t302 t303 t304 _ A12.out).mono ?_
          rintro e w20 ⟨rfl, hb⟩
          refine ⟨_, rfl, ?_⟩
          replace HO_7 := rb_ HO_7 hb
          replace BK296 := bb_ BK296 hb
          replace BK305 := bb_ BK305 hb
          replace HB := bs_ w hb
          clear hb
          refine hK.out _ _ ⟨(blk_cell BK296.out 0).trans rfl, (blk_cell BK296.out 1).trans rfl, (blk_cell BK296.out 2).trans rfl, ((HB.out.cell (World.block_lt_of_cell? w _ hw297_0)).trans hw297_0), ((HB.out.cell (World.block_lt_of_cell? w _ hw297_1)).trans hw297_1)⟩ (fun hHeld => ?_)
          clear hK K
          refine nm_ (some 41) ?_
          refine pa_ 6 (some 35) (bl_ 12 639) HT_ ?_
          refine pa_ 7 (some 42) (bl_ 12 767) HT_ ?_
          refine pa_ 8 (some 43) (bl_ 12 1023) HT_ ?_
          exact no_ (hCont (gb305) _ ⟨hHeld, (by (with_reducible repeat (first | apply Kd.R_alloc | apply Kd.R_drewN | apply Kd.R_drew)); exact Kd.R_mono HO_7.out (fun _ hk => hk.2)), (bq_ BK296), (bq_ BK305), GW305.out, GE305.out, NB296_305.out, NB305_296.out, bh_⟩)
        rintro gb305 w21 ⟨hS_, h0_, h1_, h2_, h3_, h4_, h5_, h6_, h7_⟩
        have BK305 := Aside0.mk h2_
        have GW305 := Aside0.mk h3_
        have GE305 := Aside0.mk h4_
        have NB296_305 := Aside0.mk h5_
        have NB305_296 := Aside0.mk h6_
        replace HO_7 : Aside0 (Kd.R k51 51 w21 w.heap.size (fun k_ => k_ ≠ gb305) u7 x7_2) := ⟨h0_⟩
        replace BK296 := Aside0.mk h1_
        replace HB := Aside0.mk h7_
        clear h0_ h1_ h2_ h3_ h4_ h5_ h6_ h7_
        have hHeld := hS_
        refine nq_ ?_
        refine oa_ 10 none (bl_ 12 2047) HT_ fun K hK => ?_
        have hs22 : w21.cell? ⟨gb305, 0, none⟩ = some (.int .i64 0) := (blk_cell BK305.out 0).trans rfl
        have hfs22 := blk_frozen BK305.out 0
        have hns22_0 := NB296_305.out
        have hms22_0 := NB305_296.out
        have hs23 : w21.cell? ⟨gb305, 1, none⟩ = some (.int .i64 0) := (blk_cell BK305.out 1).trans rfl
        have hfs23 := blk_frozen BK305.out 1
        have hns23_0 := NB296_305.out
        have hms23_0 := NB305_296.out
        have hs24 : w21.cell? ⟨gb305, 2, none⟩ = some (.int .i64 0) := (blk_cell BK305.out 2).trans rfl
        have hfs24 := blk_frozen BK305.out 2
        have hns24_0 := NB296_305.out
        have hms24_0 := NB305_296.out
        have hs25 : w21.cell? ⟨gb305, 3, none⟩ = some (.int .i64 0) := (blk_cell BK305.out 3).trans rfl
        have hfs25 := blk_frozen BK305.out 3
        have hns25_0 := NB296_305.out
        have hms25_0 := NB305_296.out
        have hs26 : w21.cell? ⟨gb305, 4, none⟩ = some (.int .i64 0) := (blk_cell BK305.out 4).trans rfl
        have hfs26 := blk_frozen BK305.out 4
        have hns26_0 := NB296_305.out
        have hms26_0 := NB305_296.out
        have hs27 : w21.cell? ⟨gb305, 5, none⟩ = some (.int .u64 0) := (blk_cell BK305.out 5).trans rfl
        have hfs27 := blk_frozen BK305.out 5
        have hns27_0 := NB296_305.out
        have hms27_0 := NB305_296.out
        refine sk_ ?_
        refine hK.out _ _ ⟨((cell_far (p := ⟨gb305, _, none⟩) NB296_305.out _).trans (((cell_far (p := ⟨gb305, _, none⟩) NB296_305.out _).trans (((cell_far (p := ⟨gb305, _, none⟩) NB296_305.out _).trans (((cell_far (p := ⟨gb305, _, none⟩) NB296_305.out _).trans (((cell_far (p := ⟨gb305, _, none⟩) NB296_305.out _).trans (((cell_far (p := ⟨gb305, _, none⟩) NB296_305.out _).trans (hHeld.1)))))))))))), ((cell_far (p := ⟨gb305, _, none⟩) NB296_305.out _).trans (((cell_far (p := ⟨gb305, _, none⟩) NB296_305.out _).trans (((cell_far (p := ⟨gb305, _, none⟩) NB296_305.out _).trans (((cell_far (p := ⟨gb305, _, none⟩) NB296_305.out _).trans (((cell_far (p := ⟨gb305, _, none⟩) NB296_305.out _).trans (((cell_far (p := ⟨gb305, _, none⟩) NB296_305.out _).trans (hHeld.2.1)))))))))))), ((cell_far (p := ⟨gb305, _, none⟩) NB296_305.out _).trans (((cell_far (p := ⟨gb305, _, none⟩) NB296_305.out _).trans (((cell_far (p := ⟨gb305, _, none⟩) NB296_305.out _).trans (((cell_far (p := ⟨gb305, _, none⟩) NB296_305.out _).trans (((cell_far (p := ⟨gb305, _, none⟩) NB296_305.out _).trans (((cell_far (p := ⟨gb305, _, none⟩) NB296_305.out _).trans (hHeld.2.2.1)))))))))))), (fcr6_ (by first | exact Nat.ne_of_lt (Nat.lt_of_lt_of_le (by have := World.block_lt_of_cell? _ _ hw297_0; first | rwa [add_block] at this | exact this) GW305.out) | (rw [add_block]; exact Nat.ne_of_lt (Nat.lt_of_lt_of_le (by have := World.block_lt_of_cell? _ _ hw297_0; first | rwa [add_block] at this | exact this) GW305.out)) | (show (Addr.add _ _).block ≠ _; rw [add_block]; exact Nat.ne_of_lt (Nat.lt_of_lt_of_le (by have := World.block_lt_of_cell? _ _ hw297_0; first | rwa [add_block] at this | exact this) GW305.out)) | (dsimp only; exact Nat.ne_of_lt (Nat.lt_of_lt_of_le (by have := World.block_lt_of_cell? _ _ hw297_0; first | rwa [add_block] at this | exact this) GW305.out))) hHeld.2.2.2.1), (fcr6_ (by first | exact Nat.ne_of_lt (Nat.lt_of_lt_of_le (by have := World.block_lt_of_cell? _ _ hw297_1; first | rwa [add_block] at this | exact this) GW305.out) | (rw [add_block]; exact Nat.ne_of_lt (Nat.lt_of_lt_of_le (by have := World.block_lt_of_cell? _ _ hw297_1; first | rwa [add_block] at this | exact this) GW305.out)) | (show (Addr.add _ _).block ≠ _; rw [add_block]; exact Nat.ne_of_lt (Nat.lt_of_lt_of_le (by have := World.block_lt_of_cell? _ _ hw297_1; first | rwa [add_block] at this | exact this) GW305.out)) | (dsimp only; exact Nat.ne_of_lt (Nat.lt_of_lt_of_le (by have := World.block_lt_of_cell? _ _ hw297_1; first | rwa [add_block] at this | exact this) GW305.out))) hHeld.2.2.2.2)⟩ (fun hHeld => ?_)
        clear hK K
        refine pa_ 11 (some 11) (bl_ 12 4095) HT_ ?_
        refine done_ (done_of HT_.out (by kernel_rfl)) ?_
        replace hn305_296 := NB305_296.out
        replace hn296_305 := NB296_305.out
        replace hc305 := ce6_ BK305
        try go_wp2_with (first | ((with_reducible refine gate_builtin (b := .append) (xs := #[.tmp 47, .tmp 49]) rfl ?_); (try refine ug_ (by rfl) ?_); at_builtin; refine Kd.R_append k51 (w0 := w) w.heap.size rfl (.tmp 47) (.tmp 49) 77 51 (.agg #[(.int .i64 0), (.int .i64 0), (.int .i64 0), (.int .i64 0), (.int .i64 0), (.int .u64 0)]) 48 rfl Try.underlying77 info51 rfl (by decide) (by omega) u7 x7_2 (⟨(⟨t298, t299, t300⟩ : S49), t301, t302, t303⟩ : S51) [.int .i64 t298, .int .i64 t299, .int .i64 t300, .int .i64 t301, .int .i64 t302, .int .u64 t303] (fun k_ => k_ ≠ gb305) (fun _ => False) rfl (by first | (go_simp; done) | (go_simp; rfl)) ?aP (fun _ hk => hk.elim) ?aF ?aO ?aB ?aS ?aL ?_; (case aP => exact k51_mkM _ _ _ (⟨(⟨t298, t299, t300⟩ : S49), t301, t302, t303⟩ : S51)); (case aB => exact bh_); (case aF => exact (fun k_ hk => Kd.freshB (g := gb305) (o := .cells #[.int .i64 t298, .int .i64 t299, .int .i64 t300, .int .i64 t301, .int .i64 t302, .int .u64 t303] 51 (0, 0)) (bp6_ (bq_ BK305)) k_ hk)); (case aO => exact (by (with_reducible repeat (first | apply Kd.R_alloc | apply Kd.R_drewN | apply Kd.R_drew)); exact Kd.R_mono (rf6_ (g := gb305) (Kd.R_mono HO_7.out (fun k_ hk => (⟨hk, hk⟩ : _ ∧ k_ ≠ gb305))) (fun _ hk => hk.2)) (fun _ hk => hk.1))); (case aS => exact (below_size bh_)); (case aL => have := LMc14.out; omega); intro v307 w30 ho hb hg hat; rw [← Ny306.out] at ho; have HO308 := Aside0.mk (ho); replace BK296 := Aside0.mk (blk_grown (g := gb296) (o := .cells #[.int .i64 ((rd_T49 l0 x31_2).f0), .int .i64 ((rd_T49 l0 x31_2).f1), .int .i64 ((rd_T49 l0 x31_2).f2)] 49 (0, 0)) (bt_ BK296) hg (Kd.R_ne HO_7.out BK296.out (by decide))); replace BK305 := Aside0.mk (blk_grown (g := gb305) (o := .cells #[.int .i64 t298, .int .i64 t299, .int .i64 t300, .int .i64 t301, .int .i64 t302, .int .u64 t303] 51 (0, 0)) (bp6_ (bq_ BK305)) hg (Kd.R_away HO_7.out (fun _ hk => hk))); replace HB := Aside0.mk (hb); clear HO_7; clear ho hb hg hat))
        go_roundg k2
        case measure => have := HJ3.out; have := HK2.out; omega
        case rel => exact ⟨(y306), (wrap64 (x31_2 + 1)), rf_, H', ⟨by have := HJ3.out; have := HK2.out; omega⟩, ⟨by (with_reducible repeat (first | apply Kd.R_alloc | apply Kd.R_drewN | apply Kd.R_drew)); exact Kd.R_mono HO308.out (fun _ hk => trivial)⟩, bw_⟩
       ·rw [if_neg c13] at H
        have c13b0 : (t304 == 0) = false := beq_eq_false_iff_ne.mpr c13
        have c13b1 : (t304 != 0) = true := bne_iff_ne.mpr c13
        simp only [Option.some.injEq, Prod.mk.injEq] at H
        obtain ⟨rfl, rfl⟩ := H
        have p295 : 0 ≤ (x31_2 : Int) := of_decide_eq_true (by first | (with_reducible assumption) | assumption)
        have q295 : x31_2 < (l0.length : Int) := of_decide_eq_true (by first | (with_reducible assumption) | assumption)
        obtain ⟨ad295, e295, hx295_0, hx295_1, hx295_2⟩ := at_T49 HR0.out x31_2 p295 q295
        cases e295
        replace hx295_0 := (HB.out.cell (World.block_lt_of_cell? w _ hx295_0)).trans hx295_0
        replace hx295_1 := (HB.out.cell (World.block_lt_of_cell? w _ hx295_1)).trans hx295_1
        replace hx295_2 := (HB.out.cell (World.block_lt_of_cell? w _ hx295_2)).trans hx295_2
        replace p295 := eq_true p295
        replace q295 := eq_true q295
        try go_wp2_with (first | ((with_reducible refine gate_dst (N := 9) rfl ?_); (try refine ug_ (by rfl) ?_); refine bx_ #[.int .i64 0, .int .i64 0, .int .i64 0] 49 ?_; intro gb296 hg w31 BK296 hb; have GW296 := bz_ w hg; have GE296 := GW296; replace HO_7 := rb_ HO_7 hb; replace HB := bs_ w hb; clear hb hg; replace hc296 := ce3_ BK296))
        have n0_ : Aside0 (Kd.R k51 51 (((w31.setCell ⟨gb296, 0, none⟩ (.int .i64 ((rd_T49 l0 x31_2).f0))).setCell ⟨gb296, 1, none⟩ (.int .i64 ((rd_T49 l0 x31_2).f1))).setCell ⟨gb296, 2, none⟩ (.int .i64 ((rd_T49 l0 x31_2).f2))) w.heap.size (fun _ => True) u7 x7_2) := ⟨by (with_reducible repeat (first | apply Kd.R_alloc | apply Kd.R_drewN | apply Kd.R_drew)); exact Kd.R_mono (rf3_ (g := gb296) (Kd.R_types HO_7.out BK296.out (by decide)) (fun _ hk => hk.2)) (fun _ hk => trivial)⟩
        have n1_ : Aside0 ((((w31.setCell ⟨gb296, 0, none⟩ (.int .i64 ((rd_T49 l0 x31_2).f0))).setCell ⟨gb296, 1, none⟩ (.int .i64 ((rd_T49 l0 x31_2).f1))).setCell ⟨gb296, 2, none⟩ (.int .i64 ((rd_T49 l0 x31_2).f2))).heap[gb296]? = some (.cells #[.int .i64 ((rd_T49 l0 x31_2).f0), .int .i64 ((rd_T49 l0 x31_2).f1), .int .i64 ((rd_T49 l0 x31_2).f2)] 49 (0, 0))) := ⟨(bp3_ (bq_ BK296))⟩
        have n2_ : Aside0 (Below w.heap.size w (((w31.setCell ⟨gb296, 0, none⟩ (.int .i64 ((rd_T49 l0 x31_2).f0))).setCell ⟨gb296, 1, none⟩ (.int .i64 ((rd_T49 l0 x31_2).f1))).setCell ⟨gb296, 2, none⟩ (.int .i64 ((rd_T49 l0 x31_2).f2)))) := bw_
        (try clear HO_7)
        (try clear BK296)
        (try clear HB)
        generalize (((w31.setCell ⟨gb296, 0, none⟩ (.int .i64 ((rd_T49 l0 x31_2).f0))).setCell ⟨gb296, 1, none⟩ (.int .i64 ((rd_T49 l0 x31_2).f1))).setCell ⟨gb296, 2, none⟩ (.int .i64 ((rd_T49 l0 x31_2).f2))) = w33 at n0_ n1_ n2_ ⊢
        have HO_7 := n0_
        have BK296 := n1_
        have HB := n2_
        clear n0_ n1_ n2_
        replace HO_7 := Aside0.mk (Kd.R_drew HO_7.out)
        replace BK296 := Aside0.mk (blk_drew BK296.out)
        replace HB := Aside0.mk (below_drew1 HB.out)
        have p297 : 0 ≤ (0 : Int) := (by omega)
        have q297 : 0 < (l1.length : Int) := of_decide_eq_true (by first | (with_reducible assumption) | assumption)
        obtain ⟨ad297, e297, hx297_0, hx297_1⟩ := at_T62 HR1.out 0 p297 q297
        have hw297_1 := hx297_1
        (try rw [show ((0 : Int)).toNat = 0 from rfl] at hw297_1)
        (try rw [show 0 * 2 = 0 from rfl] at hw297_1)
        (try rw [Addr.add_zero'] at hw297_1)
        have hw297_0 := hx297_0
        (try rw [show ((0 : Int)).toNat = 0 from rfl] at hw297_0)
        (try rw [show 0 * 2 = 0 from rfl] at hw297_0)
        (try rw [Addr.add_zero'] at hw297_0)
        cases e297
        have qi297 : (0 < l1.length) = True := eq_true (by omega)
        (try rw [show ((0 : Int)).toNat = 0 from rfl] at hx297_0)
        (try rw [show 0 * 2 = 0 from rfl] at hx297_0)
        (try rw [Addr.add_zero'] at hx297_0)
        (try rw [show ((0 : Int)).toNat = 0 from rfl] at hx297_1)
        (try rw [show 0 * 2 = 0 from rfl] at hx297_1)
        (try rw [Addr.add_zero'] at hx297_1)
        replace hx297_0 := (HB.out.cell (World.block_lt_of_cell? w _ hx297_0)).trans hx297_0
        replace hx297_1 := (HB.out.cell (World.block_lt_of_cell? w _ hx297_1)).trans hx297_1
        replace p297 := eq_true p297
        replace q297 := eq_true q297
        refine start_ (n := 12) (S := fun w' => w'.cell? ⟨gb296, 0, none⟩ = some (.int .i64 ((rd_T49 l0 x31_2).f0)) ∧ w'.cell? ⟨gb296, 1, none⟩ = some (.int .i64 ((rd_T49 l0 x31_2).f1)) ∧ w'.cell? ⟨gb296, 2, none⟩ = some (.int .i64 ((rd_T49 l0 x31_2).f2)) ∧ w'.cell? ad297 = some (.int .u64 ((rd_T62 l1 0).f0)) ∧ w'.cell? ⟨ad297.block, ad297.off + 1, none⟩ = some (.int .i64 ((rd_T62 l1 0).f1))) (ds := []) (bl_ 12 0) (by kernel_rfl) rfl (by kernel_rfl) ⟨(blk_cell BK296.out 0).trans rfl, (blk_cell BK296.out 1).trans rfl, (blk_cell BK296.out 2).trans rfl, ((HB.out.cell (World.block_lt_of_cell? w _ hw297_0)).trans hw297_0), ((HB.out.cell (World.block_lt_of_cell? w _ hw297_1)).trans hw297_1)⟩ (fun hHeld => ?_); refine with_tabW curve_Pass.tab8 curve_Pass.bits8 (fun HT_ HW_ => ?_)
        generalize w33.drew = w34 at HO_7 BK296 HB hx297_0 hx297_1 hHeld ⊢
        refine pa_ 1 (some 37) (bl_ 12 2) HT_ ?_
        refine pa_ 2 (some 38) (bl_ 12 6) HT_ ?_
        refine pa_ 3 (some 39) (bl_ 12 14) HT_ ?_
        refine ta_ 0 (some 36) (bl_ 12 15) HT_ HW_ hHeld ?_
        refine ta_ 4 (some 40) (bl_ 12 31) HT_ HW_ hHeld ?_
        refine join_ (σ := Nat) 2 (bl_ 12 1023) (fun s_ => [(41, .tuple #[.agg #[.int .i64 t298, .int .i64 t299, .int .i64 t300, .int .i64 t301, .int .i64 t302, .int .u64 t303], .int .i64 t304]), (10, .pointer (some ⟨s_, 0, none⟩)), (35, .tuple #[.agg #[.int .i64 t298, .int .i64 t299, .int .i64 t300, .int .i64 t301, .int .i64 t302, .int .u64 t303], .int .i64 t304]), (42, .agg #[.int .i64 t298, .int .i64 t299, .int .i64 t300, .int .i64 t301, .int .i64 t302, .int .u64 t303]), (43, .int .i64 t304)]) (fun s_ w' => (w'.cell? ⟨gb296, 0, none⟩ = some (.int .i64 ((rd_T49 l0 x31_2).f0)) ∧ w'.cell? ⟨gb296, 1, none⟩ = some (.int .i64 ((rd_T49 l0 x31_2).f1)) ∧ w'.cell? ⟨gb296, 2, none⟩ = some (.int .i64 ((rd_T49 l0 x31_2).f2)) ∧ w'.cell? ad297 = some (.int .u64 ((rd_T62 l1 0).f0)) ∧ w'.cell? ⟨ad297.block, ad297.off + 1, none⟩ = some (.int .i64 ((rd_T62 l1 0).f1))) ∧ (Kd.R k51 51 w' w.heap.size (fun k_ => k_ ≠ s_) u7 x7_2) ∧ (w'.heap[gb296]? = some (.cells #[.int .i64 ((rd_T49 l0 x31_2).f0), .int .i64 ((rd_T49 l0 x31_2).f1), .int .i64 ((rd_T49 l0 x31_2).f2)] 49 (0, 0))) ∧ (w'.heap[s_]? = some (.cells #[.int .i64 0, .int .i64 0, .int .i64 0, .int .i64 0, .int .i64 0, .int .u64 0] 51 (0, 0))) ∧ (w.heap.size ≤ s_) ∧ (w.heap.size ≤ s_) ∧ (gb296 ≠ s_) ∧ (s_ ≠ gb296) ∧ (Below w.heap.size w w')) ?_ ?_
        rotate_left
        ·intro hCont
         refine tw_ 5 9 (some 41) (some 10) (bl_ 12 63) (bl_ 12 543) HT_ (fun K hK => ?_) fun K hK => ?_
         ·refine goesB_ Try.func39 #[.agg #[.int .i64 ((rd_T49 l0 x31_2).f0), .int .i64 ((rd_T49 l0 x31_2).f1), .int .i64 ((rd_T49 l0 x31_2).f2)], .int .u64 ((rd_T62 l1 0).f0)] ?_
          with_reducible refine (bucket_Full.calls ((rd_T49 l0 x31_2).f0) ((rd_T49 l0 x31_2).f1) ((rd_T49 l0 x31_2).f2) ((rd_T62 l1 0).f0) t298 t299 t300 t301 t302 t303 t304 _ A12.out).mono ?_
          rintro e w35 ⟨rfl, hb⟩
          refine ⟨_, rfl, ?_⟩
          replace HO_7 := rb_ HO_7 hb
          replace BK296 := bb_ BK296 hb
          replace HB := bs_ w hb
          clear hb
          refine hK.out _ _ ⟨(blk_cell BK296.out 0).trans rfl, (blk_cell BK296.out 1).trans rfl, (blk_cell BK296.out 2).trans rfl, ((HB.out.cell (World.block_lt_of_cell? w _ hw297_0)).trans hw297_0), ((HB.out.cell (World.block_lt_of_cell? w _ hw297_1)).trans hw297_1)⟩ (fun hHeld => ?_)
          clear hK K
          refine nm_ (some 41) ?_
          refine pa_ 6 (some 35) (bl_ 12 127) HT_ ?_
          refine pa_ 7 (some 42) (bl_ 12 255) HT_ ?_
          refine pa_ 8 (some 43) (bl_ 12 511) HT_ ?_
          refine oa_ 9 (some 10) (bl_ 12 1023) HT_ fun K hK => ?_
          refine bs2_ #[.int .i64 0, .int .i64 0, .int .i64 0, .int .i64 0, .int .i64 0, .int .u64 0] 51 ?_
          intro gb305 hg w36 BK305 hb
          have GW305 := bz_ w hg
          have GE305 := GW305
          have NB296_305 := bn_ BK296 hg
          have NB305_296 := bm_ BK296 hg
          replace HO_7 := Aside0.mk (Kd.R_below (Kd.R_elderB (rs_ HO_7) gb305 (Nat.le_of_eq hg.symm)) hb)
          replace BK296 := bb_ BK296 hb
          replace HB := bs_ w hb
          clear hb hg
          refine hK.out _ _ ⟨(blk_cell BK296.out 0).trans rfl, (blk_cell BK296.out 1).trans rfl, (blk_cell BK296.out 2).trans rfl, ((HB.out.cell (World.block_lt_of_cell? w _ hw297_0)).trans hw297_0), ((HB.out.cell (World.block_lt_of_cell? w _ hw297_1)).trans hw297_1)⟩ (fun hHeld => ?_)
          clear hK K
          refine nm_ (some 10) ?_
          exact no_ (hCont (gb305) _ ⟨hHeld, (by (with_reducible repeat (first | apply Kd.R_alloc | apply Kd.R_drewN | apply Kd.R_drew)); exact Kd.R_mono HO_7.out (fun _ hk => hk.2)), (bq_ BK296), (bq_ BK305), GW305.out, GE305.out, NB296_305.out, NB305_296.out, bh_⟩)
         ·refine bs2_ #[.int .i64 0, .int .i64 0, .int .i64 0, .int .i64 0, .int .i64 0, .int .u64 0] 51 ?_
          intro gb305 hg w35 BK305 hb
          have GW305 := bz_ w hg
          have GE305 := GW305
          have NB296_305 := bn_ BK296 hg
          have NB305_296 := bm_ BK296 hg
          replace HO_7 := Aside0.mk (Kd.R_below (Kd.R_elderB (rs_ HO_7) gb305 (Nat.le_of_eq hg.symm)) hb)
          replace BK296 := bb_ BK296 hb
          replace HB := bs_ w hb
          clear hb hg
          refine hK.out _ _ ⟨(blk_cell BK296.out 0).trans rfl, (blk_cell BK296.out 1).trans rfl, (blk_cell BK296.out 2).trans rfl, ((HB.out.cell (World.block_lt_of_cell? w _ hw297_0)).trans hw297_0), ((HB.out.cell (World.block_lt_of_cell? w _ hw297_1)).trans hw297_1)⟩ (fun hHeld => ?_)
          clear hK K
          refine nm_ (some 10) ?_
          refine oa_ 5 (some 41) (bl_ 12 575) HT_ fun K hK => ?_
          refine goesB_ Try.func39 #[.agg #[.int .i64 ((rd_T49 l0 x31_2).f0), .int .i64 ((rd_T49 l0 x31_2).f1), .int .i64 ((rd_T49 l0 x31_2).f2)], .int .u64 ((rd_T62 l1 0).f0)] ?_
          with_reducible refine (bucket_Full.calls ((rd_T49 l0 x31_2).f0) ((rd_T49 l0 x31_2).f1) ((rd_T49 l0 x31_2).f2) ((rd_T62 l1 0).f0) t298 t299 t300 t301 t302 t303 t304 _ A12.out).mono ?_
          rintro e w36 ⟨rfl, hb⟩
          refine ⟨_, rfl, ?_⟩
          replace HO_7 := rb_ HO_7 hb
          replace BK296 := bb_ BK296 hb
          replace BK305 := bb_ BK305 hb
          replace HB := bs_ w hb
          clear hb
          refine hK.out _ _ ⟨(blk_cell BK296.out 0).trans rfl, (blk_cell BK296.out 1).trans rfl, (blk_cell BK296.out 2).trans rfl, ((HB.out.cell (World.block_lt_of_cell? w _ hw297_0)).trans hw297_0), ((HB.out.cell (World.block_lt_of_cell? w _ hw297_1)).trans hw297_1)⟩ (fun hHeld => ?_)
          clear hK K
          refine nm_ (some 41) ?_
          refine pa_ 6 (some 35) (bl_ 12 639) HT_ ?_
          refine pa_ 7 (some 42) (bl_ 12 767) HT_ ?_
          refine pa_ 8 (some 43) (bl_ 12 1023) HT_ ?_
          exact no_ (hCont (gb305) _ ⟨hHeld, (by (with_reducible repeat (first | apply Kd.R_alloc | apply Kd.R_drewN | apply Kd.R_drew)); exact Kd.R_mono HO_7.out (fun _ hk => hk.2)), (bq_ BK296), (bq_ BK305), GW305.out, GE305.out, NB296_305.out, NB305_296.out, bh_⟩)
        rintro gb305 w37 ⟨hS_, h0_, h1_, h2_, h3_, h4_, h5_, h6_, h7_⟩
        have BK305 := Aside0.mk h2_
        have GW305 := Aside0.mk h3_
        have GE305 := Aside0.mk h4_
        have NB296_305 := Aside0.mk h5_
        have NB305_296 := Aside0.mk h6_
        replace HO_7 : Aside0 (Kd.R k51 51 w37 w.heap.size (fun k_ => k_ ≠ gb305) u7 x7_2) := ⟨h0_⟩
        replace BK296 := Aside0.mk h1_
        replace HB := Aside0.mk h7_
        clear h0_ h1_ h2_ h3_ h4_ h5_ h6_ h7_
        have hHeld := hS_
        refine nq_ ?_
        refine oa_ 10 none (bl_ 12 2047) HT_ fun K hK => ?_
        have hs38 : w37.cell? ⟨gb305, 0, none⟩ = some (.int .i64 0) := (blk_cell BK305.out 0).trans rfl
        have hfs38 := blk_frozen BK305.out 0
        have hns38_0 := NB296_305.out
        have hms38_0 := NB305_296.out
        have hs39 : w37.cell? ⟨gb305, 1, none⟩ = some (.int .i64 0) := (blk_cell BK305.out 1).trans rfl
        have hfs39 := blk_frozen BK305.out 1
        have hns39_0 := NB296_305.out
        have hms39_0 := NB305_296.out
        have hs40 : w37.cell? ⟨gb305, 2, none⟩ = some (.int .i64 0) := (blk_cell BK305.out 2).trans rfl
        have hfs40 := blk_frozen BK305.out 2
        have hns40_0 := NB296_305.out
        have hms40_0 := NB305_296.out
        have hs41 : w37.cell? ⟨gb305, 3, none⟩ = some (.int .i64 0) := (blk_cell BK305.out 3).trans rfl
        have hfs41 := blk_frozen BK305.out 3
        have hns41_0 := NB296_305.out
        have hms41_0 := NB305_296.out
        have hs42 : w37.cell? ⟨gb305, 4, none⟩ = some (.int .i64 0) := (blk_cell BK305.out 4).trans rfl
        have hfs42 := blk_frozen BK305.out 4
        have hns42_0 := NB296_305.out
        have hms42_0 := NB305_296.out
        have hs43 : w37.cell? ⟨gb305, 5, none⟩ = some (.int .u64 0) := (blk_cell BK305.out 5).trans rfl
        have hfs43 := blk_frozen BK305.out 5
        have hns43_0 := NB296_305.out
        have hms43_0 := NB305_296.out
        refine sk_ ?_
        refine hK.out _ _ ⟨((cell_far (p := ⟨gb305, _, none⟩) NB296_305.out _).trans (((cell_far (p := ⟨gb305, _, none⟩) NB296_305.out _).trans (((cell_far (p := ⟨gb305, _, none⟩) NB296_305.out _).trans (((cell_far (p := ⟨gb305, _, none⟩) NB296_305.out _).trans (((cell_far (p := ⟨gb305, _, none⟩) NB296_305.out _).trans (((cell_far (p := ⟨gb305, _, none⟩) NB296_305.out _).trans (hHeld.1)))))))))))), ((cell_far (p := ⟨gb305, _, none⟩) NB296_305.out _).trans (((cell_far (p := ⟨gb305, _, none⟩) NB296_305.out _).trans (((cell_far (p := ⟨gb305, _, none⟩) NB296_305.out _).trans (((cell_far (p := ⟨gb305, _, none⟩) NB296_305.out _).trans (((cell_far (p := ⟨gb305, _, none⟩) NB296_305.out _).trans (((cell_far (p := ⟨gb305, _, none⟩) NB296_305.out _).trans (hHeld.2.1)))))))))))), ((cell_far (p := ⟨gb305, _, none⟩) NB296_305.out _).trans (((cell_far (p := ⟨gb305, _, none⟩) NB296_305.out _).trans (((cell_far (p := ⟨gb305, _, none⟩) NB296_305.out _).trans (((cell_far (p := ⟨gb305, _, none⟩) NB296_305.out _).trans (((cell_far (p := ⟨gb305, _, none⟩) NB296_305.out _).trans (((cell_far (p := ⟨gb305, _, none⟩) NB296_305.out _).trans (hHeld.2.2.1)))))))))))), (fcr6_ (by first | exact Nat.ne_of_lt (Nat.lt_of_lt_of_le (by have := World.block_lt_of_cell? _ _ hw297_0; first | rwa [add_block] at this | exact this) GW305.out) | (rw [add_block]; exact Nat.ne_of_lt (Nat.lt_of_lt_of_le (by have := World.block_lt_of_cell? _ _ hw297_0; first | rwa [add_block] at this | exact this) GW305.out)) | (show (Addr.add _ _).block ≠ _; rw [add_block]; exact Nat.ne_of_lt (Nat.lt_of_lt_of_le (by have := World.block_lt_of_cell? _ _ hw297_0; first | rwa [add_block] at this | exact this) GW305.out)) | (dsimp only; exact Nat.ne_of_lt (Nat.lt_of_lt_of_le (by have := World.block_lt_of_cell? _ _ hw297_0; first | rwa [add_block] at this | exact this) GW305.out))) hHeld.2.2.2.1), (fcr6_ (by first | exact Nat.ne_of_lt (Nat.lt_of_lt_of_le (by have := World.block_lt_of_cell? _ _ hw297_1; first | rwa [add_block] at this | exact this) GW305.out) | (rw [add_block]; exact Nat.ne_of_lt (Nat.lt_of_lt_of_le (by have := World.block_lt_of_cell? _ _ hw297_1; first | rwa [add_block] at this | exact this) GW305.out)) | (show (Addr.add _ _).block ≠ _; rw [add_block]; exact Nat.ne_of_lt (Nat.lt_of_lt_of_le (by have := World.block_lt_of_cell? _ _ hw297_1; first | rwa [add_block] at this | exact this) GW305.out)) | (dsimp only; exact Nat.ne_of_lt (Nat.lt_of_lt_of_le (by have := World.block_lt_of_cell? _ _ hw297_1; first | rwa [add_block] at this | exact this) GW305.out))) hHeld.2.2.2.2)⟩ (fun hHeld => ?_)
        clear hK K
        refine pa_ 11 (some 11) (bl_ 12 4095) HT_ ?_
        refine done_ (done_of HT_.out (by kernel_rfl)) ?_
        try go_wp2
        go_ret2
        exact ⟨_, by first | rfl | (simp [errW_none, errW_some] <;> rfl) | (simp [*, errW_none, errW_some] <;> rfl), by first | exact Kd.R_nil _ _ _ _ _ | exact Kd.N_nil _ _ _ _ _ | exact Kd.V_nil _ _ _ _ _ | exact Kd.Q_nil _ _ _ _ _ | exact Kd.S_nil _ _ _ _ _, by repeat (first | (with_reducible first | exact HB.out | apply below_alloc | apply pw_below_drewN | apply below_drew1 | refine below_set ?_ GE296.out | refine below_set ?_ GE305.out) | exact HB.out)⟩
      ·rw [if_neg c8] at H
       have c8b0 : decide (x31_2 < (l0.length : Int)) = false := decide_eq_false c8
       clear c8
       have H' := Aside0.mk H
       clear H
       go_wp2
       go_loopg [7, 12, 54] k2 (fun kq v7 v12 v54 w' => ∃ (x7_3 : List (S51)) (x12_3 : List (S62)) (x54_3 : Int), v54 = .int .i64 x54_3 ∧ Aside0 (curve_Pass.l1 kq x7_3 x12_3 l1 (l1.length : Int) x54_3 = some (r1, r2)) ∧ Aside0 (kq ≤ k2) ∧ Aside0 (Kd.R k51 51 w' w.heap.size (fun _ => True) v7 x7_3) ∧ Aside0 (Kd.R k62 62 w' w.heap.size (fun _ => True) v12 x12_3) ∧ Aside0 (Below w.heap.size w w'))
       case atStart => exact ⟨(x7_2), (([] : List (S62))), (0), rf_, H', ⟨Nat.le_refl _⟩, ⟨rs_ HO_7⟩, ⟨by first | exact Kd.R_nil _ _ _ _ _ | exact Kd.N_nil _ _ _ _ _ | exact Kd.V_nil _ _ _ _ _ | exact Kd.Q_nil _ _ _ _ _ | exact Kd.S_nil _ _ _ _ _⟩, bw_⟩
       case round =>
        clear H'
        try clear c1
        try clear c8
        try clear c8b0
        obtain ⟨x7_3, x12_3, x54_3, rfl, HA, HK3, HO_7, HO_12, HB⟩ := hrel
        cases gk with
        | zero => exact absurd HA.out (by simp [curve_Pass.l1])
        | succ k3 =>
         have H := HA.out
         clear HA
         simp only [curve_Pass.l1] at H
         by_cases c44 : x54_3 < (l1.length : Int)
         ·rw [if_pos c44] at H
          have c44b0 : decide (x54_3 < (l1.length : Int)) = true := decide_eq_true c44
          clear c44
          by_cases c45 : 0 ≤ x54_3
          rotate_left
          ·rw [if_neg c45] at H; exact absurd H (by simp)
          rw [if_pos c45] at H
          have c45b0 : decide (0 ≤ x54_3) = true := decide_eq_true c45
          clear c45
          by_cases c46 : x54_3 < (l1.length : Int)
          rotate_left
          ·rw [if_neg c46] at H; exact absurd H (by simp)
          rw [if_pos c46] at H
          have c46b0 : decide (x54_3 < (l1.length : Int)) = true := decide_eq_true c46
          clear c46
          have H0_ := bo_ H; clear H; obtain ⟨⟨t311, t312, t313⟩, A47, H⟩ := H0_
          try dsimp only at H
          by_cases c48 : t313 = 0
          ·rw [if_pos c48] at H
           have c48b0 : (t313 == 0) = true := beq_iff_eq.mpr c48
           have c48b1 : (t313 != 0) = false := bne_eq_false_iff_eq.mpr c48
           clear c48
           by_cases c49 : t312 = true
           ·subst c49
            rw [if_pos rfl] at H
            try dsimp only at H
            by_cases c50 : x12_3.length < 8796093022208
            rotate_left
            ·rw [if_neg c50] at H; exact absurd H (by simp)
            rw [if_pos c50] at H
            have LMc50 := Aside0.mk c50
            clear c50
            obtain ⟨y316, hy316⟩ : ∃ y_ : List (S62), y_ = (x12_3 ++ [(⟨(rd_T62 l1 x54_3).f0, (rd_T62 l1 x54_3).f1⟩ : S62)]) := ⟨_, rfl⟩
            replace H : (curve_Pass.l1 k3 t311 y316 l1 (l1.length : Int) (wrap64 (x54_3 + 1))) = some (r1, r2) := by first | (rw [hy316]; with_reducible exact H) | (have H2_ := (Option.bind_some _ _).symm.trans H; rw [hy316]; with_reducible exact H2_) | (have H2_ := (Option.bind_some _ _).symm.trans H; with_reducible exact H2_) | with_reducible exact H | (rw [hy316]; exact H) | exact H
            have Ny316 := Aside0.mk hy316
            clear hy316
            have H' := Aside0.mk H
            clear H
            have p309 : 0 ≤ (x54_3 : Int) := of_decide_eq_true (by first | (with_reducible assumption) | assumption)
            have q309 : x54_3 < (l1.length : Int) := of_decide_eq_true (by first | (with_reducible assumption) | assumption)
            obtain ⟨ad309, e309, hx309_0, hx309_1⟩ := at_T62 HR1.out x54_3 p309 q309
            cases e309
            replace hx309_0 := (HB.out.cell (World.block_lt_of_cell? w _ hx309_0)).trans hx309_0
            replace hx309_1 := (HB.out.cell (World.block_lt_of_cell? w _ hx309_1)).trans hx309_1
            replace p309 := eq_true p309
            replace q309 := eq_true q309
            go_wp2_with (first | ((with_reducible refine gate_dst (N := 14) rfl ?_); (try refine ug_ (by rfl) ?_); refine bx_ #[.int .u64 0, .int .i64 0] 62 ?_; intro gb310 hg w51 BK310 hb; have GW310 := bz_ w hg; have GE310 := GW310; replace HO_7 := rb_ HO_7 hb; replace HO_12 := Aside0.mk (Kd.R_below (Kd.R_elderB (rs_ HO_12) gb310 (Nat.le_of_eq hg.symm)) hb); replace HB := bs_ w hb; clear hb hg; replace hc310 := ce2_ BK310; obtain ⟨Ao53, co53, eo53⟩ := Kd.R_slice HO_7.out; subst eo53) | ((with_reducible refine gate_callee (f := 40) rfl ?_); (try refine ug_ (by rfl) ?_); refine goesA_ (some 64) Try.func40 #[.slice Ao53 x7_3.length co53, .int .u64 ((rd_T62 l1 x54_3).f0), .int .i64 ((rd_T62 l1 x54_3).f1)] ?_; (with_reducible refine (levels_Take.calls k3 _ _ x7_3 ((rd_T62 l1 x54_3).f0) ((rd_T62 l1 x54_3).f1) t311 true t313 _ ?side1 ?side2 A47.out).mono ?_); (case side1 => refine (Kd.R_reads' (e := 51) (base := w.heap.size) (ok := fun k_ => True) (n := x7_3.length) (c := co53) ?_).2.2; exact (by (with_reducible repeat (first | apply Kd.R_alloc | apply Kd.R_drewN | apply Kd.R_drew)); exact (Kd.R_mono (Kd.R_far (p := ⟨gb310, 1, none⟩) (Kd.R_far (p := ⟨gb310, 0, none⟩) (Kd.R_types HO_7.out BK310.out (by decide)) (fun _ hk => hk.2) (.int .u64 ((rd_T62 l1 x54_3).f0))) (fun _ hk => hk.2) (.int .i64 ((rd_T62 l1 x54_3).f1))) (fun _ h_ => h_.1)))); (case side2 => exact (Kd.R_reads' HO_7.out).2.1); rintro e w54 ⟨v314, rfl, ho0, hb⟩; refine ⟨_, rfl, ?_⟩; have HO315 := Aside0.mk (Kd.R_lower (Kd.R_new' ho0 (Kd.R_lt (by (with_reducible repeat (first | apply Kd.R_alloc | apply Kd.R_drewN | apply Kd.R_drew)); exact (Kd.R_mono (Kd.R_far (p := ⟨gb310, 1, none⟩) (Kd.R_far (p := ⟨gb310, 0, none⟩) (Kd.R_types HO_7.out BK310.out (by decide)) (fun _ hk => hk.2) (.int .u64 ((rd_T62 l1 x54_3).f0))) (fun _ hk => hk.2) (.int .i64 ((rd_T62 l1 x54_3).f1))) (fun _ h_ => h_.1))))) (below_size bh_)); replace HO_7 := Aside0.mk (Kd.R_elder' (by (with_reducible repeat (first | apply Kd.R_alloc | apply Kd.R_drewN | apply Kd.R_drew)); exact (Kd.R_mono (Kd.R_far (p := ⟨gb310, 1, none⟩) (Kd.R_far (p := ⟨gb310, 0, none⟩) (Kd.R_types HO_7.out BK310.out (by decide)) (fun _ hk => hk.2) (.int .u64 ((rd_T62 l1 x54_3).f0))) (fun _ hk => hk.2) (.int .i64 ((rd_T62 l1 x54_3).f1))) (fun _ h_ => h_.1))) (Kd.R_base ho0) hb); replace HO_12 := Aside0.mk (Kd.R_below (by (with_reducible repeat (first | apply Kd.R_alloc | apply Kd.R_drewN | apply Kd.R_drew)); exact (Kd.R_mono (Kd.R_far (p := ⟨gb310, 1, none⟩) (Kd.R_far (p := ⟨gb310, 0, none⟩) (Kd.R_mono HO_12.out (fun k_ hk => (⟨hk, hk.2⟩ : _ ∧ k_ ≠ gb310))) (fun _ hk => hk.2) (.int .u64 ((rd_T62 l1 x54_3).f0))) (fun _ hk => hk.2) (.int .i64 ((rd_T62 l1 x54_3).f1))) (fun _ h_ => h_.1))) hb); replace BK310 := Aside0.mk (blk_below (g := gb310) (o := .cells #[.int .u64 ((rd_T62 l1 x54_3).f0), .int .i64 ((rd_T62 l1 x54_3).f1)] 62 (0, 0)) (bp2_ (bq_ BK310)) hb); replace HB := bs_ w hb; (try clear hb); (try clear hb2); (try clear hk); (try clear hi); (try clear ho0); replace hc310 := ce2_ BK310) | ((with_reducible refine gate_builtin (b := .append) (xs := #[.tmp 73, .tmp 75]) rfl ?_); (try refine ug_ (by rfl) ?_); at_builtin; refine Kd.R_append k62 (w0 := w) w.heap.size rfl (.tmp 73) (.tmp 75) 23 62 (.agg #[(.int .u64 0), (.int .i64 0)]) 16 rfl Try.underlying23 info62 rfl (by decide) (by omega) u12 x12_3 (⟨(rd_T62 l1 x54_3).f0, (rd_T62 l1 x54_3).f1⟩ : S62) [.int .u64 ((rd_T62 l1 x54_3).f0), .int .i64 ((rd_T62 l1 x54_3).f1)] (fun k_ => k_ ≠ gb310) (fun _ => False) rfl rfl ?aP (fun _ hk => hk.elim) ?aF ?aO ?aB ?aS ?aL ?_; (case aP => exact k62_mkM _ _ _ (⟨(rd_T62 l1 x54_3).f0, (rd_T62 l1 x54_3).f1⟩ : S62)); (case aB => exact bh_); (case aF => exact (fun k_ hk => Kd.freshB (g := gb310) (o := .cells #[.int .u64 ((rd_T62 l1 x54_3).f0), .int .i64 ((rd_T62 l1 x54_3).f1)] 62 (0, 0)) (bq_ BK310) k_ hk)); (case aO => exact (by (with_reducible repeat (first | apply Kd.R_alloc | apply Kd.R_drewN | apply Kd.R_drew)); exact Kd.R_mono HO_12.out (fun _ hk => hk.2))); (case aS => exact (below_size bh_)); (case aL => have := LMc50.out; omega); intro v317 w56 ho hb hg hat; rw [← Ny316.out] at ho; have HO318 := Aside0.mk (ho); replace HO_7 := Aside0.mk (Kd.R_over' (rs_ HO_7) (Kd.R_typed (rs_ HO_12)) (by decide) hg); replace BK310 := Aside0.mk (blk_grown (g := gb310) (o := .cells #[.int .u64 ((rd_T62 l1 x54_3).f0), .int .i64 ((rd_T62 l1 x54_3).f1)] 62 (0, 0)) (bq_ BK310) hg (Kd.R_away HO_12.out (fun _ hk => hk.2))); replace HO315 := Aside0.mk (Kd.R_over' (rs_ HO315) (Kd.R_typed (rs_ HO_12)) (by decide) hg); replace HB := Aside0.mk (hb); clear HO_12; clear ho hb hg hat))
            go_roundg k3
            case measure => have := HJ3.out; have := HK2.out; have := HK3.out; omega
            case rel => exact ⟨(t311), (y316), (wrap64 (x54_3 + 1)), rf_, H', ⟨by have := HJ3.out; have := HK2.out; have := HK3.out; omega⟩, ⟨by (with_reducible repeat (first | apply Kd.R_alloc | apply Kd.R_drewN | apply Kd.R_drew)); exact Kd.R_mono HO315.out (fun _ hk => trivial)⟩, ⟨by (with_reducible repeat (first | apply Kd.R_alloc | apply Kd.R_drewN | apply Kd.R_drew)); exact Kd.R_mono HO318.out (fun _ hk => trivial)⟩, bw_⟩
           ·replace c49 := Bool.eq_false_iff.mpr c49
            subst c49
            rw [if_neg (show ¬ (false = true) by decide)] at H
            try dsimp only at H
            have H' := Aside0.mk H
            clear H
            have p309 : 0 ≤ (x54_3 : Int) := of_decide_eq_true (by first | (with_reducible assumption) | assumption)
            have q309 : x54_3 < (l1.length : Int) := of_decide_eq_true (by first | (with_reducible assumption) | assumption)
            obtain ⟨ad309, e309, hx309_0, hx309_1⟩ := at_T62 HR1.out x54_3 p309 q309
            cases e309
            replace hx309_0 := (HB.out.cell (World.block_lt_of_cell? w _ hx309_0)).trans hx309_0
            replace hx309_1 := (HB.out.cell (World.block_lt_of_cell? w _ hx309_1)).trans hx309_1
            replace p309 := eq_true p309
            replace q309 := eq_true q309
            go_wp2_with (first | ((with_reducible refine gate_dst (N := 14) rfl ?_); (try refine ug_ (by rfl) ?_); refine bx_ #[.int .u64 0, .int .i64 0] 62 ?_; intro gb310 hg w57 BK310 hb; have GW310 := bz_ w hg; have GE310 := GW310; replace HO_7 := rb_ HO_7 hb; replace HO_12 := Aside0.mk (Kd.R_below (Kd.R_elderB (rs_ HO_12) gb310 (Nat.le_of_eq hg.symm)) hb); replace HB := bs_ w hb; clear hb hg; replace hc310 := ce2_ BK310; obtain ⟨Ao59, co59, eo59⟩ := Kd.R_slice HO_7.out; subst eo59) | ((with_reducible refine gate_callee (f := 40) rfl ?_); (try refine ug_ (by rfl) ?_); refine goesA_ (some 64) Try.func40 #[.slice Ao59 x7_3.length co59, .int .u64 ((rd_T62 l1 x54_3).f0), .int .i64 ((rd_T62 l1 x54_3).f1)] ?_; (with_reducible refine (levels_Take.calls k3 _ _ x7_3 ((rd_T62 l1 x54_3).f0) ((rd_T62 l1 x54_3).f1) t311 false t313 _ ?side1 ?side2 A47.out).mono ?_); (case side1 => refine (Kd.R_reads' (e := 51) (base := w.heap.size) (ok := fun k_ => True) (n := x7_3.length) (c := co59) ?_).2.2; exact (by (with_reducible repeat (first | apply Kd.R_alloc | apply Kd.R_drewN | apply Kd.R_drew)); exact (Kd.R_mono (Kd.R_far (p := ⟨gb310, 1, none⟩) (Kd.R_far (p := ⟨gb310, 0, none⟩) (Kd.R_types HO_7.out BK310.out (by decide)) (fun _ hk => hk.2) (.int .u64 ((rd_T62 l1 x54_3).f0))) (fun _ hk => hk.2) (.int .i64 ((rd_T62 l1 x54_3).f1))) (fun _ h_ => h_.1)))); (case side2 => exact (Kd.R_reads' HO_7.out).2.1); rintro e w60 ⟨v314, rfl, ho0, hb⟩; refine ⟨_, rfl, ?_⟩; have HO315 := Aside0.mk (Kd.R_lower (Kd.R_new' ho0 (Kd.R_lt (by (with_reducible repeat (first | apply Kd.R_alloc | apply Kd.R_drewN | apply Kd.R_drew)); exact (Kd.R_mono (Kd.R_far (p := ⟨gb310, 1, none⟩) (Kd.R_far (p := ⟨gb310, 0, none⟩) (Kd.R_types HO_7.out BK310.out (by decide)) (fun _ hk => hk.2) (.int .u64 ((rd_T62 l1 x54_3).f0))) (fun _ hk => hk.2) (.int .i64 ((rd_T62 l1 x54_3).f1))) (fun _ h_ => h_.1))))) (below_size bh_)); replace HO_7 := Aside0.mk (Kd.R_elder' (by (with_reducible repeat (first | apply Kd.R_alloc | apply Kd.R_drewN | apply Kd.R_drew)); exact (Kd.R_mono (Kd.R_far (p := ⟨gb310, 1, none⟩) (Kd.R_far (p := ⟨gb310, 0, none⟩) (Kd.R_types HO_7.out BK310.out (by decide)) (fun _ hk => hk.2) (.int .u64 ((rd_T62 l1 x54_3).f0))) (fun _ hk => hk.2) (.int .i64 ((rd_T62 l1 x54_3).f1))) (fun _ h_ => h_.1))) (Kd.R_base ho0) hb); replace HO_12 := Aside0.mk (Kd.R_below (by (with_reducible repeat (first | apply Kd.R_alloc | apply Kd.R_drewN | apply Kd.R_drew)); exact (Kd.R_mono (Kd.R_far (p := ⟨gb310, 1, none⟩) (Kd.R_far (p := ⟨gb310, 0, none⟩) (Kd.R_mono HO_12.out (fun k_ hk => (⟨hk, hk.2⟩ : _ ∧ k_ ≠ gb310))) (fun _ hk => hk.2) (.int .u64 ((rd_T62 l1 x54_3).f0))) (fun _ hk => hk.2) (.int .i64 ((rd_T62 l1 x54_3).f1))) (fun _ h_ => h_.1))) hb); replace BK310 := Aside0.mk (blk_below (g := gb310) (o := .cells #[.int .u64 ((rd_T62 l1 x54_3).f0), .int .i64 ((rd_T62 l1 x54_3).f1)] 62 (0, 0)) (bp2_ (bq_ BK310)) hb); replace HB := bs_ w hb; (try clear hb); (try clear hb2); (try clear hk); (try clear hi); (try clear ho0)))
            go_roundg k3
            case measure => have := HJ3.out; have := HK2.out; have := HK3.out; omega
            case rel => exact ⟨(t311), (x12_3), (wrap64 (x54_3 + 1)), rf_, H', ⟨by have := HJ3.out; have := HK2.out; have := HK3.out; omega⟩, ⟨by (with_reducible repeat (first | apply Kd.R_alloc | apply Kd.R_drewN | apply Kd.R_drew)); exact Kd.R_mono HO315.out (fun _ hk => trivial)⟩, ⟨by (with_reducible repeat (first | apply Kd.R_alloc | apply Kd.R_drewN | apply Kd.R_drew)); exact Kd.R_mono HO_12.out (fun _ hk => trivial)⟩, bw_⟩
          ·rw [if_neg c48] at H
           have c48b0 : (t313 == 0) = false := beq_eq_false_iff_ne.mpr c48
           have c48b1 : (t313 != 0) = true := bne_iff_ne.mpr c48
           simp only [Option.some.injEq, Prod.mk.injEq] at H
           obtain ⟨rfl, rfl⟩ := H
           have p309 : 0 ≤ (x54_3 : Int) := of_decide_eq_true (by first | (with_reducible assumption) | assumption)
           have q309 : x54_3 < (l1.length : Int) := of_decide_eq_true (by first | (with_reducible assumption) | assumption)
           obtain ⟨ad309, e309, hx309_0, hx309_1⟩ := at_T62 HR1.out x54_3 p309 q309
           cases e309
           replace hx309_0 := (HB.out.cell (World.block_lt_of_cell? w _ hx309_0)).trans hx309_0
           replace hx309_1 := (HB.out.cell (World.block_lt_of_cell? w _ hx309_1)).trans hx309_1
           replace p309 := eq_true p309
           replace q309 := eq_true q309
           go_wp2_with (first | ((with_reducible refine gate_dst (N := 14) rfl ?_); (try refine ug_ (by rfl) ?_); refine bx_ #[.int .u64 0, .int .i64 0] 62 ?_; intro gb310 hg w61 BK310 hb; have GW310 := bz_ w hg; have GE310 := GW310; replace HO_7 := rb_ HO_7 hb; replace HO_12 := Aside0.mk (Kd.R_below (Kd.R_elderB (rs_ HO_12) gb310 (Nat.le_of_eq hg.symm)) hb); replace HB := bs_ w hb; clear hb hg; replace hc310 := ce2_ BK310; obtain ⟨Ao63, co63, eo63⟩ := Kd.R_slice HO_7.out; subst eo63) | ((with_reducible refine gate_callee (f := 40) rfl ?_); (try refine ug_ (by rfl) ?_); refine goesA_ (some 64) Try.func40 #[.slice Ao63 x7_3.length co63, .int .u64 ((rd_T62 l1 x54_3).f0), .int .i64 ((rd_T62 l1 x54_3).f1)] ?_; (with_reducible refine (levels_Take.calls k3 _ _ x7_3 ((rd_T62 l1 x54_3).f0) ((rd_T62 l1 x54_3).f1) t311 t312 t313 _ ?side1 ?side2 A47.out).mono ?_); (case side1 => refine (Kd.R_reads' (e := 51) (base := w.heap.size) (ok := fun k_ => True) (n := x7_3.length) (c := co63) ?_).2.2; exact (by (with_reducible repeat (first | apply Kd.R_alloc | apply Kd.R_drewN | apply Kd.R_drew)); exact (Kd.R_mono (Kd.R_far (p := ⟨gb310, 1, none⟩) (Kd.R_far (p := ⟨gb310, 0, none⟩) (Kd.R_types HO_7.out BK310.out (by decide)) (fun _ hk => hk.2) (.int .u64 ((rd_T62 l1 x54_3).f0))) (fun _ hk => hk.2) (.int .i64 ((rd_T62 l1 x54_3).f1))) (fun _ h_ => h_.1)))); (case side2 => exact (Kd.R_reads' HO_7.out).2.1); rintro e w64 ⟨v314, rfl, ho0, hb⟩; refine ⟨_, rfl, ?_⟩; have HO315 := Aside0.mk (Kd.R_lower (Kd.R_new' ho0 (Kd.R_lt (by (with_reducible repeat (first | apply Kd.R_alloc | apply Kd.R_drewN | apply Kd.R_drew)); exact (Kd.R_mono (Kd.R_far (p := ⟨gb310, 1, none⟩) (Kd.R_far (p := ⟨gb310, 0, none⟩) (Kd.R_types HO_7.out BK310.out (by decide)) (fun _ hk => hk.2) (.int .u64 ((rd_T62 l1 x54_3).f0))) (fun _ hk => hk.2) (.int .i64 ((rd_T62 l1 x54_3).f1))) (fun _ h_ => h_.1))))) (below_size bh_)); replace HO_7 := Aside0.mk (Kd.R_elder' (by (with_reducible repeat (first | apply Kd.R_alloc | apply Kd.R_drewN | apply Kd.R_drew)); exact (Kd.R_mono (Kd.R_far (p := ⟨gb310, 1, none⟩) (Kd.R_far (p := ⟨gb310, 0, none⟩) (Kd.R_types HO_7.out BK310.out (by decide)) (fun _ hk => hk.2) (.int .u64 ((rd_T62 l1 x54_3).f0))) (fun _ hk => hk.2) (.int .i64 ((rd_T62 l1 x54_3).f1))) (fun _ h_ => h_.1))) (Kd.R_base ho0) hb); replace HO_12 := Aside0.mk (Kd.R_below (by (with_reducible repeat (first | apply Kd.R_alloc | apply Kd.R_drewN | apply Kd.R_drew)); exact (Kd.R_mono (Kd.R_far (p := ⟨gb310, 1, none⟩) (Kd.R_far (p := ⟨gb310, 0, none⟩) (Kd.R_mono HO_12.out (fun k_ hk => (⟨hk, hk.2⟩ : _ ∧ k_ ≠ gb310))) (fun _ hk => hk.2) (.int .u64 ((rd_T62 l1 x54_3).f0))) (fun _ hk => hk.2) (.int .i64 ((rd_T62 l1 x54_3).f1))) (fun _ h_ => h_.1))) hb); replace BK310 := Aside0.mk (blk_below (g := gb310) (o := .cells #[.int .u64 ((rd_T62 l1 x54_3).f0), .int .i64 ((rd_T62 l1 x54_3).f1)] 62 (0, 0)) (bp2_ (bq_ BK310)) hb); replace HB := bs_ w hb; (try clear hb); (try clear hb2); (try clear hk); (try clear hi); (try clear ho0)))
           go_ret2
           exact ⟨_, by first | rfl | (simp [errW_none, errW_some] <;> rfl) | (simp [*, errW_none, errW_some] <;> rfl), by first | exact Kd.R_nil _ _ _ _ _ | exact Kd.N_nil _ _ _ _ _ | exact Kd.V_nil _ _ _ _ _ | exact Kd.Q_nil _ _ _ _ _ | exact Kd.S_nil _ _ _ _ _, by repeat (first | (with_reducible first | exact HB.out | apply below_alloc | apply pw_below_drewN | apply below_drew1 | refine below_set ?_ GE310.out) | exact HB.out)⟩
         ·rw [if_neg c44] at H
          have c44b0 : decide (x54_3 < (l1.length : Int)) = false := decide_eq_false c44
          clear c44
          simp only [Option.some.injEq, Prod.mk.injEq] at H
          obtain ⟨rfl, rfl⟩ := H
          go_wp2
          go_ret2
          exact ⟨_, by first | rfl | (simp [errW_none, errW_some] <;> rfl) | (simp [*, errW_none, errW_some] <;> rfl), by (with_reducible repeat (first | apply Kd.R_alloc | apply Kd.R_drewN | apply Kd.R_drew)); exact HO_12.out, by repeat (first | (with_reducible first | exact HB.out | apply below_alloc | apply pw_below_drewN | apply below_drew1) | exact HB.out)⟩

end Go.Proofs.Ytimhghmfhfggoaa.X
