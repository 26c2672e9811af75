-- written by xprint.py, a program of this session over the kit's print
import Derived.Test.YtfdpcnkghmmobaaX0
import Derived.Test.YtfdpcnkghmmobaaX5
import Derived.Test.YtfdpcnkghmmobaaX16
import Derived.Test.YtfdpcnkghmmobaaX33
import Derived.Test.YtfdpcnkghmmobaaX34
namespace Go.Proofs.Ytfdpcnkghmmobaa.X
open Go.RowKit Go.Proofs.YtfdpcnkghmmobaaW.PrintWords Go.Proofs.YtfdpcnkghmmobaaW.PrintLast Go.Proofs.YtfdpcnkghmmobaaW.PrintMore
attribute [local go_sem] max2_int min2_int max_two min_two max_three min_three max_four min_four   -- for this text's walks alone
set_option linter.unusedVariables false
set_option linter.unusedSimpArgs false

/-! ### wait_planned: function 35 -/
def wait_planned.l0 : Nat → Int → List (S63) → List Int → List Int → Int → Int → Option (List Int × (List (S63)) × Int)
  | 0, _, _, _, _, _, _ => none
  | k + 1, x1, x10, x11, x26, x27, x28 => if x28 < x27 then (if 0 ≤ x28 then (if x28 < (x26.length : Int) then ((wait_First.f k x10 x1 (rd x26 x28)).bind fun bt367 => (if bt367.2 = 6 then (some (x11, x10, 0)) else (if bt367.2 = 0 then ((levels_Take.f k x10 bt367.1 (rd x26 x28)).bind fun bt369 => (if bt369.2.2 = 0 then (if x11.length < 17592186044416 then (wait_planned.l0 k bt367.1 bt369.1 (x11 ++ [bt367.1]) x26 x27 (wrap64 (x28 + 1))) else (none)) else (some (([] : List Int), ([] : List (S63)), bt369.2.2)))) else (some (([] : List Int), ([] : List (S63)), bt367.2))))) else (none)) else (none)) else (some (x11, x10, 0))
def wait_planned.f (k : Nat) (l0 : List (S63)) (a1 : Int) (l2 : List Int) : Option (List Int × (List (S63)) × Int) := (wait_both.f k l0 l2).bind fun t362 => (if t362 = 0 then ((slices_Clone_api_Bucket.f l0).bind fun t363 => (wait_planned.l0 k a1 t363 ([] : List Int) l2 (l2.length : Int) 0)) else (some (([] : List Int), ([] : List (S63)), t362)))
theorem wait_planned.mono_l : ∀ k, (∀ y0 y1 y2 y3 y4 y5, LeO (wait_planned.l0 k y0 y1 y2 y3 y4 y5) (wait_planned.l0 (k + 1) y0 y1 y2 y3 y4 y5))
  | 0 => fun _ _ _ _ _ _ r h => by simp [wait_planned.l0] at h
  | k + 1 => by
    have ih0 := wait_planned.mono_l k
    · intro y0 y1 y2 y3 y4 y5
      unfold wait_planned.l0
      repeat' first
      | (with_reducible exact ih0 _ _ _ _ _ _)
      | (with_reducible exact levels_Take.mono _ _ _ _)
      | (with_reducible exact wait_First.mono _ _ _ _)
      | (with_reducible exact wait_both.mono _ _ _)
      | (with_reducible exact LeO.refl _)
      | (with_reducible exact LeO.none _)
      | (with_reducible refine LeO.ite ?_ ?_)
      | (with_reducible refine LeO.bind ?_ (fun _ => ?_))
      | exact ih0 _ _ _ _ _ _
      | exact levels_Take.mono _ _ _ _
      | exact wait_First.mono _ _ _ _
      | exact wait_both.mono _ _ _
      | exact LeO.none _
      | refine LeO.ite ?_ ?_
      | refine LeO.bind ?_ (fun _ => ?_)
theorem wait_planned.mono : ∀ a0 a1 a2 k, LeO (wait_planned.f k a0 a1 a2) (wait_planned.f (k + 1) a0 a1 a2) := by
  intro a0 a1 a2 k
  have ih0 := wait_planned.mono_l k
  unfold wait_planned.f
  repeat' first
      | (with_reducible exact ih0 _ _ _ _ _ _)
      | (with_reducible exact levels_Take.mono _ _ _ _)
      | (with_reducible exact wait_First.mono _ _ _ _)
      | (with_reducible exact wait_both.mono _ _ _)
      | (with_reducible exact LeO.refl _)
      | (with_reducible exact LeO.none _)
      | (with_reducible refine LeO.ite ?_ ?_)
      | (with_reducible refine LeO.bind ?_ (fun _ => ?_))
      | exact ih0 _ _ _ _ _ _
      | exact levels_Take.mono _ _ _ _
      | exact wait_First.mono _ _ _ _
      | exact wait_both.mono _ _ _
      | exact LeO.none _
      | refine LeO.ite ?_ ?_
      | refine LeO.bind ?_ (fun _ => ?_)
set_option maxHeartbeats 8000000 in
set_option maxRecDepth 100000 in
theorem wait_planned.calls (k : Nat) (A0 : Option Addr) (c0 : Nat) (l0 : List (S63)) (a1 : Int) (A2 : Option Addr) (c2 : Nat) (l2 : List Int) (r1 : List Int) (r2 : List (S63)) (r3 : Int) (w : World) (hr0 : Kd.C k63 w A0 l0.length l0) (hc0 : l0.length ≤ c0) (hr2 : Kd.C (Kd.int .i64) w A2 l2.length l2) (hc2 : l2.length ≤ c2) (h : wait_planned.f k l0 a1 l2 = some (r1, r2, r3)) :
  Calls Try.prog 35 #[.slice A0 l0.length c0, .int .u64 a1, .slice A2 l2.length c2] w fun e w' => ∃ v0_ v1_ : Value, e = .returned (.tuple #[v0_, v1_, .int .i64 r3]) ∧ Kd.R (Kd.int .u64) 23 w' w.heap.size (fun _ => True) v0_ r1 ∧ Kd.R k63 63 w' w.heap.size (fun _ => True) v1_ r2 ∧ Below w.heap.size w w' := by
 have HR0 := Aside0.mk hr0
 have HC0 := Aside0.mk hc0
 clear hr0 hc0
 have HR2 := Aside0.mk hr2
 have HC2 := Aside0.mk hc2
 clear hr2 hc2
 have HB := Aside0.mk (Below.refl w.heap.size w)
 have H : ((wait_both.f k l0 l2).bind fun t362 => (if t362 = 0 then ((slices_Clone_api_Bucket.f l0).bind fun t363 => (wait_planned.l0 k a1 t363 ([] : List Int) l2 (l2.length : Int) 0)) else (some (([] : List Int), ([] : List (S63)), t362)))) = some (r1, r2, r3) := h
 clear h
 have H0_ := bo_ H; clear H; obtain ⟨t362, A4, H⟩ := H0_
 try dsimp only at H
 by_cases c5 : t362 = 0
 ·rw [if_pos c5] at H
  have c5b0 : (t362 == 0) = true := beq_iff_eq.mpr c5
  have c5b1 : (t362 != 0) = false := bne_eq_false_iff_eq.mpr c5
  clear c5
  have H0_ := bo_ H; clear H; obtain ⟨t363, A6, H⟩ := H0_
  replace H : (wait_planned.l0 k a1 t363 ([] : List Int) l2 (l2.length : Int) 0) = some (r1, r2, r3) := H
  have H' := Aside0.mk H
  clear H
  go_enter Try.func35, Try.ntmps35
  go_wp2_with (first | ((with_reducible refine gate_callee (f := 30) rfl ?_); refine goesA_ (some 20) Try.func30 #[.slice A0 l0.length c0, .slice A2 l2.length c2] ?_; (with_reducible refine (wait_both.calls k _ _ l0 _ _ l2 t362 _ ?side1 ?side2 ?side3 ?side4 A4.out).mono ?_); (case side1 => exact ch_ HR0); (case side2 => exact HC0.out); (case side3 => exact ch_ HR2); (case side4 => exact HC2.out); rintro e w7 ⟨rfl, hb⟩; refine ⟨_, rfl, ?_⟩; replace HB := bs_ w hb; clear hb) | ((with_reducible refine gate_callee (f := 45) rfl ?_); refine goesA_ (some 25) Try.func45 #[.slice A0 l0.length c0] ?_; (with_reducible refine (slices_Clone_api_Bucket.calls _ _ l0 t363 _ ?side1 ?side2 A6.out).mono ?_); (case side1 => exact cs_ HR0 HB); (case side2 => exact HC0.out); rintro e w8 ⟨v364, rfl, ho0, hb⟩; refine ⟨_, rfl, ?_⟩; have HO365 := Aside0.mk (Kd.R_lower ho0 (below_size (hq_ HB))); replace HB := bs_ w hb; clear hb; (try clear ho0)))
  go_loopg [1, 10, 11, 28] k (fun kq v1 v10 v11 v28 w' => ∃ (x1_1 : Int) (x10_1 : List (S63)) (x11_1 : List Int) (x28_1 : Int), v1 = .int .u64 x1_1 ∧ v28 = .int .i64 x28_1 ∧ Aside0 (wait_planned.l0 kq x1_1 x10_1 x11_1 l2 (l2.length : Int) x28_1 = some (r1, r2, r3)) ∧ Aside0 (kq ≤ k) ∧ Aside0 (Kd.R k63 63 w' w.heap.size (fun _ => True) v10 x10_1) ∧ Aside0 (Kd.R (Kd.int .u64) 23 w' w.heap.size (fun _ => True) v11 x11_1) ∧ Aside0 (Below w.heap.size w w'))
  case atStart => exact ⟨(a1), (t363), (([] : List Int)), (0), rf_, rf_, H', ⟨Nat.le_refl _⟩, ⟨rs_ HO365⟩, ⟨by first | exact Kd.R_nil _ _ _ _ _ | exact Kd.N_nil _ _ _ _ _ | exact Kd.V_nil _ _ _ _ _ | exact Kd.Q_nil _ _ _ _ _ | exact Kd.S_nil _ _ _ _ _⟩, bw_⟩
  case round =>
   clear H'
   try clear c2
   try clear c5
   try clear c5b0
   try clear c5b1
   obtain ⟨x1_1, x10_1, x11_1, x28_1, rfl, rfl, HA, HK1, HO_10, HO_11, HB⟩ := hrel
   cases gk with
   | zero => exact absurd HA.out (by simp [wait_planned.l0])
   | succ k1 =>
    have H := HA.out
    clear HA
    simp only [wait_planned.l0] at H
    by_cases c9 : x28_1 < (l2.length : Int)
    ·rw [if_pos c9] at H
     have c9b0 : decide (x28_1 < (l2.length : Int)) = true := decide_eq_true c9
     clear c9
     by_cases c10 : 0 ≤ x28_1
     rotate_left
     ·rw [if_neg c10] at H; exact absurd H (by simp)
     rw [if_pos c10] at H
     have c10b0 : decide (0 ≤ x28_1) = true := decide_eq_true c10
     clear c10
     by_cases c11 : x28_1 < (l2.length : Int)
     rotate_left
     ·rw [if_neg c11] at H; exact absurd H (by simp)
     rw [if_pos c11] at H
     have c11b0 : decide (x28_1 < (l2.length : Int)) = true := decide_eq_true c11
     clear c11
     have H0_ := bo_ H; clear H; obtain ⟨⟨t367, t368⟩, A12, H⟩ := H0_
     try dsimp only at H
     by_cases c13 : t368 = 6
     ·rw [if_pos c13] at H
      have c13b0 : (t368 == 6) = true := beq_iff_eq.mpr c13
      have c13b1 : (t368 != 6) = false := bne_eq_false_iff_eq.mpr c13
      clear c13
      simp only [Option.some.injEq, Prod.mk.injEq] at H
      obtain ⟨rfl, rfl, rfl⟩ := H
      have p366 : 0 ≤ (x28_1 : Int) := of_decide_eq_true (by first | (with_reducible assumption) | assumption)
      have q366 : x28_1 < (l2.length : Int) := of_decide_eq_true (by first | (with_reducible assumption) | assumption)
      obtain ⟨ad366, e366, hx366_0⟩ := Kd.at_int HR2.out x28_1 p366 q366
      cases e366
      replace hx366_0 := (HB.out.cell (World.block_lt_of_cell? w _ hx366_0)).trans hx366_0
      replace p366 := eq_true p366
      replace q366 := eq_true q366
      obtain ⟨Ao14, co14, eo14⟩ := Kd.R_slice HO_10.out
      subst eo14
      go_wp2_with (first | ((with_reducible refine gate_callee (f := 16) rfl ?_); refine goesA_ (some 36) Try.func16 #[.slice Ao14 x10_1.length co14, .int .u64 x1_1, .int .i64 (rd l2 x28_1)] ?_; (with_reducible refine (wait_First.calls k1 _ _ x10_1 x1_1 (rd l2 x28_1) t367 t368 _ ?side1 ?side2 A12.out).mono ?_); (case side1 => exact cr_ HO_10); (case side2 => exact (Kd.R_reads' HO_10.out).2.1); rintro e w15 ⟨rfl, hb⟩; refine ⟨_, rfl, ?_⟩; replace HO_10 := rb_ HO_10 hb; replace HO_11 := rb_ HO_11 hb; replace HB := bs_ w hb; clear hb))
      go_ret3
      exact ⟨_, _, by first | rfl | (simp [errW_none, errW_some] <;> rfl) | (simp [*, errW_none, errW_some] <;> rfl), by (with_reducible repeat (first | apply Kd.R_alloc | apply Kd.R_drewN | apply Kd.R_drew)); exact HO_11.out, by (with_reducible repeat (first | apply Kd.R_alloc | apply Kd.R_drewN | apply Kd.R_drew)); exact HO_10.out, by repeat (first | (with_reducible first | exact HB.out | apply below_alloc | apply pw_below_drewN | apply below_drew1) | exact HB.out)⟩
     ·rw [if_neg c13] at H
      have c13b0 : (t368 == 6) = false := beq_eq_false_iff_ne.mpr c13
      have c13b1 : (t368 != 6) = true := bne_iff_ne.mpr c13
      by_cases c16 : t368 = 0
      ·rw [if_pos c16] at H
       have c16b0 : (t368 == 0) = true := beq_iff_eq.mpr c16
       have c16b1 : (t368 != 0) = false := bne_eq_false_iff_eq.mpr c16
       clear c16
       have H0_ := bo_ H; clear H; obtain ⟨⟨t369, t370, t371⟩, A17, H⟩ := H0_
       try dsimp only at H
       by_cases c18 : t371 = 0
       ·rw [if_pos c18] at H
        have c18b0 : (t371 == 0) = true := beq_iff_eq.mpr c18
        have c18b1 : (t371 != 0) = false := bne_eq_false_iff_eq.mpr c18
        clear c18
        by_cases c19 : x11_1.length < 17592186044416
        rotate_left
        ·rw [if_neg c19] at H; exact absurd H (by simp)
        rw [if_pos c19] at H
        have LMc19 := Aside0.mk c19
        clear c19
        obtain ⟨y374, hy374⟩ : ∃ y_ : List Int, y_ = (x11_1 ++ [t367]) := ⟨_, rfl⟩
        replace H : (wait_planned.l0 k1 t367 t369 y374 l2 (l2.length : Int) (wrap64 (x28_1 + 1))) = some (r1, r2, r3) := by first | (rw [hy374]; with_reducible exact H) | (have H2_ := (Option.bind_some _ _).symm.trans H; rw [hy374]; with_reducible exact H2_) | (have H2_ := (Option.bind_some _ _).symm.trans H; with_reducible exact H2_) | with_reducible exact H | (rw [hy374]; exact H) | exact H
        have Ny374 := Aside0.mk hy374
        clear hy374
        have H' := Aside0.mk H
        clear H
        have p366 : 0 ≤ (x28_1 : Int) := of_decide_eq_true (by first | (with_reducible assumption) | assumption)
        have q366 : x28_1 < (l2.length : Int) := of_decide_eq_true (by first | (with_reducible assumption) | assumption)
        obtain ⟨ad366, e366, hx366_0⟩ := Kd.at_int HR2.out x28_1 p366 q366
        cases e366
        replace hx366_0 := (HB.out.cell (World.block_lt_of_cell? w _ hx366_0)).trans hx366_0
        replace p366 := eq_true p366
        replace q366 := eq_true q366
        obtain ⟨Ao20, co20, eo20⟩ := Kd.R_slice HO_10.out
        subst eo20
        go_wp2_with (first | ((with_reducible refine gate_callee (f := 16) rfl ?_); refine goesA_ (some 36) Try.func16 #[.slice Ao20 x10_1.length co20, .int .u64 x1_1, .int .i64 (rd l2 x28_1)] ?_; (with_reducible refine (wait_First.calls k1 _ _ x10_1 x1_1 (rd l2 x28_1) t367 t368 _ ?side1 ?side2 A12.out).mono ?_); (case side1 => exact cr_ HO_10); (case side2 => exact (Kd.R_reads' HO_10.out).2.1); rintro e w21 ⟨rfl, hb⟩; refine ⟨_, rfl, ?_⟩; replace HO_10 := rb_ HO_10 hb; replace HO_11 := rb_ HO_11 hb; replace HB := bs_ w hb; clear hb) | ((with_reducible refine gate_callee (f := 53) rfl ?_); refine goesA_ (some 48) Try.func53 #[.slice Ao20 x10_1.length co20, .int .u64 t367, .int .i64 (rd l2 x28_1)] ?_; (with_reducible refine (levels_Take.calls k1 _ _ x10_1 t367 (rd l2 x28_1) t369 t370 t371 _ ?side1 ?side2 A17.out).mono ?_); (case side1 => exact cr_ HO_10); (case side2 => exact (Kd.R_reads' HO_10.out).2.1); rintro e w22 ⟨v372, rfl, ho0, hb⟩; refine ⟨_, rfl, ?_⟩; have HO373 := Aside0.mk (Kd.R_lower (Kd.R_new' ho0 (Kd.R_lt (rs_ HO_10))) (below_size (hq_ HB))); replace HO_10 := Aside0.mk (Kd.R_elder' (rs_ HO_10) (Kd.R_base ho0) hb); replace HO_11 := rb_ HO_11 hb; replace HB := bs_ w hb; (try clear hb); (try clear hb2); (try clear hk); (try clear hi); (try clear ho0)) | ((with_reducible refine gate_builtin (b := .append) (xs := #[.tmp 57, .tmp 59]) rfl ?_); at_builtin; refine Kd.R_append (Kd.int .u64) (w0 := w) w.heap.size rfl (.tmp 57) (.tmp 59) 25 23 (.int .u64 0) 8 rfl Try.underlying25 info23 rfl (by decide) (by omega) u11 x11_1 t367 [.int .u64 t367] (fun _ => True) (fun _ => False) rfl rfl ?aP (fun _ hk => hk.elim) ?aF ?aO ?aB ?aS ?aL ?_; (case aP => exact rfl); (case aB => exact (hq_ HB)); (case aF => exact (fun _ _ => trivial)); (case aO => exact (rs_ HO_11)); (case aS => exact (below_size (hq_ HB))); (case aL => have := LMc19.out; omega); intro v375 w23 ho hb hg hat; rw [← Ny374.out] at ho; have HO376 := Aside0.mk (ho); replace HO_10 := Aside0.mk (Kd.R_over' (rs_ HO_10) (Kd.R_typed (rs_ HO_11)) (by decide) hg); replace HO373 := Aside0.mk (Kd.R_over' (rs_ HO373) (Kd.R_typed (rs_ HO_11)) (by decide) hg); replace HB := Aside0.mk (hb); clear HO_11; clear ho hb hg hat))
        go_roundg k1
        case measure => have := HK1.out; omega
        case rel => exact ⟨(t367), (t369), (y374), (wrap64 (x28_1 + 1)), rf_, rf_, H', ⟨by have := HK1.out; omega⟩, ⟨by (with_reducible repeat (first | apply Kd.R_alloc | apply Kd.R_drewN | apply Kd.R_drew)); exact Kd.R_mono HO373.out (fun _ hk => trivial)⟩, ⟨rs_ HO376⟩, bw_⟩
       ·rw [if_neg c18] at H
        have c18b0 : (t371 == 0) = false := beq_eq_false_iff_ne.mpr c18
        have c18b1 : (t371 != 0) = true := bne_iff_ne.mpr c18
        simp only [Option.some.injEq, Prod.mk.injEq] at H
        obtain ⟨rfl, rfl, rfl⟩ := H
        have p366 : 0 ≤ (x28_1 : Int) := of_decide_eq_true (by first | (with_reducible assumption) | assumption)
        have q366 : x28_1 < (l2.length : Int) := of_decide_eq_true (by first | (with_reducible assumption) | assumption)
        obtain ⟨ad366, e366, hx366_0⟩ := Kd.at_int HR2.out x28_1 p366 q366
        cases e366
        replace hx366_0 := (HB.out.cell (World.block_lt_of_cell? w _ hx366_0)).trans hx366_0
        replace p366 := eq_true p366
        replace q366 := eq_true q366
        obtain ⟨Ao24, co24, eo24⟩ := Kd.R_slice HO_10.out
        subst eo24
        go_wp2_with (first | ((with_reducible refine gate_callee (f := 16) rfl ?_); refine goesA_ (some 36) Try.func16 #[.slice Ao24 x10_1.length co24, .int .u64 x1_1, .int .i64 (rd l2 x28_1)] ?_; (with_reducible refine (wait_First.calls k1 _ _ x10_1 x1_1 (rd l2 x28_1) t367 t368 _ ?side1 ?side2 A12.out).mono ?_); (case side1 => exact cr_ HO_10); (case side2 => exact (Kd.R_reads' HO_10.out).2.1); rintro e w25 ⟨rfl, hb⟩; refine ⟨_, rfl, ?_⟩; replace HO_10 := rb_ HO_10 hb; replace HO_11 := rb_ HO_11 hb; replace HB := bs_ w hb; clear hb) | ((with_reducible refine gate_callee (f := 53) rfl ?_); refine goesA_ (some 48) Try.func53 #[.slice Ao24 x10_1.length co24, .int .u64 t367, .int .i64 (rd l2 x28_1)] ?_; (with_reducible refine (levels_Take.calls k1 _ _ x10_1 t367 (rd l2 x28_1) t369 t370 t371 _ ?side1 ?side2 A17.out).mono ?_); (case side1 => exact cr_ HO_10); (case side2 => exact (Kd.R_reads' HO_10.out).2.1); rintro e w26 ⟨v372, rfl, ho0, hb⟩; refine ⟨_, rfl, ?_⟩; have HO373 := Aside0.mk (Kd.R_lower (Kd.R_new' ho0 (Kd.R_lt (rs_ HO_10))) (below_size (hq_ HB))); replace HO_10 := Aside0.mk (Kd.R_elder' (rs_ HO_10) (Kd.R_base ho0) hb); replace HO_11 := rb_ HO_11 hb; replace HB := bs_ w hb; (try clear hb); (try clear hb2); (try clear hk); (try clear hi); (try clear ho0)))
        go_ret3
        exact ⟨_, _, by first | rfl | (simp [errW_none, errW_some] <;> rfl) | (simp [*, errW_none, errW_some] <;> rfl), by first | exact Kd.R_nil _ _ _ _ _ | exact Kd.N_nil _ _ _ _ _ | exact Kd.V_nil _ _ _ _ _ | exact Kd.Q_nil _ _ _ _ _ | exact Kd.S_nil _ _ _ _ _, by first | exact Kd.R_nil _ _ _ _ _ | exact Kd.N_nil _ _ _ _ _ | exact Kd.V_nil _ _ _ _ _ | exact Kd.Q_nil _ _ _ _ _ | exact Kd.S_nil _ _ _ _ _, by repeat (first | (with_reducible first | exact HB.out | apply below_alloc | apply pw_below_drewN | apply below_drew1) | exact HB.out)⟩
      ·rw [if_neg c16] at H
       have c16b0 : (t368 == 0) = false := beq_eq_false_iff_ne.mpr c16
       have c16b1 : (t368 != 0) = true := bne_iff_ne.mpr c16
       simp only [Option.some.injEq, Prod.mk.injEq] at H
       obtain ⟨rfl, rfl, rfl⟩ := H
       have p366 : 0 ≤ (x28_1 : Int) := of_decide_eq_true (by first | (with_reducible assumption) | assumption)
       have q366 : x28_1 < (l2.length : Int) := of_decide_eq_true (by first | (with_reducible assumption) | assumption)
       obtain ⟨ad366, e366, hx366_0⟩ := Kd.at_int HR2.out x28_1 p366 q366
       cases e366
       replace hx366_0 := (HB.out.cell (World.block_lt_of_cell? w _ hx366_0)).trans hx366_0
       replace p366 := eq_true p366
       replace q366 := eq_true q366
       obtain ⟨Ao27, co27, eo27⟩ := Kd.R_slice HO_10.out
       subst eo27
       go_wp2_with (first | ((with_reducible refine gate_callee (f := 16) rfl ?_); refine goesA_ (some 36) Try.func16 #[.slice Ao27 x10_1.length co27, .int .u64 x1_1, .int .i64 (rd l2 x28_1)] ?_; (with_reducible refine (wait_First.calls k1 _ _ x10_1 x1_1 (rd l2 x28_1) t367 t368 _ ?side1 ?side2 A12.out).mono ?_); (case side1 => exact cr_ HO_10); (case side2 => exact (Kd.R_reads' HO_10.out).2.1); rintro e w28 ⟨rfl, hb⟩; refine ⟨_, rfl, ?_⟩; replace HO_10 := rb_ HO_10 hb; replace HO_11 := rb_ HO_11 hb; replace HB := bs_ w hb; clear hb))
       go_ret3
       exact ⟨_, _, by first | rfl | (simp [errW_none, errW_some] <;> rfl) | (simp [*, errW_none, errW_some] <;> rfl), by first | exact Kd.R_nil _ _ _ _ _ | exact Kd.N_nil _ _ _ _ _ | exact Kd.V_nil _ _ _ _ _ | exact Kd.Q_nil _ _ _ _ _ | exact Kd.S_nil _ _ _ _ _, by first | exact Kd.R_nil _ _ _ _ _ | exact Kd.N_nil _ _ _ _ _ | exact Kd.V_nil _ _ _ _ _ | exact Kd.Q_nil _ _ _ _ _ | exact Kd.S_nil _ _ _ _ _, by repeat (first | (with_reducible first | exact HB.out | apply below_alloc | apply pw_below_drewN | apply below_drew1) | exact HB.out)⟩
    ·rw [if_neg c9] at H
     have c9b0 : decide (x28_1 < (l2.length : Int)) = false := decide_eq_false c9
     clear c9
     simp only [Option.some.injEq, Prod.mk.injEq] at H
     obtain ⟨rfl, rfl, rfl⟩ := H
     go_wp2
     go_ret3
     exact ⟨_, _, by first | rfl | (simp [errW_none, errW_some] <;> rfl) | (simp [*, errW_none, errW_some] <;> rfl), by (with_reducible repeat (first | apply Kd.R_alloc | apply Kd.R_drewN | apply Kd.R_drew)); exact HO_11.out, by (with_reducible repeat (first | apply Kd.R_alloc | apply Kd.R_drewN | apply Kd.R_drew)); exact HO_10.out, by repeat (first | (with_reducible first | exact HB.out | apply below_alloc | apply pw_below_drewN | apply below_drew1) | exact HB.out)⟩
 ·rw [if_neg c5] at H
  have c5b0 : (t362 == 0) = false := beq_eq_false_iff_ne.mpr c5
  have c5b1 : (t362 != 0) = true := bne_iff_ne.mpr c5
  simp only [Option.some.injEq, Prod.mk.injEq] at H
  obtain ⟨rfl, rfl, rfl⟩ := H
  go_enter Try.func35, Try.ntmps35
  go_wp2_with (first | ((with_reducible refine gate_callee (f := 30) rfl ?_); refine goesA_ (some 20) Try.func30 #[.slice A0 l0.length c0, .slice A2 l2.length c2] ?_; (with_reducible refine (wait_both.calls k _ _ l0 _ _ l2 t362 _ ?side1 ?side2 ?side3 ?side4 A4.out).mono ?_); (case side1 => exact ch_ HR0); (case side2 => exact HC0.out); (case side3 => exact ch_ HR2); (case side4 => exact HC2.out); rintro e w29 ⟨rfl, hb⟩; refine ⟨_, rfl, ?_⟩; replace HB := bs_ w hb; clear hb))
  go_ret3
  exact ⟨_, _, by first | rfl | (simp [errW_none, errW_some] <;> rfl) | (simp [*, errW_none, errW_some] <;> rfl), by first | exact Kd.R_nil _ _ _ _ _ | exact Kd.N_nil _ _ _ _ _ | exact Kd.V_nil _ _ _ _ _ | exact Kd.Q_nil _ _ _ _ _ | exact Kd.S_nil _ _ _ _ _, by first | exact Kd.R_nil _ _ _ _ _ | exact Kd.N_nil _ _ _ _ _ | exact Kd.V_nil _ _ _ _ _ | exact Kd.Q_nil _ _ _ _ _ | exact Kd.S_nil _ _ _ _ _, by repeat (first | (with_reducible first | exact HB.out | apply below_alloc | apply pw_below_drewN | apply below_drew1) | exact HB.out)⟩

end Go.Proofs.Ytfdpcnkghmmobaa.X
