-- written by xprint.py, a program of this session over the kit's print
import Derived.Test.YtiifhbaabnpkeaaX0
import Derived.Test.YtiifhbaabnpkeaaX4
import Derived.Test.YtiifhbaabnpkeaaX12
namespace Go.Proofs.Ytiifhbaabnpkeaa.X
open Go.RowKit Go.Proofs.YtiifhbaabnpkeaaW.PrintWords Go.Proofs.YtiifhbaabnpkeaaW.PrintLast Go.Proofs.YtiifhbaabnpkeaaW.PrintMore
attribute [local go_sem] max2_int min2_int max_two min_two max_three min_three max_four min_four   -- for this text's walks alone
set_option linter.unusedVariables false
set_option linter.unusedSimpArgs false

/-! ### levels_Run: function 8 -/
mutual
def levels_Run.j0 : Nat → List (S32) → List Int → List Int → Bool → Option ((List (S32)) × List Bool × Int)
  | 0, _, _, _, _ => none
  | k + 1, x0, x1, x2, x35 => if x35 = true then (some (([] : List (S32)), ([] : List Bool), 2)) else ((slices_Clone_api_Bucket.f x0).bind fun t186 => (levels_Run.l0 k x2 t186 ([] : List Bool) x1 (x1.length : Int) 0))
def levels_Run.l0 : Nat → List Int → List (S32) → List Bool → List Int → Int → Int → Option ((List (S32)) × List Bool × Int)
  | 0, _, _, _, _, _, _ => none
  | k + 1, x2, x11, x12, x38, x39, x40 => if x40 < x39 then (if 0 ≤ x40 then (if x40 < (x38.length : Int) then (if x40 < (x2.length : Int) then ((levels_take.f k x11 (rd x38 x40) (rd x2 x40)).bind fun bt191 => (if x12.length < 140737488355328 then (levels_Run.l0 k x2 bt191.1 (x12 ++ [bt191.2]) x38 x39 (wrap64 (x40 + 1))) else (none))) else (none)) else (none)) else (none)) else (some (x11, x12, 0))
end
def levels_Run.f (k : Nat) (l0 : List (S32)) (l1 : List Int) (l2 : List Int) : Option ((List (S32)) × List Bool × Int) := (levels_check.f k l0 ([] : List Int)).bind fun t184 => (if t184 = 0 then (if (l1.length : Int) > 200 then (some (([] : List (S32)), ([] : List Bool), 4)) else ((levels_check.f k ([] : List (S32)) l2).bind fun t185 => (if t185 = 0 then (levels_Run.j0 k l0 l1 l2 ((l2.length : Int) != (l1.length : Int))) else (levels_Run.j0 k l0 l1 l2 true)))) else (some (([] : List (S32)), ([] : List Bool), t184)))
theorem levels_Run.mono_l : ∀ k, (∀ y0 y1 y2 y3, LeO (levels_Run.j0 k y0 y1 y2 y3) (levels_Run.j0 (k + 1) y0 y1 y2 y3)) ∧ (∀ y0 y1 y2 y3 y4 y5, LeO (levels_Run.l0 k y0 y1 y2 y3 y4 y5) (levels_Run.l0 (k + 1) y0 y1 y2 y3 y4 y5))
  | 0 => ⟨fun _ _ _ _ r h => by simp [levels_Run.j0] at h, fun _ _ _ _ _ _ r h => by simp [levels_Run.l0] at h⟩
  | k + 1 => by
    obtain ⟨ih0, ih1⟩ := levels_Run.mono_l k
    refine ⟨?_, ?_⟩
    · intro y0 y1 y2 y3
      unfold levels_Run.j0
      repeat' first
      | (with_reducible exact ih0 _ _ _ _)
      | (with_reducible exact ih1 _ _ _ _ _ _)
      | (with_reducible exact levels_check.mono _ _ _)
      | (with_reducible exact levels_take.mono _ _ _ _)
      | (with_reducible exact LeO.refl _)
      | (with_reducible exact LeO.none _)
      | (with_reducible refine LeO.ite ?_ ?_)
      | (with_reducible refine LeO.bind ?_ (fun _ => ?_))
      | exact ih0 _ _ _ _
      | exact ih1 _ _ _ _ _ _
      | exact levels_check.mono _ _ _
      | exact levels_take.mono _ _ _ _
      | exact LeO.none _
      | refine LeO.ite ?_ ?_
      | refine LeO.bind ?_ (fun _ => ?_)
    · intro y0 y1 y2 y3 y4 y5
      unfold levels_Run.l0
      repeat' first
      | (with_reducible exact ih0 _ _ _ _)
      | (with_reducible exact ih1 _ _ _ _ _ _)
      | (with_reducible exact levels_check.mono _ _ _)
      | (with_reducible exact levels_take.mono _ _ _ _)
      | (with_reducible exact LeO.refl _)
      | (with_reducible exact LeO.none _)
      | (with_reducible refine LeO.ite ?_ ?_)
      | (with_reducible refine LeO.bind ?_ (fun _ => ?_))
      | exact ih0 _ _ _ _
      | exact ih1 _ _ _ _ _ _
      | exact levels_check.mono _ _ _
      | exact levels_take.mono _ _ _ _
      | exact LeO.none _
      | refine LeO.ite ?_ ?_
      | refine LeO.bind ?_ (fun _ => ?_)
theorem levels_Run.mono : ∀ a0 a1 a2 k, LeO (levels_Run.f k a0 a1 a2) (levels_Run.f (k + 1) a0 a1 a2) := by
  intro a0 a1 a2 k
  obtain ⟨ih0, ih1⟩ := levels_Run.mono_l k
  unfold levels_Run.f
  repeat' first
      | (with_reducible exact ih0 _ _ _ _)
      | (with_reducible exact ih1 _ _ _ _ _ _)
      | (with_reducible exact levels_check.mono _ _ _)
      | (with_reducible exact levels_take.mono _ _ _ _)
      | (with_reducible exact LeO.refl _)
      | (with_reducible exact LeO.none _)
      | (with_reducible refine LeO.ite ?_ ?_)
      | (with_reducible refine LeO.bind ?_ (fun _ => ?_))
      | exact ih0 _ _ _ _
      | exact ih1 _ _ _ _ _ _
      | exact levels_check.mono _ _ _
      | exact levels_take.mono _ _ _ _
      | exact LeO.none _
      | refine LeO.ite ?_ ?_
      | refine LeO.bind ?_ (fun _ => ?_)
set_option maxHeartbeats 8000000 in
set_option maxRecDepth 100000 in
theorem levels_Run.calls (k : Nat) (A0 : Option Addr) (c0 : Nat) (l0 : List (S32)) (A1 : Option Addr) (c1 : Nat) (l1 : List Int) (A2 : Option Addr) (c2 : Nat) (l2 : List Int) (r1 : List (S32)) (r2 : List Bool) (r3 : Int) (w : World) (hr0 : Kd.C k32 w A0 l0.length l0) (hc0 : l0.length ≤ c0) (hr1 : Kd.C (Kd.int .u64) w A1 l1.length l1) (hc1 : l1.length ≤ c1) (hr2 : Kd.C (Kd.int .i64) w A2 l2.length l2) (hc2 : l2.length ≤ c2) (h : levels_Run.f k l0 l1 l2 = some (r1, r2, r3)) :
  Calls Try.prog 8 #[.slice A0 l0.length c0, .slice A1 l1.length c1, .slice A2 l2.length c2] w fun e w' => ∃ v0_ v1_ : Value, e = .returned (.tuple #[v0_, v1_, .int .i64 r3]) ∧ Kd.R k32 32 w' w.heap.size (fun _ => True) v0_ r1 ∧ Kd.R Kd.bool 4 w' w.heap.size (fun _ => True) v1_ r2 ∧ Below w.heap.size w w' := by
 have HR0 := Aside0.mk hr0
 have HC0 := Aside0.mk hc0
 clear hr0 hc0
 have HR1 := Aside0.mk hr1
 have HC1 := Aside0.mk hc1
 clear hr1 hc1
 have HR2 := Aside0.mk hr2
 have HC2 := Aside0.mk hc2
 clear hr2 hc2
 have HB := Aside0.mk (Below.refl w.heap.size w)
 have H : ((levels_check.f k l0 ([] : List Int)).bind fun t184 => (if t184 = 0 then (if (l1.length : Int) > 200 then (some (([] : List (S32)), ([] : List Bool), 4)) else ((levels_check.f k ([] : List (S32)) l2).bind fun t185 => (if t185 = 0 then (levels_Run.j0 k l0 l1 l2 ((l2.length : Int) != (l1.length : Int))) else (levels_Run.j0 k l0 l1 l2 true)))) else (some (([] : List (S32)), ([] : List Bool), t184)))) = some (r1, r2, r3) := h
 clear h
 have H0_ := bo_ H; clear H; obtain ⟨t184, A4, H⟩ := H0_
 try dsimp only at H
 by_cases c5 : t184 = 0
 ·rw [if_pos c5] at H
  have c5b0 : (t184 == 0) = true := beq_iff_eq.mpr c5
  have c5b1 : (t184 != 0) = false := bne_eq_false_iff_eq.mpr c5
  clear c5
  by_cases c6 : (l1.length : Int) > 200
  ·rw [if_pos c6] at H
   have c6b0 : decide (200 < (l1.length : Int)) = true := decide_eq_true c6
   have c6b1 : decide (200 < l1.length) = true := decide_eq_true (by omega)
   clear c6
   simp only [Option.some.injEq, Prod.mk.injEq] at H
   obtain ⟨rfl, rfl, rfl⟩ := H
   go_enter Try.func8, Try.ntmps8
   go_wp2_with (first | ((with_reducible refine gate_callee (f := 17) rfl ?_); (try refine ug_ (by rfl) ?_); refine goesA_ (some 18) Try.func17 #[.slice A0 l0.length c0, .slice none 0 0] ?_; (refine (levels_check.calls k _ _ l0 _ _ ([] : List Int) t184 _ ?side1 ?side2 ?side3 ?side4 A4.out).mono ?_); (case side1 => exact ch_ HR0); (case side2 => exact HC0.out); (case side3 => exact Kd.C_nil _ _); (case side4 => exact Nat.le_refl _); rintro e w7 ⟨rfl, hb⟩; refine ⟨_, rfl, ?_⟩; replace HB := bs_ w hb; clear hb))
   go_ret3
   exact ⟨_, _, by first | rfl | (simp [errW_none, errW_some] <;> rfl) | (simp [*, errW_none, errW_some] <;> rfl), by first | exact Kd.R_nil _ _ _ _ _ | exact Kd.N_nil _ _ _ _ _ | exact Kd.V_nil _ _ _ _ _ | exact Kd.Q_nil _ _ _ _ _ | exact Kd.S_nil _ _ _ _ _, by first | exact Kd.R_nil _ _ _ _ _ | exact Kd.N_nil _ _ _ _ _ | exact Kd.V_nil _ _ _ _ _ | exact Kd.Q_nil _ _ _ _ _ | exact Kd.S_nil _ _ _ _ _, by repeat (first | (with_reducible first | exact HB.out | apply below_alloc | apply pw_below_drewN | apply below_drew1) | exact HB.out)⟩
  ·rw [if_neg c6] at H
   have c6b0 : decide (200 < (l1.length : Int)) = false := decide_eq_false c6
   have c6b1 : decide (200 < l1.length) = false := decide_eq_false (by omega)
   clear c6
   have H0_ := bo_ H; clear H; obtain ⟨t185, A8, H⟩ := H0_
   replace H : (if t185 = 0 then (levels_Run.j0 k l0 l1 l2 ((l2.length : Int) != (l1.length : Int))) else (levels_Run.j0 k l0 l1 l2 true)) = some (r1, r2, r3) := H
   have HC9 := Aside0.mk H
   clear H
   go_enter Try.func8, Try.ntmps8
   go_upto_region 7 with (first | ((with_reducible refine gate_callee (f := 17) rfl ?_); (try refine ug_ (by rfl) ?_); refine goesA_ (some 18) Try.func17 #[.slice A0 l0.length c0, .slice none 0 0] ?_; (refine (levels_check.calls k _ _ l0 _ _ ([] : List Int) t184 _ ?side1 ?side2 ?side3 ?side4 A4.out).mono ?_); (case side1 => exact ch_ HR0); (case side2 => exact HC0.out); (case side3 => exact Kd.C_nil _ _); (case side4 => exact Nat.le_refl _); rintro e w10 ⟨rfl, hb⟩; refine ⟨_, rfl, ?_⟩; replace HB := bs_ w hb; clear hb) | ((with_reducible refine gate_callee (f := 17) rfl ?_); (try refine ug_ (by rfl) ?_); refine goesA_ (some 26) Try.func17 #[.slice none 0 0, .slice A2 l2.length c2] ?_; (refine (levels_check.calls k _ _ ([] : List (S32)) _ _ l2 t185 _ ?side1 ?side2 ?side3 ?side4 A8.out).mono ?_); (case side1 => exact Kd.C_nil _ _); (case side2 => exact Nat.le_refl _); (case side3 => exact cs_ HR2 HB); (case side4 => exact HC2.out); rintro e w11 ⟨rfl, hb⟩; refine ⟨_, rfl, ?_⟩; replace HB := bs_ w hb; clear hb))
   (try simp only [Act.put, List.setIfInBounds_toArray, List.set_cons_zero, List.set_cons_succ])
   go_cut [35] (fun v35 wc => ∃ (kq : Nat) (x35_8 : Bool), v35 = .bool x35_8 ∧ Aside0 (levels_Run.j0 kq l0 l1 l2 x35_8 = some (r1, r2, r3)) ∧ Aside0 (kq ≤ k) ∧ Aside0 (Below w.heap.size w wc))
   case first =>
    have H := HC9.out
    clear HC9
    by_cases c12 : t185 = 0
    ·rw [if_pos c12] at H
     have c12b0 : (t185 == 0) = true := beq_iff_eq.mpr c12
     have c12b1 : (t185 != 0) = false := bne_eq_false_iff_eq.mpr c12
     clear c12
     (first | rw [c12b0] | (simp only [i64_w, i32_w]; rw [c12b0]) | skip)
     have H' := Aside0.mk H
     clear H
     go_wp2
     go_meet
     case rel => exact ⟨_, (((l2.length : Int) != (l1.length : Int))), rf_, H', al_, bw_⟩
    ·rw [if_neg c12] at H
     have c12b0 : (t185 == 0) = false := beq_eq_false_iff_ne.mpr c12
     have c12b1 : (t185 != 0) = true := bne_iff_ne.mpr c12
     (first | rw [c12b0] | (simp only [i64_w, i32_w]; rw [c12b0]) | skip)
     have H' := Aside0.mk H
     clear H
     go_wp2
     go_meet
     case rel => exact ⟨_, (true), rf_, H', al_, bw_⟩
   case rest =>
    clear HC9
    try clear c1
    try clear c2
    try clear c5
    try clear c5b0
    try clear c5b1
    try clear c6
    try clear c6b0
    try clear c6b1
    obtain ⟨kq, x35_8, rfl, HA, HJ8, HB⟩ := hcut
    cases kq with
    | zero => exact absurd HA.out (by simp [levels_Run.j0])
    | succ kj8 =>
     have H := HA.out
     clear HA
     simp only [levels_Run.j0] at H
     by_cases c13 : x35_8 = true
     ·subst c13
      rw [if_pos rfl] at H
      try dsimp only at H
      simp only [Option.some.injEq, Prod.mk.injEq] at H
      obtain ⟨rfl, rfl, rfl⟩ := H
      go_wp2
      go_ret3
      exact ⟨_, _, by first | rfl | (simp [errW_none, errW_some] <;> rfl) | (simp [*, errW_none, errW_some] <;> rfl), by first | exact Kd.R_nil _ _ _ _ _ | exact Kd.N_nil _ _ _ _ _ | exact Kd.V_nil _ _ _ _ _ | exact Kd.Q_nil _ _ _ _ _ | exact Kd.S_nil _ _ _ _ _, by first | exact Kd.R_nil _ _ _ _ _ | exact Kd.N_nil _ _ _ _ _ | exact Kd.V_nil _ _ _ _ _ | exact Kd.Q_nil _ _ _ _ _ | exact Kd.S_nil _ _ _ _ _, by repeat (first | (with_reducible first | exact HB.out | apply below_alloc | apply pw_below_drewN | apply below_drew1) | exact HB.out)⟩
     ·replace c13 := Bool.eq_false_iff.mpr c13
      subst c13
      rw [if_neg (show ¬ (false = true) by decide)] at H
      try dsimp only at H
      have H0_ := bo_ H; clear H; obtain ⟨t186, A14, H⟩ := H0_
      replace H : (levels_Run.l0 kj8 l2 t186 ([] : List Bool) l1 (l1.length : Int) 0) = some (r1, r2, r3) := H
      have H' := Aside0.mk H
      clear H
      go_wp2_with (first | ((with_reducible refine gate_callee (f := 18) rfl ?_); (try refine ug_ (by rfl) ?_); refine goesA_ (some 37) Try.func18 #[.slice A0 l0.length c0] ?_; (with_reducible refine (slices_Clone_api_Bucket.calls _ _ l0 t186 _ ?side1 ?side2 A14.out).mono ?_); (case side1 => exact cs_ HR0 HB); (case side2 => exact HC0.out); rintro e w15 ⟨v187, rfl, ho0, hb⟩; refine ⟨_, rfl, ?_⟩; have HO188 := Aside0.mk (Kd.R_lower ho0 (below_size (hq_ HB))); replace HB := bs_ w hb; clear hb; (try clear ho0)))
      go_loopg [11, 12, 40] kj8 (fun kq v11 v12 v40 w' => ∃ (x11_2 : List (S32)) (x12_2 : List Bool) (x40_2 : Int), v40 = .int .i64 x40_2 ∧ Aside0 (levels_Run.l0 kq l2 x11_2 x12_2 l1 (l1.length : Int) x40_2 = some (r1, r2, r3)) ∧ Aside0 (kq ≤ kj8) ∧ Aside0 (Kd.R k32 32 w' w.heap.size (fun _ => True) v11 x11_2) ∧ Aside0 (Kd.R Kd.bool 4 w' w.heap.size (fun _ => True) v12 x12_2) ∧ Aside0 (Below w.heap.size w w'))
      case atStart => exact ⟨(t186), (([] : List Bool)), (0), rf_, H', ⟨Nat.le_refl _⟩, ⟨rs_ HO188⟩, ⟨by first | exact Kd.R_nil _ _ _ _ _ | exact Kd.N_nil _ _ _ _ _ | exact Kd.V_nil _ _ _ _ _ | exact Kd.Q_nil _ _ _ _ _ | exact Kd.S_nil _ _ _ _ _⟩, bw_⟩
      case round =>
       clear H'
       try clear c1
       try clear c2
       try clear c5
       try clear c5b0
       try clear c5b1
       try clear c6
       try clear c6b0
       try clear c6b1
       try clear c13
       obtain ⟨x11_2, x12_2, x40_2, rfl, HA, HK2, HO_11, HO_12, HB⟩ := hrel
       cases gk with
       | zero => exact absurd HA.out (by simp [levels_Run.l0])
       | succ k2 =>
        have H := HA.out
        clear HA
        simp only [levels_Run.l0] at H
        by_cases c16 : x40_2 < (l1.length : Int)
        ·rw [if_pos c16] at H
         have c16b0 : decide (x40_2 < (l1.length : Int)) = true := decide_eq_true c16
         clear c16
         by_cases c17 : 0 ≤ x40_2
         rotate_left
         ·rw [if_neg c17] at H; exact absurd H (by simp)
         rw [if_pos c17] at H
         have c17b0 : decide (0 ≤ x40_2) = true := decide_eq_true c17
         clear c17
         by_cases c18 : x40_2 < (l1.length : Int)
         rotate_left
         ·rw [if_neg c18] at H; exact absurd H (by simp)
         rw [if_pos c18] at H
         have c18b0 : decide (x40_2 < (l1.length : Int)) = true := decide_eq_true c18
         clear c18
         by_cases c19 : x40_2 < (l2.length : Int)
         rotate_left
         ·rw [if_neg c19] at H; exact absurd H (by simp)
         rw [if_pos c19] at H
         have c19b0 : decide (x40_2 < (l2.length : Int)) = true := decide_eq_true c19
         clear c19
         have H0_ := bo_ H; clear H; obtain ⟨⟨t191, t192⟩, A20, H⟩ := H0_
         replace H : (if x12_2.length < 140737488355328 then (levels_Run.l0 k2 l2 t191 (x12_2 ++ [t192]) l1 (l1.length : Int) (wrap64 (x40_2 + 1))) else (none)) = some (r1, r2, r3) := H
         by_cases c21 : x12_2.length < 140737488355328
         rotate_left
         ·rw [if_neg c21] at H; exact absurd H (by simp)
         rw [if_pos c21] at H
         have LMc21 := Aside0.mk c21
         clear c21
         obtain ⟨y195, hy195⟩ : ∃ y_ : List Bool, y_ = (x12_2 ++ [t192]) := ⟨_, rfl⟩
         replace H : (levels_Run.l0 k2 l2 t191 y195 l1 (l1.length : Int) (wrap64 (x40_2 + 1))) = some (r1, r2, r3) := by first | (rw [hy195]; with_reducible exact H) | (have H2_ := (Option.bind_some _ _).symm.trans H; rw [hy195]; with_reducible exact H2_) | (have H2_ := (Option.bind_some _ _).symm.trans H; with_reducible exact H2_) | with_reducible exact H | (rw [hy195]; exact H) | exact H
         have Ny195 := Aside0.mk hy195
         clear hy195
         have H' := Aside0.mk H
         clear H
         have p189 : 0 ≤ (x40_2 : Int) := of_decide_eq_true (by first | (with_reducible assumption) | assumption)
         have q189 : x40_2 < (l1.length : Int) := of_decide_eq_true (by first | (with_reducible assumption) | assumption)
         obtain ⟨ad189, e189, hx189_0⟩ := Kd.at_int HR1.out x40_2 p189 q189
         cases e189
         replace hx189_0 := (HB.out.cell (World.block_lt_of_cell? w _ hx189_0)).trans hx189_0
         replace p189 := eq_true p189
         replace q189 := eq_true q189
         have p190 : 0 ≤ (x40_2 : Int) := of_decide_eq_true (by first | (with_reducible assumption) | assumption)
         have q190 : x40_2 < (l2.length : Int) := of_decide_eq_true (by first | (with_reducible assumption) | assumption)
         obtain ⟨ad190, e190, hx190_0⟩ := Kd.at_int HR2.out x40_2 p190 q190
         cases e190
         replace hx190_0 := (HB.out.cell (World.block_lt_of_cell? w _ hx190_0)).trans hx190_0
         replace p190 := eq_true p190
         replace q190 := eq_true q190
         obtain ⟨Ao22, co22, eo22⟩ := Kd.R_slice HO_11.out
         subst eo22
         go_wp2_with (first | ((with_reducible refine gate_callee (f := 19) rfl ?_); (try refine ug_ (by rfl) ?_); refine goesA_ (some 52) Try.func19 #[.slice Ao22 x11_2.length co22, .int .u64 (rd l1 x40_2), .int .i64 (rd l2 x40_2)] ?_; (with_reducible refine (levels_take.calls k2 _ _ x11_2 (rd l1 x40_2) (rd l2 x40_2) t191 t192 _ ?side1 ?side2 A20.out).mono ?_); (case side1 => exact cr_ HO_11); (case side2 => exact (Kd.R_reads' HO_11.out).2.1); rintro e w23 ⟨v193, rfl, ho0, hb⟩; refine ⟨_, rfl, ?_⟩; have HO194 := Aside0.mk (Kd.R_lower (Kd.R_new' ho0 (Kd.R_lt (rs_ HO_11))) (below_size (hq_ HB))); replace HO_11 := Aside0.mk (Kd.R_elder' (rs_ HO_11) (Kd.R_base ho0) hb); replace HO_12 := rb_ HO_12 hb; replace HB := bs_ w hb; (try clear hb); (try clear hb2); (try clear hk); (try clear hi); (try clear ho0)) | ((with_reducible refine gate_builtin (b := .append) (xs := #[.tmp 56, .tmp 58]) rfl ?_); (try refine ug_ (by rfl) ?_); at_builtin; refine Kd.R_append Kd.bool (w0 := w) w.heap.size rfl (.tmp 56) (.tmp 58) 38 4 (.bool false) 1 rfl Try.underlying38 info4 rfl (by decide) (by omega) u12 x12_2 t192 [.bool t192] (fun _ => True) (fun _ => False) rfl rfl ?aP (fun _ hk => hk.elim) ?aF ?aO ?aB ?aS ?aL ?_; (case aP => exact rfl); (case aB => exact (hq_ HB)); (case aF => exact (fun _ _ => trivial)); (case aO => exact (rs_ HO_12)); (case aS => exact (below_size (hq_ HB))); (case aL => have := LMc21.out; omega); intro v196 w24 ho hb hg hat; rw [← Ny195.out] at ho; have HO197 := Aside0.mk (ho); replace HO_11 := Aside0.mk (Kd.R_over' (rs_ HO_11) (Kd.R_typed (rs_ HO_12)) (by decide) hg); replace HO194 := Aside0.mk (Kd.R_over' (rs_ HO194) (Kd.R_typed (rs_ HO_12)) (by decide) hg); replace HB := Aside0.mk (hb); clear HO_12; clear ho hb hg hat))
         go_roundg k2
         case measure => have := HJ8.out; have := HK2.out; omega
         case rel => exact ⟨(t191), (y195), (wrap64 (x40_2 + 1)), rf_, H', ⟨by have := HJ8.out; have := HK2.out; omega⟩, ⟨by (with_reducible repeat (first | apply Kd.R_alloc | apply Kd.R_drewN | apply Kd.R_drew)); exact Kd.R_mono HO194.out (fun _ hk => trivial)⟩, ⟨rs_ HO197⟩, bw_⟩
        ·rw [if_neg c16] at H
         have c16b0 : decide (x40_2 < (l1.length : Int)) = false := decide_eq_false c16
         clear c16
         simp only [Option.some.injEq, Prod.mk.injEq] at H
         obtain ⟨rfl, rfl, rfl⟩ := H
         go_wp2
         go_ret3
         exact ⟨_, _, by first | rfl | (simp [errW_none, errW_some] <;> rfl) | (simp [*, errW_none, errW_some] <;> rfl), by (with_reducible repeat (first | apply Kd.R_alloc | apply Kd.R_drewN | apply Kd.R_drew)); exact HO_11.out, by (with_reducible repeat (first | apply Kd.R_alloc | apply Kd.R_drewN | apply Kd.R_drew)); exact HO_12.out, by repeat (first | (with_reducible first | exact HB.out | apply below_alloc | apply pw_below_drewN | apply below_drew1) | exact HB.out)⟩
 ·rw [if_neg c5] at H
  have c5b0 : (t184 == 0) = false := beq_eq_false_iff_ne.mpr c5
  have c5b1 : (t184 != 0) = true := bne_iff_ne.mpr c5
  simp only [Option.some.injEq, Prod.mk.injEq] at H
  obtain ⟨rfl, rfl, rfl⟩ := H
  go_enter Try.func8, Try.ntmps8
  go_wp2_with (first | ((with_reducible refine gate_callee (f := 17) rfl ?_); (try refine ug_ (by rfl) ?_); refine goesA_ (some 18) Try.func17 #[.slice A0 l0.length c0, .slice none 0 0] ?_; (refine (levels_check.calls k _ _ l0 _ _ ([] : List Int) t184 _ ?side1 ?side2 ?side3 ?side4 A4.out).mono ?_); (case side1 => exact ch_ HR0); (case side2 => exact HC0.out); (case side3 => exact Kd.C_nil _ _); (case side4 => exact Nat.le_refl _); rintro e w25 ⟨rfl, hb⟩; refine ⟨_, rfl, ?_⟩; replace HB := bs_ w hb; clear hb))
  go_ret3
  exact ⟨_, _, by first | rfl | (simp [errW_none, errW_some] <;> rfl) | (simp [*, errW_none, errW_some] <;> rfl), by first | exact Kd.R_nil _ _ _ _ _ | exact Kd.N_nil _ _ _ _ _ | exact Kd.V_nil _ _ _ _ _ | exact Kd.Q_nil _ _ _ _ _ | exact Kd.S_nil _ _ _ _ _, by first | exact Kd.R_nil _ _ _ _ _ | exact Kd.N_nil _ _ _ _ _ | exact Kd.V_nil _ _ _ _ _ | exact Kd.Q_nil _ _ _ _ _ | exact Kd.S_nil _ _ _ _ _, by repeat (first | (with_reducible first | exact HB.out | apply below_alloc | apply pw_below_drewN | apply below_drew1) | exact HB.out)⟩

end Go.Proofs.Ytiifhbaabnpkeaa.X
