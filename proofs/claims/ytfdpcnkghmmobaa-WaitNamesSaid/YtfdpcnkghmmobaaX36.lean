-- written by xprint.py, a program of this session over the kit's print
import Derived.Test.YtfdpcnkghmmobaaX0
import Derived.Test.YtfdpcnkghmmobaaX35
namespace Go.Proofs.Ytfdpcnkghmmobaa.X
open Go.RowKit Go.Proofs.YtfdpcnkghmmobaaW.PrintWords Go.Proofs.YtfdpcnkghmmobaaW.PrintLast Go.Proofs.YtfdpcnkghmmobaaW.PrintMore
attribute [local go_sem] max2_int min2_int max_two min_two max_three min_three max_four min_four   -- for this text's walks alone
set_option linter.unusedVariables false
set_option linter.unusedSimpArgs false

/-! ### wait_Plan: function 15 -/
def wait_Plan.j0 : Nat → List Int → List (S63) → Int → Bool → Option (List Int × (List (S63)) × Int)
  | 0, _, _, _, _ => none
  | k + 1, x9, x10, x11, x28 => if x28 = true then (some (([] : List Int), ([] : List (S63)), 6)) else (if x11 = 0 then (some (x9, x10, 0)) else (some (([] : List Int), ([] : List (S63)), x11)))
def wait_Plan.f (k : Nat) (l0 : List (S63)) (a1 : Int) (l2 : List Int) : Option (List Int × (List (S63)) × Int) := (wait_planned.f k l0 a1 l2).bind fun bt377 => (if bt377.2.2 = 0 then (wait_Plan.j0 k bt377.1 bt377.2.1 bt377.2.2 (decide ((bt377.1.length : Int) < (l2.length : Int)))) else (wait_Plan.j0 k bt377.1 bt377.2.1 bt377.2.2 false))
theorem wait_Plan.mono_l : ∀ k, (∀ y0 y1 y2 y3, LeO (wait_Plan.j0 k y0 y1 y2 y3) (wait_Plan.j0 (k + 1) y0 y1 y2 y3))
  | 0 => fun _ _ _ _ r h => by simp [wait_Plan.j0] at h
  | k + 1 => by
    have ih0 := wait_Plan.mono_l k
    · intro y0 y1 y2 y3
      unfold wait_Plan.j0
      repeat' first
      | (with_reducible exact ih0 _ _ _ _)
      | (with_reducible exact wait_planned.mono _ _ _ _)
      | (with_reducible exact LeO.refl _)
      | (with_reducible exact LeO.none _)
      | (with_reducible refine LeO.ite ?_ ?_)
      | (with_reducible refine LeO.bind ?_ (fun _ => ?_))
      | exact ih0 _ _ _ _
      | exact wait_planned.mono _ _ _ _
      | exact LeO.none _
      | refine LeO.ite ?_ ?_
      | refine LeO.bind ?_ (fun _ => ?_)
theorem wait_Plan.mono : ∀ a0 a1 a2 k, LeO (wait_Plan.f k a0 a1 a2) (wait_Plan.f (k + 1) a0 a1 a2) := by
  intro a0 a1 a2 k
  have ih0 := wait_Plan.mono_l k
  unfold wait_Plan.f
  repeat' first
      | (with_reducible exact ih0 _ _ _ _)
      | (with_reducible exact wait_planned.mono _ _ _ _)
      | (with_reducible exact LeO.refl _)
      | (with_reducible exact LeO.none _)
      | (with_reducible refine LeO.ite ?_ ?_)
      | (with_reducible refine LeO.bind ?_ (fun _ => ?_))
      | exact ih0 _ _ _ _
      | exact wait_planned.mono _ _ _ _
      | exact LeO.none _
      | refine LeO.ite ?_ ?_
      | refine LeO.bind ?_ (fun _ => ?_)
set_option maxHeartbeats 8000000 in
set_option maxRecDepth 100000 in
theorem wait_Plan.calls (k : Nat) (A0 : Option Addr) (c0 : Nat) (l0 : List (S63)) (a1 : Int) (A2 : Option Addr) (c2 : Nat) (l2 : List Int) (r1 : List Int) (r2 : List (S63)) (r3 : Int) (w : World) (hr0 : Kd.C k63 w A0 l0.length l0) (hc0 : l0.length ≤ c0) (hr2 : Kd.C (Kd.int .i64) w A2 l2.length l2) (hc2 : l2.length ≤ c2) (h : wait_Plan.f k l0 a1 l2 = some (r1, r2, r3)) :
  Calls Try.prog 15 #[.slice A0 l0.length c0, .int .u64 a1, .slice A2 l2.length c2] w fun e w' => ∃ v0_ v1_ : Value, e = .returned (.tuple #[v0_, v1_, .int .i64 r3]) ∧ Kd.R (Kd.int .u64) 23 w' w.heap.size (fun _ => True) v0_ r1 ∧ Kd.R k63 63 w' w.heap.size (fun _ => True) v1_ r2 ∧ Below w.heap.size w w' := by
 have HR0 := Aside0.mk hr0
 have HC0 := Aside0.mk hc0
 clear hr0 hc0
 have HR2 := Aside0.mk hr2
 have HC2 := Aside0.mk hc2
 clear hr2 hc2
 have HB := Aside0.mk (Below.refl w.heap.size w)
 have H : ((wait_planned.f k l0 a1 l2).bind fun bt377 => (if bt377.2.2 = 0 then (wait_Plan.j0 k bt377.1 bt377.2.1 bt377.2.2 (decide ((bt377.1.length : Int) < (l2.length : Int)))) else (wait_Plan.j0 k bt377.1 bt377.2.1 bt377.2.2 false))) = some (r1, r2, r3) := h
 clear h
 have H0_ := bo_ H; clear H; obtain ⟨⟨t377, t378, t379⟩, A4, H⟩ := H0_
 try dsimp only at H
 have HC5 := Aside0.mk H
 clear H
 go_enter Try.func15, Try.ntmps15
 go_upto_region 2 with (first | ((with_reducible refine gate_callee (f := 35) rfl ?_); (try refine ug_ (by rfl) ?_); refine goesA_ (some 16) Try.func35 #[.slice A0 l0.length c0, .int .u64 a1, .slice A2 l2.length c2] ?_; (with_reducible refine (wait_planned.calls k _ _ l0 a1 _ _ l2 t377 t378 t379 _ ?side1 ?side2 ?side3 ?side4 A4.out).mono ?_); (case side1 => exact ch_ HR0); (case side2 => exact HC0.out); (case side3 => exact ch_ HR2); (case side4 => exact HC2.out); rintro e w6 ⟨v380, v382, rfl, ho0, ho1, hb⟩; refine ⟨_, rfl, ?_⟩; have HO381 := Aside0.mk (Kd.R_lower ho0 (below_size (hq_ HB))); have HO383 := Aside0.mk (Kd.R_lower ho1 (below_size (hq_ HB))); replace HB := bs_ w hb; clear hb; (try clear ho0); (try clear ho1)))
 (try simp only [Act.put, List.setIfInBounds_toArray, List.set_cons_zero, List.set_cons_succ])
 go_cut [28] (fun v28 wc => ∃ (kq : Nat) (x28_4 : Bool), v28 = .bool x28_4 ∧ Aside0 (wait_Plan.j0 kq t377 t378 t379 x28_4 = some (r1, r2, r3)) ∧ Aside0 (kq ≤ k) ∧ Aside0 (Kd.R (Kd.int .u64) 23 wc w.heap.size (fun _ => True) v380 t377) ∧ Aside0 (Kd.R k63 63 wc w.heap.size (fun _ => True) v382 t378) ∧ Aside0 (Below w.heap.size w wc))
 case first =>
  have H := HC5.out
  clear HC5
  by_cases c7 : t379 = 0
  ·rw [if_pos c7] at H
   have c7b0 : (t379 == 0) = true := beq_iff_eq.mpr c7
   have c7b1 : (t379 != 0) = false := bne_eq_false_iff_eq.mpr c7
   clear c7
   (first | rw [c7b0] | (simp only [i64_w, i32_w]; rw [c7b0]) | skip)
   have H' := Aside0.mk H
   clear H
   obtain ⟨Ao8, co8, eo8⟩ := Kd.R_slice HO381.out
   subst eo8
   go_wp2
   go_meet
   case rel => exact ⟨_, (decide ((t377.length : Int) < (l2.length : Int))), rf_, H', al_, ⟨rs_ HO381⟩, ⟨rs_ HO383⟩, bw_⟩
  ·rw [if_neg c7] at H
   have c7b0 : (t379 == 0) = false := beq_eq_false_iff_ne.mpr c7
   have c7b1 : (t379 != 0) = true := bne_iff_ne.mpr c7
   (first | rw [c7b0] | (simp only [i64_w, i32_w]; rw [c7b0]) | skip)
   have H' := Aside0.mk H
   clear H
   go_wp2
   go_meet
   case rel => exact ⟨_, (false), rf_, H', al_, ⟨rs_ HO381⟩, ⟨rs_ HO383⟩, bw_⟩
 case rest =>
  clear HC5
  try clear c2
  obtain ⟨kq, x28_4, rfl, HA, HJ4, HO_9, HO_10, HB⟩ := hcut
  cases kq with
  | zero => exact absurd HA.out (by simp [wait_Plan.j0])
  | succ kj4 =>
   have H := HA.out
   clear HA
   simp only [wait_Plan.j0] at H
   by_cases c9 : x28_4 = true
   ·subst c9
    rw [if_pos rfl] at H
    try dsimp only at H
    simp only [Option.some.injEq, Prod.mk.injEq] at H
    obtain ⟨rfl, rfl, rfl⟩ := H
    go_wp2
    go_ret3
    exact ⟨_, _, by first | rfl | (simp [errW_none, errW_some] <;> rfl) | (simp [*, errW_none, errW_some] <;> rfl), by first | exact Kd.R_nil _ _ _ _ _ | exact Kd.N_nil _ _ _ _ _ | exact Kd.V_nil _ _ _ _ _ | exact Kd.Q_nil _ _ _ _ _ | exact Kd.S_nil _ _ _ _ _, by first | exact Kd.R_nil _ _ _ _ _ | exact Kd.N_nil _ _ _ _ _ | exact Kd.V_nil _ _ _ _ _ | exact Kd.Q_nil _ _ _ _ _ | exact Kd.S_nil _ _ _ _ _, by repeat (first | (with_reducible first | exact HB.out | apply below_alloc | apply pw_below_drewN | apply below_drew1) | exact HB.out)⟩
   ·replace c9 := Bool.eq_false_iff.mpr c9
    subst c9
    rw [if_neg (show ¬ (false = true) by decide)] at H
    try dsimp only at H
    by_cases c10 : t379 = 0
    ·rw [if_pos c10] at H
     have c10b0 : (t379 == 0) = true := beq_iff_eq.mpr c10
     have c10b1 : (t379 != 0) = false := bne_eq_false_iff_eq.mpr c10
     clear c10
     simp only [Option.some.injEq, Prod.mk.injEq] at H
     obtain ⟨rfl, rfl, rfl⟩ := H
     go_wp2
     go_ret3
     exact ⟨_, _, by first | rfl | (simp [errW_none, errW_some] <;> rfl) | (simp [*, errW_none, errW_some] <;> rfl), by (with_reducible repeat (first | apply Kd.R_alloc | apply Kd.R_drewN | apply Kd.R_drew)); exact HO_9.out, by (with_reducible repeat (first | apply Kd.R_alloc | apply Kd.R_drewN | apply Kd.R_drew)); exact HO_10.out, by repeat (first | (with_reducible first | exact HB.out | apply below_alloc | apply pw_below_drewN | apply below_drew1) | exact HB.out)⟩
    ·rw [if_neg c10] at H
     have c10b0 : (t379 == 0) = false := beq_eq_false_iff_ne.mpr c10
     have c10b1 : (t379 != 0) = true := bne_iff_ne.mpr c10
     simp only [Option.some.injEq, Prod.mk.injEq] at H
     obtain ⟨rfl, rfl, rfl⟩ := H
     go_wp2
     go_ret3
     exact ⟨_, _, by first | rfl | (simp [errW_none, errW_some] <;> rfl) | (simp [*, errW_none, errW_some] <;> rfl), by first | exact Kd.R_nil _ _ _ _ _ | exact Kd.N_nil _ _ _ _ _ | exact Kd.V_nil _ _ _ _ _ | exact Kd.Q_nil _ _ _ _ _ | exact Kd.S_nil _ _ _ _ _, by first | exact Kd.R_nil _ _ _ _ _ | exact Kd.N_nil _ _ _ _ _ | exact Kd.V_nil _ _ _ _ _ | exact Kd.Q_nil _ _ _ _ _ | exact Kd.S_nil _ _ _ _ _, by repeat (first | (with_reducible first | exact HB.out | apply below_alloc | apply pw_below_drewN | apply below_drew1) | exact HB.out)⟩

end Go.Proofs.Ytfdpcnkghmmobaa.X
