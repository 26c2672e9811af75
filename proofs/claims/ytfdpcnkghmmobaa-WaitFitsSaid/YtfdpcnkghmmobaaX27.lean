-- written by xprint.py, a program of this session over the kit's print
import Derived.Test.YtfdpcnkghmmobaaX0
import Derived.Test.YtfdpcnkghmmobaaX21
import Derived.Test.YtfdpcnkghmmobaaX26
namespace Go.Proofs.Ytfdpcnkghmmobaa.X
open Go.RowKit Go.Proofs.YtfdpcnkghmmobaaW.PrintWords Go.Proofs.YtfdpcnkghmmobaaW.PrintLast Go.Proofs.YtfdpcnkghmmobaaW.PrintMore
attribute [local go_sem] max2_int min2_int max_two min_two max_three min_three max_four min_four   -- for this text's walks alone
set_option linter.unusedVariables false
set_option linter.unusedSimpArgs false

/-! ### spigotref39_Fits: function 12 -/
def spigotref39_Fits.l0 : Nat → Int → List Int → List Int → List (S63) → Int → Option (Bool × Int)
  | 0, _, _, _, _, _ => none
  | k + 1, x1, x2, x3, x11, x12 => if x12 < (x3.length : Int) then (if 0 ≤ x12 then (if (rd x3 x12) < x1 then (some (false, 0)) else (if x12 < (x2.length : Int) then ((spigotref04_Take.f k x11 (rd x3 x12) (rd x2 x12)).bind fun bt293 => (if bt293.2.1 = true then (spigotref39_Fits.l0 k (rd x3 x12) x2 x3 bt293.1 (wrap64 (x12 + 1))) else (some (false, 0)))) else (none))) else (none)) else (some (true, 0))
def spigotref39_Fits.f (k : Nat) (l0 : List (S63)) (a1 : Int) (l2 : List Int) (l3 : List Int) : Option (Bool × Int) := (spigotref39_Both.f k l0 l2).bind fun t289 => (if t289 = 0 then (if (l3.length : Int) > 60 then (some (false, 4)) else (if (l3.length : Int) = (l2.length : Int) then (spigotref39_Fits.l0 k a1 l2 l3 l0 0) else (some (false, 0)))) else (some (false, t289)))
theorem spigotref39_Fits.mono_l : ∀ k, (∀ y0 y1 y2 y3 y4, LeO (spigotref39_Fits.l0 k y0 y1 y2 y3 y4) (spigotref39_Fits.l0 (k + 1) y0 y1 y2 y3 y4))
  | 0 => fun _ _ _ _ _ r h => by simp [spigotref39_Fits.l0] at h
  | k + 1 => by
    have ih0 := spigotref39_Fits.mono_l k
    · intro y0 y1 y2 y3 y4
      unfold spigotref39_Fits.l0
      repeat' first
      | (with_reducible exact ih0 _ _ _ _ _)
      | (with_reducible exact spigotref04_Take.mono _ _ _ _)
      | (with_reducible exact spigotref39_Both.mono _ _ _)
      | (with_reducible exact LeO.refl _)
      | (with_reducible exact LeO.none _)
      | (with_reducible refine LeO.ite ?_ ?_)
      | (with_reducible refine LeO.bind ?_ (fun _ => ?_))
      | exact ih0 _ _ _ _ _
      | exact spigotref04_Take.mono _ _ _ _
      | exact spigotref39_Both.mono _ _ _
      | exact LeO.none _
      | refine LeO.ite ?_ ?_
      | refine LeO.bind ?_ (fun _ => ?_)
theorem spigotref39_Fits.mono : ∀ a0 a1 a2 a3 k, LeO (spigotref39_Fits.f k a0 a1 a2 a3) (spigotref39_Fits.f (k + 1) a0 a1 a2 a3) := by
  intro a0 a1 a2 a3 k
  have ih0 := spigotref39_Fits.mono_l k
  unfold spigotref39_Fits.f
  repeat' first
      | (with_reducible exact ih0 _ _ _ _ _)
      | (with_reducible exact spigotref04_Take.mono _ _ _ _)
      | (with_reducible exact spigotref39_Both.mono _ _ _)
      | (with_reducible exact LeO.refl _)
      | (with_reducible exact LeO.none _)
      | (with_reducible refine LeO.ite ?_ ?_)
      | (with_reducible refine LeO.bind ?_ (fun _ => ?_))
      | exact ih0 _ _ _ _ _
      | exact spigotref04_Take.mono _ _ _ _
      | exact spigotref39_Both.mono _ _ _
      | exact LeO.none _
      | refine LeO.ite ?_ ?_
      | refine LeO.bind ?_ (fun _ => ?_)
set_option maxHeartbeats 8000000 in
set_option maxRecDepth 100000 in
theorem spigotref39_Fits.calls (k : Nat) (P0_ : Nat → Prop) (A0 : Option Addr) (c0 : Nat) (l0 : List (S63)) (a1 : Int) (A2 : Option Addr) (c2 : Nat) (l2 : List Int) (A3 : Option Addr) (c3 : Nat) (l3 : List Int) (r1 : Bool) (r2 : Int) (w : World) (hs0 : Kd.V k63 63 w w.heap.size (fun k_ => P0_ k_) (.slice A0 l0.length c0) l0) (hr2 : Kd.C (Kd.int .i64) w A2 l2.length l2) (hc2 : l2.length ≤ c2) (hr3 : Kd.C (Kd.int .u64) w A3 l3.length l3) (hc3 : l3.length ≤ c3) (h : spigotref39_Fits.f k l0 a1 l2 l3 = some (r1, r2)) :
  Calls Try.prog 12 #[.slice A0 l0.length c0, .int .u64 a1, .slice A2 l2.length c2, .slice A3 l3.length c3] w fun e w' => e = .returned (.tuple #[.bool r1, .int .i64 r2]) ∧ Below w.heap.size w w' := by
 have HO0 := Aside0.mk (show Kd.V k63 63 w w.heap.size (fun k_ => (P0_ k_ ∨ w.heap.size ≤ k_)) (.slice A0 l0.length c0) l0 from Kd.V_mono hs0 (fun k_ hk => .inl hk))
 have HR2 := Aside0.mk hr2
 have HC2 := Aside0.mk hc2
 clear hr2 hc2
 have HR3 := Aside0.mk hr3
 have HC3 := Aside0.mk hc3
 clear hr3 hc3
 have HB := Aside0.mk (Below.refl w.heap.size w)
 have H : ((spigotref39_Both.f k l0 l2).bind fun t289 => (if t289 = 0 then (if (l3.length : Int) > 60 then (some (false, 4)) else (if (l3.length : Int) = (l2.length : Int) then (spigotref39_Fits.l0 k a1 l2 l3 l0 0) else (some (false, 0)))) else (some (false, t289)))) = some (r1, r2) := h
 clear h
 obtain ⟨t289, A5, H⟩ := bo_ H
 try dsimp only at H
 by_cases c6 : t289 = 0
 ·rw [if_pos c6] at H
  have c6b0 : (t289 == 0) = true := beq_iff_eq.mpr c6
  have c6b1 : (t289 != 0) = false := bne_eq_false_iff_eq.mpr c6
  clear c6
  by_cases c7 : (l3.length : Int) > 60
  ·rw [if_pos c7] at H
   have c7b0 : decide (60 < (l3.length : Int)) = true := decide_eq_true c7
   have c7b1 : decide (60 < l3.length) = true := decide_eq_true (by omega)
   clear c7
   simp only [Option.some.injEq, Prod.mk.injEq] at H
   obtain ⟨rfl, rfl⟩ := H
   go_enter Try.func12, Try.ntmps12
   go_wp2_with (first | ((with_reducible refine gate_callee (f := 33) rfl ?_); refine goesA_ (some 18) Try.func33 #[.slice A0 l0.length c0, .slice A2 l2.length c2] ?_; (with_reducible refine (spigotref39_Both.calls k _ _ l0 _ _ l2 t289 _ ?side1 ?side2 ?side3 ?side4 A5.out).mono ?_); (case side1 => repeat (first | exact (Kd.V_reads' HO0.out).2.2 | (with_reducible refine Kd.C_alloc ?_ _) | (with_reducible refine Kd.C_drewN ?_ _) | (with_reducible refine Kd.C_drew ?_))); (case side2 => exact (Kd.V_reads' HO0.out).2.1); (case side3 => repeat (first | exact HR2.out | (with_reducible refine Kd.C_alloc ?_ _) | (with_reducible refine Kd.C_drewN ?_ _) | (with_reducible refine Kd.C_drew ?_))); (case side4 => exact HC2.out); rintro e w8 ⟨rfl, hb⟩; refine ⟨_, rfl, ?_⟩; replace HO0 := Aside0.mk (Kd.V_below (by (with_reducible repeat (first | apply Kd.V_alloc | apply Kd.V_drewN | apply Kd.V_drew)); exact HO0.out) hb); replace HB := bs_ w hb; clear hb))
   go_ret2
   exact fi_
  ·rw [if_neg c7] at H
   have c7b0 : decide (60 < (l3.length : Int)) = false := decide_eq_false c7
   have c7b1 : decide (60 < l3.length) = false := decide_eq_false (by omega)
   clear c7
   by_cases c9 : (l3.length : Int) = (l2.length : Int)
   ·rw [if_pos c9] at H
    have c9b0 : ((l3.length : Int) == (l2.length : Int)) = true := beq_iff_eq.mpr c9
    have c9b1 : ((l3.length : Int) != (l2.length : Int)) = false := bne_eq_false_iff_eq.mpr c9
    have c9b2 : (l3.length == l2.length) = true := by first | simpa using c9 | (simp at c9 ⊢; omega)
    clear c9
    have H' := Aside0.mk H
    clear H
    go_enter Try.func12, Try.ntmps12
    go_wp2_with (first | ((with_reducible refine gate_callee (f := 33) rfl ?_); refine goesA_ (some 18) Try.func33 #[.slice A0 l0.length c0, .slice A2 l2.length c2] ?_; (with_reducible refine (spigotref39_Both.calls k _ _ l0 _ _ l2 t289 _ ?side1 ?side2 ?side3 ?side4 A5.out).mono ?_); (case side1 => repeat (first | exact (Kd.V_reads' HO0.out).2.2 | (with_reducible refine Kd.C_alloc ?_ _) | (with_reducible refine Kd.C_drewN ?_ _) | (with_reducible refine Kd.C_drew ?_))); (case side2 => exact (Kd.V_reads' HO0.out).2.1); (case side3 => repeat (first | exact HR2.out | (with_reducible refine Kd.C_alloc ?_ _) | (with_reducible refine Kd.C_drewN ?_ _) | (with_reducible refine Kd.C_drew ?_))); (case side4 => exact HC2.out); rintro e w10 ⟨rfl, hb⟩; refine ⟨_, rfl, ?_⟩; replace HO0 := Aside0.mk (Kd.V_below (by (with_reducible repeat (first | apply Kd.V_alloc | apply Kd.V_drewN | apply Kd.V_drew)); exact HO0.out) hb); replace HB := bs_ w hb; clear hb))
    go_loopg [1, 11, 12] k (fun kq v1 v11 v12 w' => ∃ (x1_1 : Int) (x11_1 : List (S63)) (x12_1 : Int), v1 = .int .u64 x1_1 ∧ v12 = .int .i64 x12_1 ∧ Aside0 (spigotref39_Fits.l0 kq x1_1 l2 l3 x11_1 x12_1 = some (r1, r2)) ∧ Aside0 (kq ≤ k) ∧ Aside0 (Kd.V k63 63 w' w.heap.size (fun k_ => (P0_ k_ ∨ w.heap.size ≤ k_)) v11 x11_1) ∧ Aside0 (Below w.heap.size w w'))
    case atStart => exact ⟨(a1), (l0), (0), rf_, rf_, H', ⟨Nat.le_refl _⟩, ⟨by (with_reducible repeat (first | apply Kd.V_alloc | apply Kd.V_drewN | apply Kd.V_drew)); exact HO0.out⟩, bw_⟩
    case round =>
     clear H'
     try clear c2
     try clear c3
     try clear c6
     try clear c6b0
     try clear c6b1
     try clear c7
     try clear c7b0
     try clear c7b1
     try clear c9
     try clear c9b0
     try clear c9b1
     try clear c9b2
     obtain ⟨x1_1, x11_1, x12_1, rfl, rfl, HA, HK1, HO_11, HB⟩ := hrel
     cases gk with
     | zero => exact absurd HA.out (by simp [spigotref39_Fits.l0])
     | succ k1 =>
      have H := HA.out
      clear HA
      simp only [spigotref39_Fits.l0] at H
      by_cases c11 : x12_1 < (l3.length : Int)
      ·rw [if_pos c11] at H
       have c11b0 : decide (x12_1 < (l3.length : Int)) = true := decide_eq_true c11
       clear c11
       by_cases c12 : 0 ≤ x12_1
       rotate_left
       ·rw [if_neg c12] at H; exact absurd H (by simp)
       rw [if_pos c12] at H
       have c12b0 : decide (0 ≤ x12_1) = true := decide_eq_true c12
       clear c12
       by_cases c13 : (rd l3 x12_1) < x1_1
       ·rw [if_pos c13] at H
        have c13b0 : decide ((rd l3 x12_1) < x1_1) = true := decide_eq_true c13
        clear c13
        simp only [Option.some.injEq, Prod.mk.injEq] at H
        obtain ⟨rfl, rfl⟩ := H
        have p290 : 0 ≤ (x12_1 : Int) := of_decide_eq_true (by first | (with_reducible assumption) | assumption)
        have q290 : x12_1 < (l3.length : Int) := of_decide_eq_true (by first | (with_reducible assumption) | assumption)
        obtain ⟨ad290, e290, hx290_0⟩ := Kd.at_int HR3.out x12_1 p290 q290
        cases e290
        replace hx290_0 := (HB.out.cell (World.block_lt_of_cell? w _ hx290_0)).trans hx290_0
        replace p290 := eq_true p290
        replace q290 := eq_true q290
        go_wp2
        go_ret2
        exact fi_
       ·rw [if_neg c13] at H
        have c13b0 : decide ((rd l3 x12_1) < x1_1) = false := decide_eq_false c13
        clear c13
        by_cases c14 : x12_1 < (l2.length : Int)
        rotate_left
        ·rw [if_neg c14] at H; exact absurd H (by simp)
        rw [if_pos c14] at H
        have c14b0 : decide (x12_1 < (l2.length : Int)) = true := decide_eq_true c14
        clear c14
        obtain ⟨⟨t293, t294, t295⟩, A15, H⟩ := bo_ H
        replace H : (if t294 = true then (spigotref39_Fits.l0 k1 (rd l3 x12_1) l2 l3 t293 (wrap64 (x12_1 + 1))) else (some (false, 0))) = some (r1, r2) := H
        by_cases c16 : t294 = true
        ·subst c16
         rw [if_pos rfl] at H
         try dsimp only at H
         have H' := Aside0.mk H
         clear H
         have p290 : 0 ≤ (x12_1 : Int) := of_decide_eq_true (by first | (with_reducible assumption) | assumption)
         have q290 : x12_1 < (l3.length : Int) := of_decide_eq_true (by first | (with_reducible assumption) | assumption)
         obtain ⟨ad290, e290, hx290_0⟩ := Kd.at_int HR3.out x12_1 p290 q290
         cases e290
         replace hx290_0 := (HB.out.cell (World.block_lt_of_cell? w _ hx290_0)).trans hx290_0
         replace p290 := eq_true p290
         replace q290 := eq_true q290
         have p291 : 0 ≤ (x12_1 : Int) := of_decide_eq_true (by first | (with_reducible assumption) | assumption)
         have q291 : x12_1 < (l3.length : Int) := of_decide_eq_true (by first | (with_reducible assumption) | assumption)
         obtain ⟨ad291, e291, hx291_0⟩ := Kd.at_int HR3.out x12_1 p291 q291
         obtain rfl : ad290 = ad291 := (by injection e291)
         replace hx291_0 := (HB.out.cell (World.block_lt_of_cell? w _ hx291_0)).trans hx291_0
         replace p291 := eq_true p291
         replace q291 := eq_true q291
         have p292 : 0 ≤ (x12_1 : Int) := of_decide_eq_true (by first | (with_reducible assumption) | assumption)
         have q292 : x12_1 < (l2.length : Int) := of_decide_eq_true (by first | (with_reducible assumption) | assumption)
         obtain ⟨ad292, e292, hx292_0⟩ := Kd.at_int HR2.out x12_1 p292 q292
         cases e292
         replace hx292_0 := (HB.out.cell (World.block_lt_of_cell? w _ hx292_0)).trans hx292_0
         replace p292 := eq_true p292
         replace q292 := eq_true q292
         obtain ⟨Ao17, co17, eo17⟩ := Kd.V_slice HO_11.out
         subst eo17
         go_wp2_with (first | ((with_reducible refine gate_callee (f := 34) rfl ?_); refine goesA_ (some 54) Try.func34 #[.slice Ao17 x11_1.length co17, .int .u64 (rd l3 x12_1), .int .i64 (rd l2 x12_1)] ?_; (with_reducible refine (spigotref04_Take.calls k1 _ _ x11_1 (rd l3 x12_1) (rd l2 x12_1) t293 true t295 _ ?side1 ?side2 A15.out).mono ?_); (case side1 => repeat (first | exact (Kd.V_reads' HO_11.out).2.2 | (with_reducible refine Kd.C_alloc ?_ _) | (with_reducible refine Kd.C_drewN ?_ _) | (with_reducible refine Kd.C_drew ?_))); (case side2 => exact (Kd.V_reads' HO_11.out).2.1); rintro e w18 ⟨v296, rfl, ho0, hb⟩; refine ⟨_, rfl, ?_⟩; have HO297 := Aside0.mk (Kd.R_lower (Kd.R_newM (M := fun k_ => (w.heap.size ≤ k_)) ho0 (below_size (hq_ HB)) (fun k_ h_ => h_)) (below_size (hq_ HB))); replace HO_11 := Aside0.mk (Kd.V_elder' (by (with_reducible repeat (first | apply Kd.V_alloc | apply Kd.V_drewN | apply Kd.V_drew)); exact HO_11.out) (Kd.R_base ho0) hb); replace HB := bs_ w hb; (try clear hb); (try clear hb2); (try clear hk); (try clear hi); (try clear ho0)))
         go_roundg k1
         case measure => have := HK1.out; omega
         case rel => exact ⟨(rd l3 x12_1), (t293), (wrap64 (x12_1 + 1)), rf_, rf_, H', ⟨by have := HK1.out; omega⟩, ⟨Kd.V_mono (Kd.R_V (by (with_reducible repeat (first | apply Kd.R_alloc | apply Kd.R_drewN | apply Kd.R_drew)); exact Kd.R_mono HO297.out (fun _ hk => hk.1))) (fun k_ hk => by first | exact ⟨(.inr (hk.1)), hk.2⟩ | exact (.inr (hk)))⟩, bw_⟩
        ·replace c16 := Bool.eq_false_iff.mpr c16
         subst c16
         replace H : (some (false, 0)) = some (r1, r2) := by rw [if_neg (show ¬ (false = true) by decide)] at H; exact H
         simp only [Option.some.injEq, Prod.mk.injEq] at H
         obtain ⟨rfl, rfl⟩ := H
         have p290 : 0 ≤ (x12_1 : Int) := of_decide_eq_true (by first | (with_reducible assumption) | assumption)
         have q290 : x12_1 < (l3.length : Int) := of_decide_eq_true (by first | (with_reducible assumption) | assumption)
         obtain ⟨ad290, e290, hx290_0⟩ := Kd.at_int HR3.out x12_1 p290 q290
         cases e290
         replace hx290_0 := (HB.out.cell (World.block_lt_of_cell? w _ hx290_0)).trans hx290_0
         replace p290 := eq_true p290
         replace q290 := eq_true q290
         have p291 : 0 ≤ (x12_1 : Int) := of_decide_eq_true (by first | (with_reducible assumption) | assumption)
         have q291 : x12_1 < (l3.length : Int) := of_decide_eq_true (by first | (with_reducible assumption) | assumption)
         obtain ⟨ad291, e291, hx291_0⟩ := Kd.at_int HR3.out x12_1 p291 q291
         obtain rfl : ad290 = ad291 := (by injection e291)
         replace hx291_0 := (HB.out.cell (World.block_lt_of_cell? w _ hx291_0)).trans hx291_0
         replace p291 := eq_true p291
         replace q291 := eq_true q291
         have p292 : 0 ≤ (x12_1 : Int) := of_decide_eq_true (by first | (with_reducible assumption) | assumption)
         have q292 : x12_1 < (l2.length : Int) := of_decide_eq_true (by first | (with_reducible assumption) | assumption)
         obtain ⟨ad292, e292, hx292_0⟩ := Kd.at_int HR2.out x12_1 p292 q292
         cases e292
         replace hx292_0 := (HB.out.cell (World.block_lt_of_cell? w _ hx292_0)).trans hx292_0
         replace p292 := eq_true p292
         replace q292 := eq_true q292
         obtain ⟨Ao19, co19, eo19⟩ := Kd.V_slice HO_11.out
         subst eo19
         go_wp2_with (first | ((with_reducible refine gate_callee (f := 34) rfl ?_); refine goesA_ (some 54) Try.func34 #[.slice Ao19 x11_1.length co19, .int .u64 (rd l3 x12_1), .int .i64 (rd l2 x12_1)] ?_; (with_reducible refine (spigotref04_Take.calls k1 _ _ x11_1 (rd l3 x12_1) (rd l2 x12_1) t293 false t295 _ ?side1 ?side2 A15.out).mono ?_); (case side1 => repeat (first | exact (Kd.V_reads' HO_11.out).2.2 | (with_reducible refine Kd.C_alloc ?_ _) | (with_reducible refine Kd.C_drewN ?_ _) | (with_reducible refine Kd.C_drew ?_))); (case side2 => exact (Kd.V_reads' HO_11.out).2.1); rintro e w20 ⟨v296, rfl, ho0, hb⟩; refine ⟨_, rfl, ?_⟩; have HO297 := Aside0.mk (Kd.R_lower (Kd.R_newM (M := fun k_ => (w.heap.size ≤ k_)) ho0 (below_size (hq_ HB)) (fun k_ h_ => h_)) (below_size (hq_ HB))); replace HO_11 := Aside0.mk (Kd.V_elder' (by (with_reducible repeat (first | apply Kd.V_alloc | apply Kd.V_drewN | apply Kd.V_drew)); exact HO_11.out) (Kd.R_base ho0) hb); replace HB := bs_ w hb; (try clear hb); (try clear hb2); (try clear hk); (try clear hi); (try clear ho0)))
         go_ret2
         exact fi_
      ·rw [if_neg c11] at H
       have c11b0 : decide (x12_1 < (l3.length : Int)) = false := decide_eq_false c11
       clear c11
       simp only [Option.some.injEq, Prod.mk.injEq] at H
       obtain ⟨rfl, rfl⟩ := H
       go_wp2
       go_ret2
       exact fi_
   ·rw [if_neg c9] at H
    have c9b0 : ((l3.length : Int) == (l2.length : Int)) = false := beq_eq_false_iff_ne.mpr c9
    have c9b1 : ((l3.length : Int) != (l2.length : Int)) = true := bne_iff_ne.mpr c9
    have c9b2 : (l3.length == l2.length) = false := by first | simpa using c9 | (simp at c9 ⊢; omega)
    simp only [Option.some.injEq, Prod.mk.injEq] at H
    obtain ⟨rfl, rfl⟩ := H
    go_enter Try.func12, Try.ntmps12
    go_wp2_with (first | ((with_reducible refine gate_callee (f := 33) rfl ?_); refine goesA_ (some 18) Try.func33 #[.slice A0 l0.length c0, .slice A2 l2.length c2] ?_; (with_reducible refine (spigotref39_Both.calls k _ _ l0 _ _ l2 t289 _ ?side1 ?side2 ?side3 ?side4 A5.out).mono ?_); (case side1 => repeat (first | exact (Kd.V_reads' HO0.out).2.2 | (with_reducible refine Kd.C_alloc ?_ _) | (with_reducible refine Kd.C_drewN ?_ _) | (with_reducible refine Kd.C_drew ?_))); (case side2 => exact (Kd.V_reads' HO0.out).2.1); (case side3 => repeat (first | exact HR2.out | (with_reducible refine Kd.C_alloc ?_ _) | (with_reducible refine Kd.C_drewN ?_ _) | (with_reducible refine Kd.C_drew ?_))); (case side4 => exact HC2.out); rintro e w21 ⟨rfl, hb⟩; refine ⟨_, rfl, ?_⟩; replace HO0 := Aside0.mk (Kd.V_below (by (with_reducible repeat (first | apply Kd.V_alloc | apply Kd.V_drewN | apply Kd.V_drew)); exact HO0.out) hb); replace HB := bs_ w hb; clear hb))
    go_ret2
    exact fi_
 ·rw [if_neg c6] at H
  have c6b0 : (t289 == 0) = false := beq_eq_false_iff_ne.mpr c6
  have c6b1 : (t289 != 0) = true := bne_iff_ne.mpr c6
  simp only [Option.some.injEq, Prod.mk.injEq] at H
  obtain ⟨rfl, rfl⟩ := H
  go_enter Try.func12, Try.ntmps12
  go_wp2_with (first | ((with_reducible refine gate_callee (f := 33) rfl ?_); refine goesA_ (some 18) Try.func33 #[.slice A0 l0.length c0, .slice A2 l2.length c2] ?_; (with_reducible refine (spigotref39_Both.calls k _ _ l0 _ _ l2 t289 _ ?side1 ?side2 ?side3 ?side4 A5.out).mono ?_); (case side1 => repeat (first | exact (Kd.V_reads' HO0.out).2.2 | (with_reducible refine Kd.C_alloc ?_ _) | (with_reducible refine Kd.C_drewN ?_ _) | (with_reducible refine Kd.C_drew ?_))); (case side2 => exact (Kd.V_reads' HO0.out).2.1); (case side3 => repeat (first | exact HR2.out | (with_reducible refine Kd.C_alloc ?_ _) | (with_reducible refine Kd.C_drewN ?_ _) | (with_reducible refine Kd.C_drew ?_))); (case side4 => exact HC2.out); rintro e w22 ⟨rfl, hb⟩; refine ⟨_, rfl, ?_⟩; replace HO0 := Aside0.mk (Kd.V_below (by (with_reducible repeat (first | apply Kd.V_alloc | apply Kd.V_drewN | apply Kd.V_drew)); exact HO0.out) hb); replace HB := bs_ w hb; clear hb))
  go_ret2
  exact fi_

end Go.Proofs.Ytfdpcnkghmmobaa.X
