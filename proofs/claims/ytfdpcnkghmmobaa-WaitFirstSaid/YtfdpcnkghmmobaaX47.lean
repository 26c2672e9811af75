-- written by xprint.py, a program of this session over the kit's print
import Derived.Test.YtfdpcnkghmmobaaX0
import Derived.Test.YtfdpcnkghmmobaaX32
import Derived.Test.YtfdpcnkghmmobaaX37
import Derived.Test.YtfdpcnkghmmobaaX38
import Derived.Test.YtfdpcnkghmmobaaX46
namespace Go.Proofs.Ytfdpcnkghmmobaa.X
open Go.RowKit Go.Proofs.YtfdpcnkghmmobaaW.PrintWords Go.Proofs.YtfdpcnkghmmobaaW.PrintLast Go.Proofs.YtfdpcnkghmmobaaW.PrintMore
attribute [local go_sem] max2_int min2_int max_two min_two max_three min_three max_four min_four   -- for this text's walks alone
set_option linter.unusedVariables false
set_option linter.unusedSimpArgs false

/-! ### spigotlaw39_WaitFirst: function 7 -/
def spigotlaw39_WaitFirst.j0 : Nat → List (S63) → Int → Int → Bool → Bool → Option (Bool)
  | 0, _, _, _, _, _ => none
  | k + 1, x0, x1, x2, x7, x31 => if x31 = true then (some x7) else ((wait_First.f k x0 x1 x2).bind fun bt653 => (if bt653.2 = 0 then ((levels_Refill.f k x0 bt653.1).bind fun bt661 => ((levels_Holds.f k bt661.1 x2).bind fun bt665 => (if bt653.1 < x1 then (none) else (if bt661.2 = 0 then (if bt665.2 = 0 then (if bt665.1 = true then (if bt653.1 = x1 then (some x7) else ((levels_Refill.f k x0 (IntKind.u64.wrap (bt653.1 - 1))).bind fun bt667 => ((levels_Holds.f k bt667.1 x2).bind fun bt671 => (if x7 = true then (if bt667.2 = 0 then (if bt671.2 = 0 then (some (!bt671.1)) else (none)) else (none)) else (none))))) else (none)) else (none)) else (none))))) else ((levels_Refill.f k x0 18446744073709551615).bind fun bt655 => ((levels_Holds.f k bt655.1 x2).bind fun bt659 => (if x7 = true then (if bt653.2 = 6 then (if bt655.2 = 0 then (if bt659.2 = 0 then (some (!bt659.1)) else (none)) else (none)) else (none)) else (none))))))
def spigotlaw39_WaitFirst.f (k : Nat) (l0 : List (S63)) (a1 : Int) (a2 : Int) : Option (Bool) := (spigotlaw39_alive.f k).bind fun t648 => ((spigotlaw39_fit.f k l0 (([a2] : List Int))).bind fun t652 => (if t652 = true then (spigotlaw39_WaitFirst.j0 k l0 a1 a2 t648 (!t648)) else (spigotlaw39_WaitFirst.j0 k l0 a1 a2 t648 true)))
theorem spigotlaw39_WaitFirst.mono_l : ∀ k, (∀ y0 y1 y2 y3 y4, LeO (spigotlaw39_WaitFirst.j0 k y0 y1 y2 y3 y4) (spigotlaw39_WaitFirst.j0 (k + 1) y0 y1 y2 y3 y4))
  | 0 => fun _ _ _ _ _ r h => by simp [spigotlaw39_WaitFirst.j0] at h
  | k + 1 => by
    have ih0 := spigotlaw39_WaitFirst.mono_l k
    · intro y0 y1 y2 y3 y4
      unfold spigotlaw39_WaitFirst.j0
      repeat' first
      | (with_reducible exact ih0 _ _ _ _ _)
      | (with_reducible exact levels_Holds.mono _ _ _)
      | (with_reducible exact levels_Refill.mono _ _ _)
      | (with_reducible exact spigotlaw39_alive.mono _)
      | (with_reducible exact spigotlaw39_fit.mono _ _ _)
      | (with_reducible exact wait_First.mono _ _ _ _)
      | (with_reducible exact LeO.refl _)
      | (with_reducible exact LeO.none _)
      | (with_reducible refine LeO.ite ?_ ?_)
      | (with_reducible refine LeO.bind ?_ (fun _ => ?_))
      | exact ih0 _ _ _ _ _
      | exact levels_Holds.mono _ _ _
      | exact levels_Refill.mono _ _ _
      | exact spigotlaw39_alive.mono _
      | exact spigotlaw39_fit.mono _ _ _
      | exact wait_First.mono _ _ _ _
      | exact LeO.none _
      | refine LeO.ite ?_ ?_
      | refine LeO.bind ?_ (fun _ => ?_)
theorem spigotlaw39_WaitFirst.mono : ∀ a0 a1 a2 k, LeO (spigotlaw39_WaitFirst.f k a0 a1 a2) (spigotlaw39_WaitFirst.f (k + 1) a0 a1 a2) := by
  intro a0 a1 a2 k
  have ih0 := spigotlaw39_WaitFirst.mono_l k
  unfold spigotlaw39_WaitFirst.f
  repeat' first
      | (with_reducible exact ih0 _ _ _ _ _)
      | (with_reducible exact levels_Holds.mono _ _ _)
      | (with_reducible exact levels_Refill.mono _ _ _)
      | (with_reducible exact spigotlaw39_alive.mono _)
      | (with_reducible exact spigotlaw39_fit.mono _ _ _)
      | (with_reducible exact wait_First.mono _ _ _ _)
      | (with_reducible exact LeO.refl _)
      | (with_reducible exact LeO.none _)
      | (with_reducible refine LeO.ite ?_ ?_)
      | (with_reducible refine LeO.bind ?_ (fun _ => ?_))
      | exact ih0 _ _ _ _ _
      | exact levels_Holds.mono _ _ _
      | exact levels_Refill.mono _ _ _
      | exact spigotlaw39_alive.mono _
      | exact spigotlaw39_fit.mono _ _ _
      | exact wait_First.mono _ _ _ _
      | exact LeO.none _
      | refine LeO.ite ?_ ?_
      | refine LeO.bind ?_ (fun _ => ?_)
set_option maxHeartbeats 8000000 in
set_option maxRecDepth 100000 in
theorem spigotlaw39_WaitFirst.calls (k : Nat) (A0 : Option Addr) (c0 : Nat) (l0 : List (S63)) (a1 : Int) (a2 : Int) (r : Bool) (w : World) (hr0 : Kd.C k63 w A0 l0.length l0) (hc0 : l0.length ≤ c0) (h : spigotlaw39_WaitFirst.f k l0 a1 a2 = some r) :
  Calls Try.prog 7 #[.slice A0 l0.length c0, .int .u64 a1, .int .i64 a2] w fun e w' => e = .returned (.bool r) ∧ Below w.heap.size w w' := by
 have HR0 := Aside0.mk hr0
 have HC0 := Aside0.mk hc0
 clear hr0 hc0
 have HB := Aside0.mk (Below.refl w.heap.size w)
 have H : ((spigotlaw39_alive.f k).bind fun t648 => ((spigotlaw39_fit.f k l0 (([a2] : List Int))).bind fun t652 => (if t652 = true then (spigotlaw39_WaitFirst.j0 k l0 a1 a2 t648 (!t648)) else (spigotlaw39_WaitFirst.j0 k l0 a1 a2 t648 true)))) = some r := h
 clear h
 obtain ⟨t648, A4, H⟩ := bo_ H
 try dsimp only at H
 have HC5 := Aside0.mk H
 clear H
 go_enter Try.func7, Try.ntmps7
 go_upto_region 2 with (first | ((with_reducible refine gate_callee (f := 13) rfl ?_); (try refine ug_ (by rfl) ?_); refine goesA_ (some 22) Try.func13 #[] ?_; (with_reducible refine (spigotlaw39_alive.calls k  t648 _ A4.out).mono ?_); rintro e w6 ⟨rfl, hb⟩; refine ⟨_, rfl, ?_⟩; replace HB := bs_ w hb; clear hb))
 (try simp only [Act.put, List.setIfInBounds_toArray, List.set_cons_zero, List.set_cons_succ])
 go_cut [31] (fun v31 wc => ∃ (kq : Nat) (x31_4 : Bool), v31 = .bool x31_4 ∧ Aside0 (spigotlaw39_WaitFirst.j0 kq l0 a1 a2 t648 x31_4 = some r) ∧ Aside0 (kq ≤ k) ∧ Aside0 (Below w.heap.size w wc))
 case first =>
  have H := HC5.out
  clear HC5
  obtain ⟨y649, hy649⟩ : ∃ y_ : List Int, y_ = (([a2] : List Int)) := ⟨_, rfl⟩
  replace H : ((spigotlaw39_fit.f k l0 y649).bind fun t652 => (if t652 = true then (spigotlaw39_WaitFirst.j0 k l0 a1 a2 t648 (!t648)) else (spigotlaw39_WaitFirst.j0 k l0 a1 a2 t648 true))) = some r := by first | (rw [hy649]; with_reducible exact H) | (have H2_ := (Option.bind_some _ _).symm.trans H; rw [hy649]; with_reducible exact H2_) | (have H2_ := (Option.bind_some _ _).symm.trans H; with_reducible exact H2_) | with_reducible exact H | (rw [hy649]; exact H) | exact H
  have Ny649 := Aside0.mk hy649
  clear hy649
  obtain ⟨t652, A7, H⟩ := bo_ H
  replace H : (if t652 = true then (spigotlaw39_WaitFirst.j0 k l0 a1 a2 t648 (!t648)) else (spigotlaw39_WaitFirst.j0 k l0 a1 a2 t648 true)) = some r := H
  by_cases c8 : t652 = true
  ·subst c8
   replace H : (spigotlaw39_WaitFirst.j0 k l0 a1 a2 t648 (!t648)) = some r := by rw [if_pos rfl] at H; exact H
   have H' := Aside0.mk H
   clear H
   go_wp2_with (first | ((with_reducible refine gate_dst (N := 25) rfl ?_); (try refine ug_ (by rfl) ?_); refine Kd.R_lit (Kd.int .i64) _ 2 ?hg (N := 25) ?hd (xs := ([a2] : List Int)) (inner := [.int .i64 a2]) (ok := fun _ => True) (okp := fun _ => True) ?hr ?hp (fun _ hk => hk) trivial (Below.refl _ _) (Nat.le_refl _) (by simp) ?_; (case hd => rfl); (case hg => rfl); (case hr => first | (go_simp; done) | (go_simp; rfl)); (case hp => exact (Reps.one (show Kd.M (Kd.int .i64) _ _ _ a2 [.int .i64 a2] from rfl) (Reps.none _ _))); intro v650 w9 ho10 hb hg_ hnew_; clear hg_ hnew_; (first | rw [← Ny649.out] at ho10 | (simp only [Int.reduceToNat] at ho10; rw [← Ny649.out] at ho10)); have HO651 := Aside0.mk (Kd.R_lower ho10 (below_size (hq_ HB))); replace HB := bs_ w hb; clear hb ho10; obtain ⟨Ao11, co11, eo11⟩ := Kd.R_slice HO651.out; subst eo11) | ((with_reducible refine gate_callee (f := 14) rfl ?_); (try refine ug_ (by rfl) ?_); refine goesA_ (some 26) Try.func14 #[.slice A0 l0.length c0, .slice Ao11 y649.length co11] ?_; (with_reducible refine (spigotlaw39_fit.calls k _ _ l0 _ _ y649 true _ ?side1 ?side2 ?side3 ?side4 A7.out).mono ?_); (case side1 => repeat (first | exact (Kd.C_below HR0.out HB.out) | (with_reducible refine Kd.C_alloc ?_ _) | (with_reducible refine Kd.C_drewN ?_ _) | (with_reducible refine Kd.C_drew ?_))); (case side2 => exact HC0.out); (case side3 => repeat (first | exact (Kd.R_reads' HO651.out).2.2 | (with_reducible refine Kd.C_alloc ?_ _) | (with_reducible refine Kd.C_drewN ?_ _) | (with_reducible refine Kd.C_drew ?_))); (case side4 => exact (Kd.R_reads' HO651.out).2.1); rintro e w12 ⟨rfl, hb⟩; refine ⟨_, rfl, ?_⟩; replace HO651 := Aside0.mk (Kd.R_below (by (with_reducible repeat (first | apply Kd.R_alloc | apply Kd.R_drewN | apply Kd.R_drew)); exact HO651.out) hb); replace HB := bs_ w hb; clear hb))
   go_meet
   case rel => exact ⟨_, (!t648), rf_, H', al_, bw_⟩
  ·replace c8 := Bool.eq_false_iff.mpr c8
   subst c8
   replace H : (spigotlaw39_WaitFirst.j0 k l0 a1 a2 t648 true) = some r := by rw [if_neg (show ¬ (false = true) by decide)] at H; exact H
   have H' := Aside0.mk H
   clear H
   go_wp2_with (first | ((with_reducible refine gate_dst (N := 25) rfl ?_); (try refine ug_ (by rfl) ?_); refine Kd.R_lit (Kd.int .i64) _ 2 ?hg (N := 25) ?hd (xs := ([a2] : List Int)) (inner := [.int .i64 a2]) (ok := fun _ => True) (okp := fun _ => True) ?hr ?hp (fun _ hk => hk) trivial (Below.refl _ _) (Nat.le_refl _) (by simp) ?_; (case hd => rfl); (case hg => rfl); (case hr => first | (go_simp; done) | (go_simp; rfl)); (case hp => exact (Reps.one (show Kd.M (Kd.int .i64) _ _ _ a2 [.int .i64 a2] from rfl) (Reps.none _ _))); intro v650 w13 ho14 hb hg_ hnew_; clear hg_ hnew_; (first | rw [← Ny649.out] at ho14 | (simp only [Int.reduceToNat] at ho14; rw [← Ny649.out] at ho14)); have HO651 := Aside0.mk (Kd.R_lower ho14 (below_size (hq_ HB))); replace HB := bs_ w hb; clear hb ho14; obtain ⟨Ao15, co15, eo15⟩ := Kd.R_slice HO651.out; subst eo15) | ((with_reducible refine gate_callee (f := 14) rfl ?_); (try refine ug_ (by rfl) ?_); refine goesA_ (some 26) Try.func14 #[.slice A0 l0.length c0, .slice Ao15 y649.length co15] ?_; (with_reducible refine (spigotlaw39_fit.calls k _ _ l0 _ _ y649 false _ ?side1 ?side2 ?side3 ?side4 A7.out).mono ?_); (case side1 => repeat (first | exact (Kd.C_below HR0.out HB.out) | (with_reducible refine Kd.C_alloc ?_ _) | (with_reducible refine Kd.C_drewN ?_ _) | (with_reducible refine Kd.C_drew ?_))); (case side2 => exact HC0.out); (case side3 => repeat (first | exact (Kd.R_reads' HO651.out).2.2 | (with_reducible refine Kd.C_alloc ?_ _) | (with_reducible refine Kd.C_drewN ?_ _) | (with_reducible refine Kd.C_drew ?_))); (case side4 => exact (Kd.R_reads' HO651.out).2.1); rintro e w16 ⟨rfl, hb⟩; refine ⟨_, rfl, ?_⟩; replace HO651 := Aside0.mk (Kd.R_below (by (with_reducible repeat (first | apply Kd.R_alloc | apply Kd.R_drewN | apply Kd.R_drew)); exact HO651.out) hb); replace HB := bs_ w hb; clear hb))
   go_meet
   case rel => exact ⟨_, (true), rf_, H', al_, bw_⟩
 case rest =>
  clear HC5
  obtain ⟨kq, x31_4, rfl, HA, HJ4, HB⟩ := hcut
  cases kq with
  | zero => exact absurd HA.out (by simp [spigotlaw39_WaitFirst.j0])
  | succ kj4 =>
   have H := HA.out
   clear HA
   simp only [spigotlaw39_WaitFirst.j0] at H
   by_cases c17 : x31_4 = true
   ·subst c17
    replace H : (some t648) = some r := by rw [if_pos rfl] at H; exact H
    obtain rfl := Option.some.inj H
    go_wp2
    go_ret
    exact fi_
   ·replace c17 := Bool.eq_false_iff.mpr c17
    subst c17
    rw [if_neg (show ¬ (false = true) by decide)] at H
    try dsimp only at H
    obtain ⟨⟨t653, t654⟩, A18, H⟩ := bo_ H
    try dsimp only at H
    by_cases c19 : t654 = 0
    ·rw [if_pos c19] at H
     have c19b0 : (t654 == 0) = true := beq_iff_eq.mpr c19
     have c19b1 : (t654 != 0) = false := bne_eq_false_iff_eq.mpr c19
     clear c19
     obtain ⟨⟨t661, t662⟩, A20, H⟩ := bo_ H
     try dsimp only at H
     obtain ⟨⟨t665, t666⟩, A21, H⟩ := bo_ H
     try dsimp only at H
     by_cases c22 : t653 < a1
     ·rw [if_pos c22] at H; exact absurd H (by simp)
     rw [if_neg c22] at H
     have c22b0 : decide (t653 < a1) = false := decide_eq_false c22
     clear c22
     by_cases c23 : t662 = 0
     rotate_left
     ·rw [if_neg c23] at H; exact absurd H (by simp)
     rw [if_pos c23] at H
     have c23b0 : (t662 == 0) = true := beq_iff_eq.mpr c23
     have c23b1 : (t662 != 0) = false := bne_eq_false_iff_eq.mpr c23
     clear c23
     by_cases c24 : t666 = 0
     rotate_left
     ·rw [if_neg c24] at H; exact absurd H (by simp)
     rw [if_pos c24] at H
     have c24b0 : (t666 == 0) = true := beq_iff_eq.mpr c24
     have c24b1 : (t666 != 0) = false := bne_eq_false_iff_eq.mpr c24
     clear c24
     by_cases c25 : t665 = true
     ·subst c25
      rw [if_pos rfl] at H
      try dsimp only at H
      by_cases c26 : t653 = a1
      ·rw [if_pos c26] at H
       have c26b0 : (t653 == a1) = true := beq_iff_eq.mpr c26
       have c26b1 : (t653 != a1) = false := bne_eq_false_iff_eq.mpr c26
       clear c26
       obtain rfl := Option.some.inj H
       go_wp2_with (first | ((with_reducible refine gate_callee (f := 16) rfl ?_); (try refine ug_ (by rfl) ?_); refine goesA_ (some 37) Try.func16 #[.slice A0 l0.length c0, .int .u64 a1, .int .i64 a2] ?_; (with_reducible refine (wait_First.calls kj4 _ _ l0 a1 a2 t653 t654 _ ?side1 ?side2 A18.out).mono ?_); (case side1 => repeat (first | exact (Kd.C_below HR0.out HB.out) | (with_reducible refine Kd.C_alloc ?_ _) | (with_reducible refine Kd.C_drewN ?_ _) | (with_reducible refine Kd.C_drew ?_))); (case side2 => exact HC0.out); rintro e w27 ⟨rfl, hb⟩; refine ⟨_, rfl, ?_⟩; replace HB := bs_ w hb; clear hb) | ((with_reducible refine gate_callee (f := 25) rfl ?_); (try refine ug_ (by rfl) ?_); refine goesA_ (some 73) Try.func25 #[.slice A0 l0.length c0, .int .u64 t653] ?_; (with_reducible refine (levels_Refill.calls kj4 _ _ l0 t653 t661 t662 _ ?side1 ?side2 A20.out).mono ?_); (case side1 => repeat (first | exact (Kd.C_below HR0.out HB.out) | (with_reducible refine Kd.C_alloc ?_ _) | (with_reducible refine Kd.C_drewN ?_ _) | (with_reducible refine Kd.C_drew ?_))); (case side2 => exact HC0.out); rintro e w28 ⟨v663, rfl, ho0, hb⟩; refine ⟨_, rfl, ?_⟩; have HO664 := Aside0.mk (Kd.R_lower ho0 (below_size (hq_ HB))); replace HB := bs_ w hb; clear hb; (try clear ho0); obtain ⟨Ao29, co29, eo29⟩ := Kd.R_slice HO664.out; subst eo29) | ((with_reducible refine gate_callee (f := 26) rfl ?_); (try refine ug_ (by rfl) ?_); refine goesA_ (some 79) Try.func26 #[.slice Ao29 t661.length co29, .int .i64 a2] ?_; (with_reducible refine (levels_Holds.calls kj4 _ _ t661 a2 true t666 _ ?side1 ?side2 A21.out).mono ?_); (case side1 => repeat (first | exact (Kd.R_reads' HO664.out).2.2 | (with_reducible refine Kd.C_alloc ?_ _) | (with_reducible refine Kd.C_drewN ?_ _) | (with_reducible refine Kd.C_drew ?_))); (case side2 => exact (Kd.R_reads' HO664.out).2.1); rintro e w30 ⟨rfl, hb⟩; refine ⟨_, rfl, ?_⟩; replace HO664 := Aside0.mk (Kd.R_below (by (with_reducible repeat (first | apply Kd.R_alloc | apply Kd.R_drewN | apply Kd.R_drew)); exact HO664.out) hb); replace HB := bs_ w hb; clear hb))
       go_ret
       exact fi_
      ·rw [if_neg c26] at H
       have c26b0 : (t653 == a1) = false := beq_eq_false_iff_ne.mpr c26
       have c26b1 : (t653 != a1) = true := bne_iff_ne.mpr c26
       obtain ⟨⟨t667, t668⟩, A31, H⟩ := bo_ H
       try dsimp only at H
       obtain ⟨⟨t671, t672⟩, A32, H⟩ := bo_ H
       replace H : (if t648 = true then (if t668 = 0 then (if t672 = 0 then (some (!t671)) else (none)) else (none)) else (none)) = some r := H
       by_cases c33 : t648 = true
       ·subst c33
        rw [if_pos rfl] at H
        try dsimp only at H
        by_cases c34 : t668 = 0
        rotate_left
        ·rw [if_neg c34] at H; exact absurd H (by simp)
        rw [if_pos c34] at H
        have c34b0 : (t668 == 0) = true := beq_iff_eq.mpr c34
        have c34b1 : (t668 != 0) = false := bne_eq_false_iff_eq.mpr c34
        clear c34
        by_cases c35 : t672 = 0
        rotate_left
        ·rw [if_neg c35] at H; exact absurd H (by simp)
        rw [if_pos c35] at H
        have c35b0 : (t672 == 0) = true := beq_iff_eq.mpr c35
        have c35b1 : (t672 != 0) = false := bne_eq_false_iff_eq.mpr c35
        clear c35
        obtain rfl := Option.some.inj H
        go_wp2_with (first | ((with_reducible refine gate_callee (f := 16) rfl ?_); (try refine ug_ (by rfl) ?_); refine goesA_ (some 37) Try.func16 #[.slice A0 l0.length c0, .int .u64 a1, .int .i64 a2] ?_; (with_reducible refine (wait_First.calls kj4 _ _ l0 a1 a2 t653 t654 _ ?side1 ?side2 A18.out).mono ?_); (case side1 => repeat (first | exact (Kd.C_below HR0.out HB.out) | (with_reducible refine Kd.C_alloc ?_ _) | (with_reducible refine Kd.C_drewN ?_ _) | (with_reducible refine Kd.C_drew ?_))); (case side2 => exact HC0.out); rintro e w36 ⟨rfl, hb⟩; refine ⟨_, rfl, ?_⟩; replace HB := bs_ w hb; clear hb) | ((with_reducible refine gate_callee (f := 25) rfl ?_); (try refine ug_ (by rfl) ?_); refine goesA_ (some 73) Try.func25 #[.slice A0 l0.length c0, .int .u64 t653] ?_; (with_reducible refine (levels_Refill.calls kj4 _ _ l0 t653 t661 t662 _ ?side1 ?side2 A20.out).mono ?_); (case side1 => repeat (first | exact (Kd.C_below HR0.out HB.out) | (with_reducible refine Kd.C_alloc ?_ _) | (with_reducible refine Kd.C_drewN ?_ _) | (with_reducible refine Kd.C_drew ?_))); (case side2 => exact HC0.out); rintro e w37 ⟨v663, rfl, ho0, hb⟩; refine ⟨_, rfl, ?_⟩; have HO664 := Aside0.mk (Kd.R_lower ho0 (below_size (hq_ HB))); replace HB := bs_ w hb; clear hb; (try clear ho0); obtain ⟨Ao38, co38, eo38⟩ := Kd.R_slice HO664.out; subst eo38) | ((with_reducible refine gate_callee (f := 26) rfl ?_); (try refine ug_ (by rfl) ?_); refine goesA_ (some 79) Try.func26 #[.slice Ao38 t661.length co38, .int .i64 a2] ?_; (with_reducible refine (levels_Holds.calls kj4 _ _ t661 a2 true t666 _ ?side1 ?side2 A21.out).mono ?_); (case side1 => repeat (first | exact (Kd.R_reads' HO664.out).2.2 | (with_reducible refine Kd.C_alloc ?_ _) | (with_reducible refine Kd.C_drewN ?_ _) | (with_reducible refine Kd.C_drew ?_))); (case side2 => exact (Kd.R_reads' HO664.out).2.1); rintro e w39 ⟨rfl, hb⟩; refine ⟨_, rfl, ?_⟩; replace HO664 := Aside0.mk (Kd.R_below (by (with_reducible repeat (first | apply Kd.R_alloc | apply Kd.R_drewN | apply Kd.R_drew)); exact HO664.out) hb); replace HB := bs_ w hb; clear hb) | ((with_reducible refine gate_callee (f := 25) rfl ?_); (try refine ug_ (by rfl) ?_); refine goesA_ (some 105) Try.func25 #[.slice A0 l0.length c0, .int .u64 (IntKind.u64.wrap (t653 - 1))] ?_; (with_reducible refine (levels_Refill.calls kj4 _ _ l0 (IntKind.u64.wrap (t653 - 1)) t667 t668 _ ?side1 ?side2 A31.out).mono ?_); (case side1 => repeat (first | exact (Kd.C_below HR0.out HB.out) | (with_reducible refine Kd.C_alloc ?_ _) | (with_reducible refine Kd.C_drewN ?_ _) | (with_reducible refine Kd.C_drew ?_))); (case side2 => exact HC0.out); rintro e w40 ⟨v669, rfl, ho0, hb⟩; refine ⟨_, rfl, ?_⟩; have HO670 := Aside0.mk (Kd.R_lower (Kd.R_new' ho0 (Kd.R_lt (by (with_reducible repeat (first | apply Kd.R_alloc | apply Kd.R_drewN | apply Kd.R_drew)); exact HO664.out))) (below_size (hq_ HB))); replace HO664 := Aside0.mk (Kd.R_elder' (by (with_reducible repeat (first | apply Kd.R_alloc | apply Kd.R_drewN | apply Kd.R_drew)); exact HO664.out) (Kd.R_base ho0) hb); replace HB := bs_ w hb; (try clear hb); (try clear hb2); (try clear hk); (try clear hi); (try clear ho0); obtain ⟨Ao41, co41, eo41⟩ := Kd.R_slice HO670.out; subst eo41) | ((with_reducible refine gate_callee (f := 26) rfl ?_); (try refine ug_ (by rfl) ?_); refine goesA_ (some 111) Try.func26 #[.slice Ao41 t667.length co41, .int .i64 a2] ?_; (with_reducible refine (levels_Holds.calls kj4 _ _ t667 a2 t671 t672 _ ?side1 ?side2 A32.out).mono ?_); (case side1 => repeat (first | exact (Kd.R_reads' HO670.out).2.2 | (with_reducible refine Kd.C_alloc ?_ _) | (with_reducible refine Kd.C_drewN ?_ _) | (with_reducible refine Kd.C_drew ?_))); (case side2 => exact (Kd.R_reads' HO670.out).2.1); rintro e w42 ⟨rfl, hb⟩; refine ⟨_, rfl, ?_⟩; replace HO664 := Aside0.mk (Kd.R_below (by (with_reducible repeat (first | apply Kd.R_alloc | apply Kd.R_drewN | apply Kd.R_drew)); exact HO664.out) hb); replace HO670 := Aside0.mk (Kd.R_below (by (with_reducible repeat (first | apply Kd.R_alloc | apply Kd.R_drewN | apply Kd.R_drew)); exact HO670.out) hb); replace HB := bs_ w hb; clear hb))
        go_ret
        exact fi_
       ·replace c33 := Bool.eq_false_iff.mpr c33
        subst c33
        replace H : (none) = some r := by rw [if_neg (show ¬ (false = true) by decide)] at H; exact H
        exact absurd H (by simp)
     ·replace c25 := Bool.eq_false_iff.mpr c25
      subst c25
      replace H : (none) = some r := by rw [if_neg (show ¬ (false = true) by decide)] at H; exact H
      exact absurd H (by simp)
    ·rw [if_neg c19] at H
     have c19b0 : (t654 == 0) = false := beq_eq_false_iff_ne.mpr c19
     have c19b1 : (t654 != 0) = true := bne_iff_ne.mpr c19
     obtain ⟨⟨t655, t656⟩, A43, H⟩ := bo_ H
     try dsimp only at H
     obtain ⟨⟨t659, t660⟩, A44, H⟩ := bo_ H
     replace H : (if t648 = true then (if t654 = 6 then (if t656 = 0 then (if t660 = 0 then (some (!t659)) else (none)) else (none)) else (none)) else (none)) = some r := H
     by_cases c45 : t648 = true
     ·subst c45
      rw [if_pos rfl] at H
      try dsimp only at H
      by_cases c46 : t654 = 6
      rotate_left
      ·rw [if_neg c46] at H; exact absurd H (by simp)
      rw [if_pos c46] at H
      have c46b0 : (t654 == 6) = true := beq_iff_eq.mpr c46
      have c46b1 : (t654 != 6) = false := bne_eq_false_iff_eq.mpr c46
      clear c46
      by_cases c47 : t656 = 0
      rotate_left
      ·rw [if_neg c47] at H; exact absurd H (by simp)
      rw [if_pos c47] at H
      have c47b0 : (t656 == 0) = true := beq_iff_eq.mpr c47
      have c47b1 : (t656 != 0) = false := bne_eq_false_iff_eq.mpr c47
      clear c47
      by_cases c48 : t660 = 0
      rotate_left
      ·rw [if_neg c48] at H; exact absurd H (by simp)
      rw [if_pos c48] at H
      have c48b0 : (t660 == 0) = true := beq_iff_eq.mpr c48
      have c48b1 : (t660 != 0) = false := bne_eq_false_iff_eq.mpr c48
      clear c48
      obtain rfl := Option.some.inj H
      go_wp2_with (first | ((with_reducible refine gate_callee (f := 16) rfl ?_); (try refine ug_ (by rfl) ?_); refine goesA_ (some 37) Try.func16 #[.slice A0 l0.length c0, .int .u64 a1, .int .i64 a2] ?_; (with_reducible refine (wait_First.calls kj4 _ _ l0 a1 a2 t653 t654 _ ?side1 ?side2 A18.out).mono ?_); (case side1 => repeat (first | exact (Kd.C_below HR0.out HB.out) | (with_reducible refine Kd.C_alloc ?_ _) | (with_reducible refine Kd.C_drewN ?_ _) | (with_reducible refine Kd.C_drew ?_))); (case side2 => exact HC0.out); rintro e w49 ⟨rfl, hb⟩; refine ⟨_, rfl, ?_⟩; replace HB := bs_ w hb; clear hb) | ((with_reducible refine gate_callee (f := 25) rfl ?_); (try refine ug_ (by rfl) ?_); refine goesA_ (some 44) Try.func25 #[.slice A0 l0.length c0, .int .u64 18446744073709551615] ?_; (with_reducible refine (levels_Refill.calls kj4 _ _ l0 18446744073709551615 t655 t656 _ ?side1 ?side2 A43.out).mono ?_); (case side1 => repeat (first | exact (Kd.C_below HR0.out HB.out) | (with_reducible refine Kd.C_alloc ?_ _) | (with_reducible refine Kd.C_drewN ?_ _) | (with_reducible refine Kd.C_drew ?_))); (case side2 => exact HC0.out); rintro e w50 ⟨v657, rfl, ho0, hb⟩; refine ⟨_, rfl, ?_⟩; have HO658 := Aside0.mk (Kd.R_lower ho0 (below_size (hq_ HB))); replace HB := bs_ w hb; clear hb; (try clear ho0); obtain ⟨Ao51, co51, eo51⟩ := Kd.R_slice HO658.out; subst eo51) | ((with_reducible refine gate_callee (f := 26) rfl ?_); (try refine ug_ (by rfl) ?_); refine goesA_ (some 50) Try.func26 #[.slice Ao51 t655.length co51, .int .i64 a2] ?_; (with_reducible refine (levels_Holds.calls kj4 _ _ t655 a2 t659 t660 _ ?side1 ?side2 A44.out).mono ?_); (case side1 => repeat (first | exact (Kd.R_reads' HO658.out).2.2 | (with_reducible refine Kd.C_alloc ?_ _) | (with_reducible refine Kd.C_drewN ?_ _) | (with_reducible refine Kd.C_drew ?_))); (case side2 => exact (Kd.R_reads' HO658.out).2.1); rintro e w52 ⟨rfl, hb⟩; refine ⟨_, rfl, ?_⟩; replace HO658 := Aside0.mk (Kd.R_below (by (with_reducible repeat (first | apply Kd.R_alloc | apply Kd.R_drewN | apply Kd.R_drew)); exact HO658.out) hb); replace HB := bs_ w hb; clear hb))
      go_ret
      exact fi_
     ·replace c45 := Bool.eq_false_iff.mpr c45
      subst c45
      replace H : (none) = some r := by rw [if_neg (show ¬ (false = true) by decide)] at H; exact H
      exact absurd H (by simp)

end Go.Proofs.Ytfdpcnkghmmobaa.X
