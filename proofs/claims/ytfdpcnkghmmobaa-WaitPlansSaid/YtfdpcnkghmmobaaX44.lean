-- written by xprint.py, a program of this session over the kit's print
import Derived.Test.YtfdpcnkghmmobaaX0
import Derived.Test.YtfdpcnkghmmobaaX3
import Derived.Test.YtfdpcnkghmmobaaX15
import Derived.Test.YtfdpcnkghmmobaaX19
import Derived.Test.YtfdpcnkghmmobaaX32
import Derived.Test.YtfdpcnkghmmobaaX35
import Derived.Test.YtfdpcnkghmmobaaX36
import Derived.Test.YtfdpcnkghmmobaaX41
import Derived.Test.YtfdpcnkghmmobaaX42
import Derived.Test.YtfdpcnkghmmobaaX43
namespace Go.Proofs.Ytfdpcnkghmmobaa.X
open Go.RowKit Go.Proofs.YtfdpcnkghmmobaaW.PrintWords Go.Proofs.YtfdpcnkghmmobaaW.PrintLast Go.Proofs.YtfdpcnkghmmobaaW.PrintMore
attribute [local go_sem] max2_int min2_int max_two min_two max_three min_three max_four min_four   -- for this text's walks alone
set_option linter.unusedVariables false
set_option linter.unusedSimpArgs false

/-! ### spigotlaw39_WaitPlans: function 5 -/
def spigotlaw39_WaitPlans.f (k : Nat) (l0 : List (S63)) (a1 : Int) (a2 : Int) (l3 : List Int) : Option (Bool) := (spigotref39_Great.f l0 l3).bind fun t566 => (if t566 = true then (some true) else ((some (([] : List (S63)) : List (S63))).bind fun y567 => (if y567.length + l0.length < 2932031007402 then ((wait_First.f k l0 a1 a2).bind fun bt573 => ((spigotref39_First.f k l0 a1 a2).bind fun bt575 => ((wait_Plan.f k l0 a1 l3).bind fun bt577 => ((spigotref39_Plan.f k l0 a1 l3).bind fun bt584 => ((wait_Many.f k l0 a1 l3).bind fun bt591 => ((spigotref39_Many.f k l0 a1 l3).bind fun bt593 => ((wait_Costs.f k l3).bind fun t595 => ((spigotref39_Costs.f k l3).bind fun t596 => (if t595 = t596 then (if bt573.1 = bt575.1 then (if bt573.2 = bt575.2 then ((spigotref39_Same.f k bt577.1 bt584.1).bind fun t597 => (if t597 = true then ((spigotref04_Same.f k bt577.2.1 bt584.2.1).bind fun t598 => (if t598 = true then (if bt577.2.2 = bt584.2.2 then (if bt591.1 = bt593.1 then (if bt591.2 = bt593.2 then ((spigotref04_Same.f k l0 (y567 ++ l0)).bind fun t599 => (some t599)) else (none)) else (none)) else (none)) else (none))) else (none))) else (none)) else (none)) else (none)))))))))) else (none))))
theorem spigotlaw39_WaitPlans.mono : ∀ a0 a1 a2 a3 k, LeO (spigotlaw39_WaitPlans.f k a0 a1 a2 a3) (spigotlaw39_WaitPlans.f (k + 1) a0 a1 a2 a3) := by
  intro a0 a1 a2 a3 k
  unfold spigotlaw39_WaitPlans.f
  repeat' first
      | (with_reducible exact spigotref04_Same.mono _ _ _)
      | (with_reducible exact spigotref39_Costs.mono _ _)
      | (with_reducible exact spigotref39_First.mono _ _ _ _)
      | (with_reducible exact spigotref39_Many.mono _ _ _ _)
      | (with_reducible exact spigotref39_Plan.mono _ _ _ _)
      | (with_reducible exact spigotref39_Same.mono _ _ _)
      | (with_reducible exact wait_Costs.mono _ _)
      | (with_reducible exact wait_First.mono _ _ _ _)
      | (with_reducible exact wait_Many.mono _ _ _ _)
      | (with_reducible exact wait_Plan.mono _ _ _ _)
      | (with_reducible exact LeO.refl _)
      | (with_reducible exact LeO.none _)
      | (with_reducible refine LeO.ite ?_ ?_)
      | (with_reducible refine LeO.bind ?_ (fun _ => ?_))
      | exact spigotref04_Same.mono _ _ _
      | exact spigotref39_Costs.mono _ _
      | exact spigotref39_First.mono _ _ _ _
      | exact spigotref39_Many.mono _ _ _ _
      | exact spigotref39_Plan.mono _ _ _ _
      | exact spigotref39_Same.mono _ _ _
      | exact wait_Costs.mono _ _
      | exact wait_First.mono _ _ _ _
      | exact wait_Many.mono _ _ _ _
      | exact wait_Plan.mono _ _ _ _
      | exact LeO.none _
      | refine LeO.ite ?_ ?_
      | refine LeO.bind ?_ (fun _ => ?_)
set_option maxHeartbeats 8000000 in
set_option maxRecDepth 100000 in
theorem spigotlaw39_WaitPlans.calls (k : Nat) (A0 : Option Addr) (c0 : Nat) (l0 : List (S63)) (a1 : Int) (a2 : Int) (A3 : Option Addr) (c3 : Nat) (l3 : List Int) (r : Bool) (w : World) (hr0 : Kd.C k63 w A0 l0.length l0) (hc0 : l0.length ≤ c0) (hr3 : Kd.C (Kd.int .i64) w A3 l3.length l3) (hc3 : l3.length ≤ c3) (h : spigotlaw39_WaitPlans.f k l0 a1 a2 l3 = some r) :
  Calls Try.prog 5 #[.slice A0 l0.length c0, .int .u64 a1, .int .i64 a2, .slice A3 l3.length c3] w fun e w' => e = .returned (.bool r) ∧ Below w.heap.size w w' := by
 have HR0 := Aside0.mk hr0
 have HC0 := Aside0.mk hc0
 clear hr0 hc0
 have HR3 := Aside0.mk hr3
 have HC3 := Aside0.mk hc3
 clear hr3 hc3
 have HB := Aside0.mk (Below.refl w.heap.size w)
 have H : ((spigotref39_Great.f l0 l3).bind fun t566 => (if t566 = true then (some true) else ((some (([] : List (S63)) : List (S63))).bind fun y567 => (if y567.length + l0.length < 2932031007402 then ((wait_First.f k l0 a1 a2).bind fun bt573 => ((spigotref39_First.f k l0 a1 a2).bind fun bt575 => ((wait_Plan.f k l0 a1 l3).bind fun bt577 => ((spigotref39_Plan.f k l0 a1 l3).bind fun bt584 => ((wait_Many.f k l0 a1 l3).bind fun bt591 => ((spigotref39_Many.f k l0 a1 l3).bind fun bt593 => ((wait_Costs.f k l3).bind fun t595 => ((spigotref39_Costs.f k l3).bind fun t596 => (if t595 = t596 then (if bt573.1 = bt575.1 then (if bt573.2 = bt575.2 then ((spigotref39_Same.f k bt577.1 bt584.1).bind fun t597 => (if t597 = true then ((spigotref04_Same.f k bt577.2.1 bt584.2.1).bind fun t598 => (if t598 = true then (if bt577.2.2 = bt584.2.2 then (if bt591.1 = bt593.1 then (if bt591.2 = bt593.2 then ((spigotref04_Same.f k l0 (y567 ++ l0)).bind fun t599 => (some t599)) else (none)) else (none)) else (none)) else (none))) else (none))) else (none)) else (none)) else (none)))))))))) else (none))))) = some r := h
 clear h
 obtain ⟨t566, A5, H⟩ := bo_ H
 try dsimp only at H
 by_cases c6 : t566 = true
 ·subst c6
  replace H : (some true) = some r := by rw [if_pos rfl] at H; exact H
  obtain rfl := Option.some.inj H
  go_enter Try.func5, Try.ntmps5
  go_wp2_with (first | ((with_reducible refine gate_callee (f := 10) rfl ?_); (try refine ug_ (by rfl) ?_); refine goesA_ (some 26) Try.func10 #[.slice A0 l0.length c0, .slice A3 l3.length c3] ?_; (with_reducible refine (spigotref39_Great.calls _ _ l0 _ _ l3 true _ ?side1 ?side2 ?side3 ?side4 A5.out).mono ?_); (case side1 => repeat (first | exact HR0.out | (with_reducible refine Kd.C_alloc ?_ _) | (with_reducible refine Kd.C_drewN ?_ _) | (with_reducible refine Kd.C_drew ?_))); (case side2 => exact HC0.out); (case side3 => repeat (first | exact HR3.out | (with_reducible refine Kd.C_alloc ?_ _) | (with_reducible refine Kd.C_drewN ?_ _) | (with_reducible refine Kd.C_drew ?_))); (case side4 => exact HC3.out); rintro e w' ⟨rfl, ⟨nd, rfl⟩⟩; refine ⟨_, rfl, ?_⟩))
  go_ret
  exact fi_
 ·replace c6 := Bool.eq_false_iff.mpr c6
  subst c6
  rw [if_neg (show ¬ (false = true) by decide)] at H
  try dsimp only at H
  obtain ⟨y567, hy567⟩ : ∃ y_ : List (S63), y_ = (([] : List (S63))) := ⟨_, rfl⟩
  replace H : (if y567.length + l0.length < 2932031007402 then ((wait_First.f k l0 a1 a2).bind fun bt573 => ((spigotref39_First.f k l0 a1 a2).bind fun bt575 => ((wait_Plan.f k l0 a1 l3).bind fun bt577 => ((spigotref39_Plan.f k l0 a1 l3).bind fun bt584 => ((wait_Many.f k l0 a1 l3).bind fun bt591 => ((spigotref39_Many.f k l0 a1 l3).bind fun bt593 => ((wait_Costs.f k l3).bind fun t595 => ((spigotref39_Costs.f k l3).bind fun t596 => (if t595 = t596 then (if bt573.1 = bt575.1 then (if bt573.2 = bt575.2 then ((spigotref39_Same.f k bt577.1 bt584.1).bind fun t597 => (if t597 = true then ((spigotref04_Same.f k bt577.2.1 bt584.2.1).bind fun t598 => (if t598 = true then (if bt577.2.2 = bt584.2.2 then (if bt591.1 = bt593.1 then (if bt591.2 = bt593.2 then ((spigotref04_Same.f k l0 (y567 ++ l0)).bind fun t599 => (some t599)) else (none)) else (none)) else (none)) else (none))) else (none))) else (none)) else (none)) else (none)))))))))) else (none)) = some r := by first | (rw [hy567]; with_reducible exact H) | (have H2_ := (Option.bind_some _ _).symm.trans H; rw [hy567]; with_reducible exact H2_) | (have H2_ := (Option.bind_some _ _).symm.trans H; with_reducible exact H2_) | with_reducible exact H | (rw [hy567]; exact H) | exact H
  have Ny567 := Aside0.mk hy567
  clear hy567
  by_cases c7 : y567.length + l0.length < 2932031007402
  rotate_left
  ·rw [if_neg c7] at H; exact absurd H (by simp)
  rw [if_pos c7] at H
  have LMc7 := Aside0.mk c7
  clear c7
  obtain ⟨y570, hy570⟩ : ∃ y_ : List (S63), y_ = (y567 ++ l0) := ⟨_, rfl⟩
  replace H : ((wait_First.f k l0 a1 a2).bind fun bt573 => ((spigotref39_First.f k l0 a1 a2).bind fun bt575 => ((wait_Plan.f k l0 a1 l3).bind fun bt577 => ((spigotref39_Plan.f k l0 a1 l3).bind fun bt584 => ((wait_Many.f k l0 a1 l3).bind fun bt591 => ((spigotref39_Many.f k l0 a1 l3).bind fun bt593 => ((wait_Costs.f k l3).bind fun t595 => ((spigotref39_Costs.f k l3).bind fun t596 => (if t595 = t596 then (if bt573.1 = bt575.1 then (if bt573.2 = bt575.2 then ((spigotref39_Same.f k bt577.1 bt584.1).bind fun t597 => (if t597 = true then ((spigotref04_Same.f k bt577.2.1 bt584.2.1).bind fun t598 => (if t598 = true then (if bt577.2.2 = bt584.2.2 then (if bt591.1 = bt593.1 then (if bt591.2 = bt593.2 then ((spigotref04_Same.f k l0 y570).bind fun t599 => (some t599)) else (none)) else (none)) else (none)) else (none))) else (none))) else (none)) else (none)) else (none)))))))))) = some r := by first | (rw [hy570]; with_reducible exact H) | (have H2_ := (Option.bind_some _ _).symm.trans H; rw [hy570]; with_reducible exact H2_) | (have H2_ := (Option.bind_some _ _).symm.trans H; with_reducible exact H2_) | with_reducible exact H | (rw [hy570]; exact H) | exact H
  have Ny570 := Aside0.mk hy570
  clear hy570
  obtain ⟨⟨t573, t574⟩, A8, H⟩ := bo_ H
  try dsimp only at H
  obtain ⟨⟨t575, t576⟩, A9, H⟩ := bo_ H
  try dsimp only at H
  obtain ⟨⟨t577, t578, t579⟩, A10, H⟩ := bo_ H
  try dsimp only at H
  obtain ⟨⟨t584, t585, t586⟩, A11, H⟩ := bo_ H
  try dsimp only at H
  obtain ⟨⟨t591, t592⟩, A12, H⟩ := bo_ H
  try dsimp only at H
  obtain ⟨⟨t593, t594⟩, A13, H⟩ := bo_ H
  try dsimp only at H
  obtain ⟨t595, A14, H⟩ := bo_ H
  try dsimp only at H
  obtain ⟨t596, A15, H⟩ := bo_ H
  try dsimp only at H
  by_cases c16 : t595 = t596
  rotate_left
  ·rw [if_neg c16] at H; exact absurd H (by simp)
  rw [if_pos c16] at H
  have c16b0 : (t595 == t596) = true := beq_iff_eq.mpr c16
  have c16b1 : (t595 != t596) = false := bne_eq_false_iff_eq.mpr c16
  clear c16
  by_cases c17 : t573 = t575
  rotate_left
  ·rw [if_neg c17] at H; exact absurd H (by simp)
  rw [if_pos c17] at H
  have c17b0 : (t573 == t575) = true := beq_iff_eq.mpr c17
  have c17b1 : (t573 != t575) = false := bne_eq_false_iff_eq.mpr c17
  clear c17
  by_cases c18 : t574 = t576
  rotate_left
  ·rw [if_neg c18] at H; exact absurd H (by simp)
  rw [if_pos c18] at H
  have c18b0 : (t574 == t576) = true := beq_iff_eq.mpr c18
  have c18b1 : (t574 != t576) = false := bne_eq_false_iff_eq.mpr c18
  clear c18
  obtain ⟨t597, A19, H⟩ := bo_ H
  try dsimp only at H
  by_cases c20 : t597 = true
  ·subst c20
   rw [if_pos rfl] at H
   try dsimp only at H
   obtain ⟨t598, A21, H⟩ := bo_ H
   try dsimp only at H
   by_cases c22 : t598 = true
   ·subst c22
    rw [if_pos rfl] at H
    try dsimp only at H
    by_cases c23 : t579 = t586
    rotate_left
    ·rw [if_neg c23] at H; exact absurd H (by simp)
    rw [if_pos c23] at H
    have c23b0 : (t579 == t586) = true := beq_iff_eq.mpr c23
    have c23b1 : (t579 != t586) = false := bne_eq_false_iff_eq.mpr c23
    clear c23
    by_cases c24 : t591 = t593
    rotate_left
    ·rw [if_neg c24] at H; exact absurd H (by simp)
    rw [if_pos c24] at H
    have c24b0 : (t591 == t593) = true := beq_iff_eq.mpr c24
    have c24b1 : (t591 != t593) = false := bne_eq_false_iff_eq.mpr c24
    clear c24
    by_cases c25 : t592 = t594
    rotate_left
    ·rw [if_neg c25] at H; exact absurd H (by simp)
    rw [if_pos c25] at H
    have c25b0 : (t592 == t594) = true := beq_iff_eq.mpr c25
    have c25b1 : (t592 != t594) = false := bne_eq_false_iff_eq.mpr c25
    clear c25
    obtain ⟨t599, A26, H⟩ := bo_ H
    replace H : (some t599) = some r := H
    obtain rfl := Option.some.inj H
    go_enter Try.func5, Try.ntmps5
    go_wp2_with (first | ((with_reducible refine gate_callee (f := 10) rfl ?_); (try refine ug_ (by rfl) ?_); refine goesA_ (some 26) Try.func10 #[.slice A0 l0.length c0, .slice A3 l3.length c3] ?_; (with_reducible refine (spigotref39_Great.calls _ _ l0 _ _ l3 false _ ?side1 ?side2 ?side3 ?side4 A5.out).mono ?_); (case side1 => repeat (first | exact HR0.out | (with_reducible refine Kd.C_alloc ?_ _) | (with_reducible refine Kd.C_drewN ?_ _) | (with_reducible refine Kd.C_drew ?_))); (case side2 => exact HC0.out); (case side3 => repeat (first | exact HR3.out | (with_reducible refine Kd.C_alloc ?_ _) | (with_reducible refine Kd.C_drewN ?_ _) | (with_reducible refine Kd.C_drew ?_))); (case side4 => exact HC3.out); rintro e w' ⟨rfl, ⟨nd, rfl⟩⟩; refine ⟨_, rfl, ?_⟩) | ((with_reducible refine gate_dst (N := 27) rfl ?_); (try refine ug_ (by rfl) ?_); refine Kd.R_lit k63 _ 63 ?hg (N := 27) ?hd (xs := ([] : List (S63))) (inner := []) (ok := fun _ => True) (okp := fun _ => True) ?hr ?hp (fun _ hk => hk) trivial (Below.refl _ _) (Nat.le_refl _) (by simp) ?_; (case hd => rfl); (case hg => rfl); (case hr => first | (go_simp; done) | (go_simp; rfl)); (case hp => exact (Reps.none _ _)); intro v568 w27 ho28 hb hg_ hnew_; clear hg_ hnew_; (first | rw [← Ny567.out] at ho28 | (simp only [Int.reduceToNat] at ho28; rw [← Ny567.out] at ho28)); have HO569 := Aside0.mk (Kd.R_lower ho28 (below_size (hq_ HB))); replace HB := bs_ w hb; clear hb ho28) | ((with_reducible refine gate_builtin (b := .append) (xs := #[.tmp 27, .tmp 28]) rfl ?_); (try refine ug_ (by rfl) ?_); at_builtin; refine Kd.R_append_rows k63 (w0 := w) w.heap.size rfl (.tmp 27) (.tmp 28) 22 63 (.agg #[(.int .i64 0), (.int .i64 0), (.int .i64 0), (.int .i64 0), (.int .i64 0), (.int .u64 0)]) 48 rfl Try.underlying22 info63 rfl (by decide) (by omega) v568 y567 l0 _ _ _ (fun _ => True) (fun _ => False) rfl rfl ?aO ?aR (fun _ _ h => h) (fun _ h => h.elim) ?aF ?aB ?aS ?aL ?_; (case aR => repeat (first | exact (Kd.C_below HR0.out HB.out) | (with_reducible refine Kd.C_alloc ?_ _) | (with_reducible refine Kd.C_drewN ?_ _) | (with_reducible refine Kd.C_drew ?_))); (case aB => exact (hq_ HB)); (case aF => exact (fun _ _ => trivial)); (case aO => exact (by (with_reducible repeat (first | apply Kd.R_alloc | apply Kd.R_drewN | apply Kd.R_drew)); exact HO569.out)); (case aS => exact (below_size (hq_ HB))); (case aL => have := LMc7.out; omega); intro v571 w29 ho hb hg hat; rw [← Ny570.out] at ho; have HO572 := Aside0.mk (ho); replace HB := Aside0.mk (hb); clear HO569; clear ho hb hg hat) | ((with_reducible refine gate_callee (f := 16) rfl ?_); (try refine ug_ (by rfl) ?_); refine goesA_ (some 34) Try.func16 #[.slice A0 l0.length c0, .int .u64 a1, .int .i64 a2] ?_; (with_reducible refine (wait_First.calls k _ _ l0 a1 a2 t573 t574 _ ?side1 ?side2 A8.out).mono ?_); (case side1 => repeat (first | exact (Kd.C_below HR0.out HB.out) | (with_reducible refine Kd.C_alloc ?_ _) | (with_reducible refine Kd.C_drewN ?_ _) | (with_reducible refine Kd.C_drew ?_))); (case side2 => exact HC0.out); rintro e w30 ⟨rfl, hb⟩; refine ⟨_, rfl, ?_⟩; replace HO572 := Aside0.mk (Kd.R_below (by (with_reducible repeat (first | apply Kd.R_alloc | apply Kd.R_drewN | apply Kd.R_drew)); exact HO572.out) hb); replace HB := bs_ w hb; clear hb) | ((with_reducible refine gate_callee (f := 17) rfl ?_); (try refine ug_ (by rfl) ?_); refine goesA_ (some 41) Try.func17 #[.slice A0 l0.length c0, .int .u64 a1, .int .i64 a2] ?_; (with_reducible refine (spigotref39_First.calls k _ _ l0 a1 a2 t575 t576 _ ?side1 ?side2 A9.out).mono ?_); (case side1 => repeat (first | exact (Kd.C_below HR0.out HB.out) | (with_reducible refine Kd.C_alloc ?_ _) | (with_reducible refine Kd.C_drewN ?_ _) | (with_reducible refine Kd.C_drew ?_))); (case side2 => exact HC0.out); rintro e w31 ⟨rfl, hb⟩; refine ⟨_, rfl, ?_⟩; replace HO572 := Aside0.mk (Kd.R_below (by (with_reducible repeat (first | apply Kd.R_alloc | apply Kd.R_drewN | apply Kd.R_drew)); exact HO572.out) hb); replace HB := bs_ w hb; clear hb) | ((with_reducible refine gate_callee (f := 15) rfl ?_); (try refine ug_ (by rfl) ?_); refine goesA_ (some 48) Try.func15 #[.slice A0 l0.length c0, .int .u64 a1, .slice A3 l3.length c3] ?_; (with_reducible refine (wait_Plan.calls k _ _ l0 a1 _ _ l3 t577 t578 t579 _ ?side1 ?side2 ?side3 ?side4 A10.out).mono ?_); (case side1 => repeat (first | exact (Kd.C_below HR0.out HB.out) | (with_reducible refine Kd.C_alloc ?_ _) | (with_reducible refine Kd.C_drewN ?_ _) | (with_reducible refine Kd.C_drew ?_))); (case side2 => exact HC0.out); (case side3 => repeat (first | exact (Kd.C_below HR3.out HB.out) | (with_reducible refine Kd.C_alloc ?_ _) | (with_reducible refine Kd.C_drewN ?_ _) | (with_reducible refine Kd.C_drew ?_))); (case side4 => exact HC3.out); rintro e w32 ⟨v580, v582, rfl, ho0, ho1, hb⟩; refine ⟨_, rfl, ?_⟩; have HO581 := Aside0.mk (Kd.R_lower ho0 (below_size (hq_ HB))); have HO583 := Aside0.mk (Kd.R_lower (Kd.R_new' ho1 (Kd.R_lt (by (with_reducible repeat (first | apply Kd.R_alloc | apply Kd.R_drewN | apply Kd.R_drew)); exact HO572.out))) (below_size (hq_ HB))); replace HO572 := Aside0.mk (Kd.R_elder' (by (with_reducible repeat (first | apply Kd.R_alloc | apply Kd.R_drewN | apply Kd.R_drew)); exact HO572.out) (Kd.R_base ho1) hb); replace HB := bs_ w hb; (try clear hb); (try clear hb2); (try clear hk); (try clear hi); (try clear ho0); (try clear ho1)) | ((with_reducible refine gate_callee (f := 18) rfl ?_); (try refine ug_ (by rfl) ?_); refine goesA_ (some 56) Try.func18 #[.slice A0 l0.length c0, .int .u64 a1, .slice A3 l3.length c3] ?_; (with_reducible refine (spigotref39_Plan.calls k _ _ l0 a1 _ _ l3 t584 t585 t586 _ ?side1 ?side2 ?side3 ?side4 A11.out).mono ?_); (case side1 => repeat (first | exact (Kd.C_below HR0.out HB.out) | (with_reducible refine Kd.C_alloc ?_ _) | (with_reducible refine Kd.C_drewN ?_ _) | (with_reducible refine Kd.C_drew ?_))); (case side2 => exact HC0.out); (case side3 => repeat (first | exact (Kd.C_below HR3.out HB.out) | (with_reducible refine Kd.C_alloc ?_ _) | (with_reducible refine Kd.C_drewN ?_ _) | (with_reducible refine Kd.C_drew ?_))); (case side4 => exact HC3.out); rintro e w33 ⟨v587, v589, rfl, ho0, ho1, hb⟩; refine ⟨_, rfl, ?_⟩; have HO588 := Aside0.mk (Kd.R_lower (Kd.R_new' ho0 (Kd.R_lt (by (with_reducible repeat (first | apply Kd.R_alloc | apply Kd.R_drewN | apply Kd.R_drew)); exact HO581.out))) (below_size (hq_ HB))); have HO590 := Aside0.mk (Kd.R_lower (Kd.R_new' (Kd.R_new' ho1 (Kd.R_lt (by (with_reducible repeat (first | apply Kd.R_alloc | apply Kd.R_drewN | apply Kd.R_drew)); exact HO572.out))) (Kd.R_lt (by (with_reducible repeat (first | apply Kd.R_alloc | apply Kd.R_drewN | apply Kd.R_drew)); exact HO583.out))) (below_size (hq_ HB))); replace HO572 := Aside0.mk (Kd.R_elder' (by (with_reducible repeat (first | apply Kd.R_alloc | apply Kd.R_drewN | apply Kd.R_drew)); exact HO572.out) (Kd.R_base ho1) hb); replace HO581 := Aside0.mk (Kd.R_elder' (by (with_reducible repeat (first | apply Kd.R_alloc | apply Kd.R_drewN | apply Kd.R_drew)); exact HO581.out) (Kd.R_base ho0) hb); replace HO583 := Aside0.mk (Kd.R_elder' (by (with_reducible repeat (first | apply Kd.R_alloc | apply Kd.R_drewN | apply Kd.R_drew)); exact HO583.out) (Kd.R_base ho1) hb); replace HB := bs_ w hb; (try clear hb); (try clear hb2); (try clear hk); (try clear hi); (try clear ho0); (try clear ho1)) | ((with_reducible refine gate_callee (f := 19) rfl ?_); (try refine ug_ (by rfl) ?_); refine goesA_ (some 64) Try.func19 #[.slice A0 l0.length c0, .int .u64 a1, .slice A3 l3.length c3] ?_; (with_reducible refine (wait_Many.calls k _ _ l0 a1 _ _ l3 t591 t592 _ ?side1 ?side2 ?side3 ?side4 A12.out).mono ?_); (case side1 => repeat (first | exact (Kd.C_below HR0.out HB.out) | (with_reducible refine Kd.C_alloc ?_ _) | (with_reducible refine Kd.C_drewN ?_ _) | (with_reducible refine Kd.C_drew ?_))); (case side2 => exact HC0.out); (case side3 => repeat (first | exact (Kd.C_below HR3.out HB.out) | (with_reducible refine Kd.C_alloc ?_ _) | (with_reducible refine Kd.C_drewN ?_ _) | (with_reducible refine Kd.C_drew ?_))); (case side4 => exact HC3.out); rintro e w34 ⟨rfl, hb⟩; refine ⟨_, rfl, ?_⟩; replace HO572 := Aside0.mk (Kd.R_below (by (with_reducible repeat (first | apply Kd.R_alloc | apply Kd.R_drewN | apply Kd.R_drew)); exact HO572.out) hb); replace HO581 := Aside0.mk (Kd.R_below (by (with_reducible repeat (first | apply Kd.R_alloc | apply Kd.R_drewN | apply Kd.R_drew)); exact HO581.out) hb); replace HO583 := Aside0.mk (Kd.R_below (by (with_reducible repeat (first | apply Kd.R_alloc | apply Kd.R_drewN | apply Kd.R_drew)); exact HO583.out) hb); replace HO588 := Aside0.mk (Kd.R_below (by (with_reducible repeat (first | apply Kd.R_alloc | apply Kd.R_drewN | apply Kd.R_drew)); exact HO588.out) hb); replace HO590 := Aside0.mk (Kd.R_below (by (with_reducible repeat (first | apply Kd.R_alloc | apply Kd.R_drewN | apply Kd.R_drew)); exact HO590.out) hb); replace HB := bs_ w hb; clear hb) | ((with_reducible refine gate_callee (f := 20) rfl ?_); (try refine ug_ (by rfl) ?_); refine goesA_ (some 71) Try.func20 #[.slice A0 l0.length c0, .int .u64 a1, .slice A3 l3.length c3] ?_; (with_reducible refine (spigotref39_Many.calls k _ _ l0 a1 _ _ l3 t593 t594 _ ?side1 ?side2 ?side3 ?side4 A13.out).mono ?_); (case side1 => repeat (first | exact (Kd.C_below HR0.out HB.out) | (with_reducible refine Kd.C_alloc ?_ _) | (with_reducible refine Kd.C_drewN ?_ _) | (with_reducible refine Kd.C_drew ?_))); (case side2 => exact HC0.out); (case side3 => repeat (first | exact (Kd.C_below HR3.out HB.out) | (with_reducible refine Kd.C_alloc ?_ _) | (with_reducible refine Kd.C_drewN ?_ _) | (with_reducible refine Kd.C_drew ?_))); (case side4 => exact HC3.out); rintro e w35 ⟨rfl, hb⟩; refine ⟨_, rfl, ?_⟩; replace HO572 := Aside0.mk (Kd.R_below (by (with_reducible repeat (first | apply Kd.R_alloc | apply Kd.R_drewN | apply Kd.R_drew)); exact HO572.out) hb); replace HO581 := Aside0.mk (Kd.R_below (by (with_reducible repeat (first | apply Kd.R_alloc | apply Kd.R_drewN | apply Kd.R_drew)); exact HO581.out) hb); replace HO583 := Aside0.mk (Kd.R_below (by (with_reducible repeat (first | apply Kd.R_alloc | apply Kd.R_drewN | apply Kd.R_drew)); exact HO583.out) hb); replace HO588 := Aside0.mk (Kd.R_below (by (with_reducible repeat (first | apply Kd.R_alloc | apply Kd.R_drewN | apply Kd.R_drew)); exact HO588.out) hb); replace HO590 := Aside0.mk (Kd.R_below (by (with_reducible repeat (first | apply Kd.R_alloc | apply Kd.R_drewN | apply Kd.R_drew)); exact HO590.out) hb); replace HB := bs_ w hb; clear hb) | ((with_reducible refine gate_callee (f := 21) rfl ?_); (try refine ug_ (by rfl) ?_); refine goesA_ (some 75) Try.func21 #[.slice A3 l3.length c3] ?_; (with_reducible refine (wait_Costs.calls k _ _ l3 t595 _ ?side1 ?side2 A14.out).mono ?_); (case side1 => repeat (first | exact (Kd.C_below HR3.out HB.out) | (with_reducible refine Kd.C_alloc ?_ _) | (with_reducible refine Kd.C_drewN ?_ _) | (with_reducible refine Kd.C_drew ?_))); (case side2 => exact HC3.out); rintro e w' ⟨rfl, ⟨nd, rfl⟩⟩; refine ⟨_, rfl, ?_⟩) | ((with_reducible refine gate_callee (f := 22) rfl ?_); (try refine ug_ (by rfl) ?_); refine goesA_ (some 77) Try.func22 #[.slice A3 l3.length c3] ?_; (with_reducible refine (spigotref39_Costs.calls k _ _ l3 t596 _ ?side1 ?side2 A15.out).mono ?_); (case side1 => repeat (first | exact (Kd.C_below HR3.out (hq_ HB)) | (with_reducible refine Kd.C_alloc ?_ _) | (with_reducible refine Kd.C_drewN ?_ _) | (with_reducible refine Kd.C_drew ?_))); (case side2 => exact HC3.out); rintro e w' ⟨rfl, ⟨nd, rfl⟩⟩; refine ⟨_, rfl, ?_⟩; obtain ⟨Ao36, co36, eo36⟩ := Kd.R_slice HO581.out; subst eo36; obtain ⟨Ao37, co37, eo37⟩ := Kd.R_slice HO588.out; subst eo37) | (go_at_call 23; (with_reducible refine (spigotref39_Same.calls k _ _ t577 _ _ t584 true _ ?side1 ?side2 ?side3 ?side4 A19.out).mono ?_); (case side1 => repeat (first | exact (Kd.R_reads' HO581.out).2.2 | (with_reducible refine Kd.C_alloc ?_ _) | (with_reducible refine Kd.C_drewN ?_ _) | (with_reducible refine Kd.C_drew ?_))); (case side2 => exact (Kd.R_reads' HO581.out).2.1); (case side3 => repeat (first | exact (Kd.R_reads' HO588.out).2.2 | (with_reducible refine Kd.C_alloc ?_ _) | (with_reducible refine Kd.C_drewN ?_ _) | (with_reducible refine Kd.C_drew ?_))); (case side4 => exact (Kd.R_reads' HO588.out).2.1); rintro e w' ⟨rfl, ⟨nd, rfl⟩⟩; obtain ⟨Ao38, co38, eo38⟩ := Kd.R_slice HO583.out; subst eo38; obtain ⟨Ao39, co39, eo39⟩ := Kd.R_slice HO590.out; subst eo39) | (go_at_call 24; (with_reducible refine (spigotref04_Same.calls k _ _ t578 _ _ t585 true _ ?side1 ?side2 ?side3 ?side4 A21.out).mono ?_); (case side1 => repeat (first | exact (Kd.R_reads' HO583.out).2.2 | (with_reducible refine Kd.C_alloc ?_ _) | (with_reducible refine Kd.C_drewN ?_ _) | (with_reducible refine Kd.C_drew ?_))); (case side2 => exact (Kd.R_reads' HO583.out).2.1); (case side3 => repeat (first | exact (Kd.R_reads' HO590.out).2.2 | (with_reducible refine Kd.C_alloc ?_ _) | (with_reducible refine Kd.C_drewN ?_ _) | (with_reducible refine Kd.C_drew ?_))); (case side4 => exact (Kd.R_reads' HO590.out).2.1); rintro e w' ⟨rfl, ⟨nd, rfl⟩⟩; obtain ⟨Ao40, co40, eo40⟩ := Kd.R_slice HO572.out; subst eo40) | (go_at_call 24; (with_reducible refine (spigotref04_Same.calls k _ _ l0 _ _ y570 t599 _ ?side1 ?side2 ?side3 ?side4 A26.out).mono ?_); (case side1 => repeat (first | exact (Kd.C_below HR0.out (hq_ HB)) | (with_reducible refine Kd.C_alloc ?_ _) | (with_reducible refine Kd.C_drewN ?_ _) | (with_reducible refine Kd.C_drew ?_))); (case side2 => exact HC0.out); (case side3 => repeat (first | exact (Kd.R_reads' HO572.out).2.2 | (with_reducible refine Kd.C_alloc ?_ _) | (with_reducible refine Kd.C_drewN ?_ _) | (with_reducible refine Kd.C_drew ?_))); (case side4 => exact (Kd.R_reads' HO572.out).2.1); rintro e w' ⟨rfl, ⟨nd, rfl⟩⟩))
    go_ret
    exact fi_
   ·replace c22 := Bool.eq_false_iff.mpr c22
    subst c22
    replace H : (none) = some r := by rw [if_neg (show ¬ (false = true) by decide)] at H; exact H
    exact absurd H (by simp)
  ·replace c20 := Bool.eq_false_iff.mpr c20
   subst c20
   replace H : (none) = some r := by rw [if_neg (show ¬ (false = true) by decide)] at H; exact H
   exact absurd H (by simp)

end Go.Proofs.Ytfdpcnkghmmobaa.X
