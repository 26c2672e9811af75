-- written by xprint.py, a program of this session over the kit's print
import Derived.Test.YtimhghmfhfggoaaX0
import Derived.Test.YtimhghmfhfggoaaX10
import Derived.Test.YtimhghmfhfggoaaX11
import Derived.Test.YtimhghmfhfggoaaX30
import Derived.Test.YtimhghmfhfggoaaX35
namespace Go.Proofs.Ytimhghmfhfggoaa.X
open Go.RowKit Go.Proofs.YtimhghmfhfggoaaW.PrintWords Go.Proofs.YtimhghmfhfggoaaW.PrintLast Go.Proofs.YtimhghmfhfggoaaW.PrintMore
attribute [local go_sem] max2_int min2_int max_two min_two max_three min_three max_four min_four   -- for this text's walks alone
set_option linter.unusedVariables false
set_option linter.unusedSimpArgs false

/-! ### spigotlaw40_CurveGrows: function 5 -/
def spigotlaw40_CurveGrows.j0 : Nat → List (S49) → Int → Int → Bool → Bool → Int → Int → Int → Option (Bool)
  | 0, _, _, _, _, _, _, _, _ => none
  | k + 1, x0, x2, x3, x9, x45, x387000, x387001, x387002 => if x45 = true then (some x9) else ((curve_At.f k x0 x2).bind fun bt393 => ((curve_At.f k x0 x3).bind fun bt395 => ((some (([] : List (S49)) : List (S49))).bind fun y397 => (if y397.length + x0.length < 5864062014805 then ((some (y397 ++ x0 : List (S49))).bind fun y400 => ((some (([(⟨x387000, x387001, x387002⟩ : S49)] : List (S49)) : List (S49))).bind fun y403 => (if y400.length + y403.length < 5864062014805 then ((curve_At.f k (y400 ++ y403) x2).bind fun bt409 => ((some (([(⟨x387000, x387001, x387002⟩ : S49)] : List (S49)) : List (S49))).bind fun y411 => (if y411.length + x0.length < 5864062014805 then ((curve_At.f k (y411 ++ x0) x2).bind fun bt417 => ((curve_At.f k (([(⟨x387000, x387001, x387002⟩ : S49)] : List (S49))) x2).bind fun bt422 => (if bt393.2 = 0 then (if bt395.2 = 0 then (if bt409.2 = 0 then (if bt417.2 = 0 then (if bt422.2 = 0 then (if bt393.1 < 1 then (none) else (if bt395.1 < bt393.1 then (none) else (if bt409.1 = bt417.1 then (if bt409.1 = (mn bt393.1 bt422.1) then ((bucket_Refill.f k x387000 x387001 x387002 0 0 0 x2).bind fun bt424 => (if x9 = true then (if bt424.2.2.2.2.2.2 = 0 then (some (bt424.2.2.2.1 == (mn x387000 (wrap64 (bt422.1 - x387000))))) else (none)) else (none))) else (none)) else (none)))) else (none)) else (none)) else (none)) else (none)) else (none)))) else (none)))) else (none)))) else (none)))))
def spigotlaw40_CurveGrows.f (k : Nat) (l0 : List (S49)) (a1_0 : Int) (a1_1 : Int) (a1_2 : Int) (a2 : Int) (a3 : Int) : Option (Bool) := (spigotlaw40_alive.f k).bind fun t387 => (if (l0.length : Int) > 5 then (spigotlaw40_CurveGrows.j0 k l0 a2 a3 t387 true a1_0 a1_1 a1_2) else ((spigotref40_Check.f k l0).bind fun t388 => (if t388 = 0 then ((spigotref40_Check.f k (([(⟨a1_0, a1_1, a1_2⟩ : S49)] : List (S49)))).bind fun t392 => (if t392 = 0 then (if a2 > a3 then (spigotlaw40_CurveGrows.j0 k l0 a2 a3 t387 true a1_0 a1_1 a1_2) else (spigotlaw40_CurveGrows.j0 k l0 a2 a3 t387 (!t387) a1_0 a1_1 a1_2)) else (spigotlaw40_CurveGrows.j0 k l0 a2 a3 t387 true a1_0 a1_1 a1_2))) else (spigotlaw40_CurveGrows.j0 k l0 a2 a3 t387 true a1_0 a1_1 a1_2))))
theorem spigotlaw40_CurveGrows.mono_l : ∀ k, (∀ y0 y1 y2 y3 y4 y5 y6 y7, LeO (spigotlaw40_CurveGrows.j0 k y0 y1 y2 y3 y4 y5 y6 y7) (spigotlaw40_CurveGrows.j0 (k + 1) y0 y1 y2 y3 y4 y5 y6 y7))
  | 0 => fun _ _ _ _ _ _ _ _ r h => by simp [spigotlaw40_CurveGrows.j0] at h
  | k + 1 => by
    have ih0 := spigotlaw40_CurveGrows.mono_l k
    · intro y0 y1 y2 y3 y4 y5 y6 y7
      unfold spigotlaw40_CurveGrows.j0
      repeat' first
      | (with_reducible exact ih0 _ _ _ _ _ _ _ _)
      | (with_reducible exact bucket_Refill.mono _ _ _ _ _ _ _ _)
      | (with_reducible exact curve_At.mono _ _ _)
      | (with_reducible exact spigotlaw40_alive.mono _)
      | (with_reducible exact spigotref40_Check.mono _ _)
      | (with_reducible exact LeO.refl _)
      | (with_reducible exact LeO.none _)
      | (with_reducible refine LeO.ite ?_ ?_)
      | (with_reducible refine LeO.bind ?_ (fun _ => ?_))
      | exact ih0 _ _ _ _ _ _ _ _
      | exact bucket_Refill.mono _ _ _ _ _ _ _ _
      | exact curve_At.mono _ _ _
      | exact spigotlaw40_alive.mono _
      | exact spigotref40_Check.mono _ _
      | exact LeO.none _
      | refine LeO.ite ?_ ?_
      | refine LeO.bind ?_ (fun _ => ?_)
theorem spigotlaw40_CurveGrows.mono : ∀ a0 a1 a2 a3 a4 a5 k, LeO (spigotlaw40_CurveGrows.f k a0 a1 a2 a3 a4 a5) (spigotlaw40_CurveGrows.f (k + 1) a0 a1 a2 a3 a4 a5) := by
  intro a0 a1 a2 a3 a4 a5 k
  have ih0 := spigotlaw40_CurveGrows.mono_l k
  unfold spigotlaw40_CurveGrows.f
  repeat' first
      | (with_reducible exact ih0 _ _ _ _ _ _ _ _)
      | (with_reducible exact bucket_Refill.mono _ _ _ _ _ _ _ _)
      | (with_reducible exact curve_At.mono _ _ _)
      | (with_reducible exact spigotlaw40_alive.mono _)
      | (with_reducible exact spigotref40_Check.mono _ _)
      | (with_reducible exact LeO.refl _)
      | (with_reducible exact LeO.none _)
      | (with_reducible refine LeO.ite ?_ ?_)
      | (with_reducible refine LeO.bind ?_ (fun _ => ?_))
      | exact ih0 _ _ _ _ _ _ _ _
      | exact bucket_Refill.mono _ _ _ _ _ _ _ _
      | exact curve_At.mono _ _ _
      | exact spigotlaw40_alive.mono _
      | exact spigotref40_Check.mono _ _
      | exact LeO.none _
      | refine LeO.ite ?_ ?_
      | refine LeO.bind ?_ (fun _ => ?_)
def spigotlaw40_CurveGrows.T6 : Bool × List (List Nat × List Nat) := (true, [([], []), ([], []), ([0, 1], [0, 1]), ([], []), ([3], [3]), ([2, 4, 2], [2, 4]), ([], []), ([5, 6, 5], [5, 6]), ([7], [7]), ([8], [8]), ([8], [8]), ([9, 7, 0, 1, 2, 3, 4, 5, 6, 7, 8, 9], [9]), ([10, 11, 0, 1, 2, 3, 4, 5, 6, 7, 8, 9, 10, 11], [10])])
def spigotlaw40_CurveGrows.B6 : List Nat := [0, 0, 3, 0, 8, 31, 0, 127, 255, 511, 511, 1023, 4095]
theorem spigotlaw40_CurveGrows.tab6 : rtab .any (opsOf Try.f5 6) = spigotlaw40_CurveGrows.T6 := by kernel_rfl
theorem spigotlaw40_CurveGrows.bits6 : waitsOk spigotlaw40_CurveGrows.T6.2 spigotlaw40_CurveGrows.B6 = true := by kernel_rfl
set_option maxHeartbeats 8000000 in
set_option maxRecDepth 100000 in
theorem spigotlaw40_CurveGrows.calls (k : Nat) (A0 : Option Addr) (c0 : Nat) (l0 : List (S49)) (a1_0 : Int) (a1_1 : Int) (a1_2 : Int) (a2 : Int) (a3 : Int) (r : Bool) (w : World) (hr0 : Kd.C k49 w A0 l0.length l0) (hc0 : l0.length ≤ c0) (h : spigotlaw40_CurveGrows.f k l0 a1_0 a1_1 a1_2 a2 a3 = some r) :
  Calls Try.prog 5 #[.slice A0 l0.length c0, .agg #[.int .i64 a1_0, .int .i64 a1_1, .int .i64 a1_2], .int .u64 a2, .int .u64 a3] w fun e w' => e = .returned (.bool r) ∧ Below w.heap.size w w' := by
 have hu49 := Try.underlying49
 have hu51 := Try.underlying51
 have HR0 := Aside0.mk hr0
 have HC0 := Aside0.mk hc0
 clear hr0 hc0
 have HB := Aside0.mk (Below.refl w.heap.size w)
 have H : ((spigotlaw40_alive.f k).bind fun t387 => (if (l0.length : Int) > 5 then (spigotlaw40_CurveGrows.j0 k l0 a2 a3 t387 true a1_0 a1_1 a1_2) else ((spigotref40_Check.f k l0).bind fun t388 => (if t388 = 0 then ((spigotref40_Check.f k (([(⟨a1_0, a1_1, a1_2⟩ : S49)] : List (S49)))).bind fun t392 => (if t392 = 0 then (if a2 > a3 then (spigotlaw40_CurveGrows.j0 k l0 a2 a3 t387 true a1_0 a1_1 a1_2) else (spigotlaw40_CurveGrows.j0 k l0 a2 a3 t387 (!t387) a1_0 a1_1 a1_2)) else (spigotlaw40_CurveGrows.j0 k l0 a2 a3 t387 true a1_0 a1_1 a1_2))) else (spigotlaw40_CurveGrows.j0 k l0 a2 a3 t387 true a1_0 a1_1 a1_2))))) = some r := h
 clear h
 obtain ⟨t387, A5, H⟩ := bo_ H
 try dsimp only at H
 have HC6 := Aside0.mk H
 clear H
 go_enter Try.func5, Try.ntmps5
 go_upto_region 2 with (first | ((with_reducible refine gate_dst (N := 5) rfl ?_); (try refine ug_ (by rfl) ?_); refine bx_ #[.int .i64 a1_0, .int .i64 a1_1, .int .i64 a1_2] 49 ?_; intro gb386 hg w7 BK386 hb; have GW386 := bz_ w hg; have GE386 := GW386; replace HB := bs_ w hb; clear hb hg) | ((with_reducible refine gate_callee (f := 20) rfl ?_); (try refine ug_ (by rfl) ?_); refine goesA_ (some 22) Try.func20 #[] ?_; (with_reducible refine (spigotlaw40_alive.calls k  t387 _ A5.out).mono ?_); rintro e w8 ⟨rfl, hb⟩; refine ⟨_, rfl, ?_⟩; replace BK386 := bb_ BK386 hb; replace HB := bs_ w hb; clear hb))
 (try simp only [Act.put, List.setIfInBounds_toArray, List.set_cons_zero, List.set_cons_succ])
 go_cut [45] (fun v45 wc => ∃ (kq : Nat) (x45_5 : Bool), v45 = .bool x45_5 ∧ Aside0 (spigotlaw40_CurveGrows.j0 kq l0 a2 a3 t387 x45_5 a1_0 a1_1 a1_2 = some r) ∧ Aside0 (kq ≤ k) ∧ Aside0 (wc.heap[gb386]? = some (.cells #[.int .i64 a1_0, .int .i64 a1_1, .int .i64 a1_2] 49 (0, 0))) ∧ Aside0 (Below w.heap.size w wc))
 case first =>
  have H := HC6.out
  clear HC6
  by_cases c9 : (l0.length : Int) > 5
  ·rw [if_pos c9] at H
   have c9b0 : decide (5 < (l0.length : Int)) = true := decide_eq_true c9
   have c9b1 : decide (5 < l0.length) = true := decide_eq_true (by omega)
   clear c9
   (first | rw [c9b0] | (simp only [i64_w, i32_w]; rw [c9b0]) | skip)
   have H' := Aside0.mk H
   clear H
   go_wp2
   go_meet
   case rel => exact ⟨_, (true), rf_, H', al_, ⟨bq_ BK386⟩, bw_⟩
  ·rw [if_neg c9] at H
   have c9b0 : decide (5 < (l0.length : Int)) = false := decide_eq_false c9
   have c9b1 : decide (5 < l0.length) = false := decide_eq_false (by omega)
   clear c9
   (first | rw [c9b0] | (simp only [i64_w, i32_w]; rw [c9b0]) | skip)
   obtain ⟨t388, A10, H⟩ := bo_ H
   try dsimp only at H
   by_cases c11 : t388 = 0
   ·rw [if_pos c11] at H
    have c11b0 : (t388 == 0) = true := beq_iff_eq.mpr c11
    have c11b1 : (t388 != 0) = false := bne_eq_false_iff_eq.mpr c11
    clear c11
    obtain ⟨y389, hy389⟩ : ∃ y_ : List (S49), y_ = (([(⟨a1_0, a1_1, a1_2⟩ : S49)] : List (S49))) := ⟨_, rfl⟩
    replace H : ((spigotref40_Check.f k y389).bind fun t392 => (if t392 = 0 then (if a2 > a3 then (spigotlaw40_CurveGrows.j0 k l0 a2 a3 t387 true a1_0 a1_1 a1_2) else (spigotlaw40_CurveGrows.j0 k l0 a2 a3 t387 (!t387) a1_0 a1_1 a1_2)) else (spigotlaw40_CurveGrows.j0 k l0 a2 a3 t387 true a1_0 a1_1 a1_2))) = some r := by first | (rw [hy389]; with_reducible exact H) | (have H2_ := (Option.bind_some _ _).symm.trans H; rw [hy389]; with_reducible exact H2_) | (have H2_ := (Option.bind_some _ _).symm.trans H; with_reducible exact H2_) | with_reducible exact H | (rw [hy389]; exact H) | exact H
    have Ny389 := Aside0.mk hy389
    clear hy389
    obtain ⟨t392, A12, H⟩ := bo_ H
    try dsimp only at H
    by_cases c13 : t392 = 0
    ·rw [if_pos c13] at H
     have c13b0 : (t392 == 0) = true := beq_iff_eq.mpr c13
     have c13b1 : (t392 != 0) = false := bne_eq_false_iff_eq.mpr c13
     clear c13
     by_cases c14 : a2 > a3
     ·rw [if_pos c14] at H
      have c14b0 : decide (a3 < a2) = true := decide_eq_true c14
      clear c14
      have H' := Aside0.mk H
      clear H
      go_wp2_with (first | (go_at_call 17; (with_reducible refine (spigotref40_Check.calls k _ _ l0 t388 _ ?side1 ?side2 A10.out).mono ?_); (case side1 => exact cs_ HR0 HB); (case side2 => exact HC0.out); rintro e w15 ⟨rfl, hb⟩; replace BK386 := bb_ BK386 hb; replace HB := bs_ w hb; clear hb; replace hc386 := ce3_ BK386) | ((with_reducible refine gate_dst (N := 33) rfl ?_); (try refine ug_ (by rfl) ?_); refine Kd.R_lit k49 _ 49 ?hg (N := 33) ?hd (xs := ([(⟨a1_0, a1_1, a1_2⟩ : S49)] : List (S49))) (inner := [.int .i64 a1_0, .int .i64 a1_1, .int .i64 a1_2]) (ok := fun _ => True) (okp := fun _ => True) ?hr ?hp (fun _ hk => hk) trivial (Below.refl _ _) (Nat.le_refl _) (by simp) ?_; (case hd => rfl); (case hg => rfl); (case hr => first | (go_simp; done) | (go_simp; rfl)); (case hp => exact (Reps.c3 (show Kd.M k49 _ _ _ (⟨a1_0, a1_1, a1_2⟩ : S49) [.int .i64 a1_0, .int .i64 a1_1, .int .i64 a1_2] from (k49_mkM _ _ _ (⟨a1_0, a1_1, a1_2⟩ : S49) )) (Reps.none _ _))); intro v390 w17 ho18 hb hg_ hnew_; clear hg_ hnew_; (first | rw [← Ny389.out] at ho18 | (simp only [Int.reduceToNat] at ho18; rw [← Ny389.out] at ho18)); have HO391 := Aside0.mk (Kd.R_lower (Kd.R_newB ho18 (g := gb386) (o := .cells #[.int .i64 a1_0, .int .i64 a1_1, .int .i64 a1_2] 49 (0, 0)) (bq_ BK386)) (below_size bh_)); replace BK386 := bb_ BK386 hb; replace HB := bs_ w hb; clear hb ho18; obtain ⟨Ao19, co19, eo19⟩ := Kd.R_slice HO391.out; subst eo19) | (go_at_call 17; (with_reducible refine (spigotref40_Check.calls k _ _ y389 t392 _ ?side1 ?side2 A12.out).mono ?_); (case side1 => exact cr_ HO391); (case side2 => exact (Kd.R_reads' HO391.out).2.1); rintro e w20 ⟨rfl, hb⟩; replace HO391 := rb_ HO391 hb; replace BK386 := bb_ BK386 hb; replace HB := bs_ w hb; clear hb))
      go_meet
      case rel => exact ⟨_, (true), rf_, H', al_, ⟨bq_ BK386⟩, bw_⟩
     ·rw [if_neg c14] at H
      have c14b0 : decide (a3 < a2) = false := decide_eq_false c14
      clear c14
      have H' := Aside0.mk H
      clear H
      go_wp2_with (first | (go_at_call 17; (with_reducible refine (spigotref40_Check.calls k _ _ l0 t388 _ ?side1 ?side2 A10.out).mono ?_); (case side1 => exact cs_ HR0 HB); (case side2 => exact HC0.out); rintro e w21 ⟨rfl, hb⟩; replace BK386 := bb_ BK386 hb; replace HB := bs_ w hb; clear hb; replace hc386 := ce3_ BK386) | ((with_reducible refine gate_dst (N := 33) rfl ?_); (try refine ug_ (by rfl) ?_); refine Kd.R_lit k49 _ 49 ?hg (N := 33) ?hd (xs := ([(⟨a1_0, a1_1, a1_2⟩ : S49)] : List (S49))) (inner := [.int .i64 a1_0, .int .i64 a1_1, .int .i64 a1_2]) (ok := fun _ => True) (okp := fun _ => True) ?hr ?hp (fun _ hk => hk) trivial (Below.refl _ _) (Nat.le_refl _) (by simp) ?_; (case hd => rfl); (case hg => rfl); (case hr => first | (go_simp; done) | (go_simp; rfl)); (case hp => exact (Reps.c3 (show Kd.M k49 _ _ _ (⟨a1_0, a1_1, a1_2⟩ : S49) [.int .i64 a1_0, .int .i64 a1_1, .int .i64 a1_2] from (k49_mkM _ _ _ (⟨a1_0, a1_1, a1_2⟩ : S49) )) (Reps.none _ _))); intro v390 w23 ho24 hb hg_ hnew_; clear hg_ hnew_; (first | rw [← Ny389.out] at ho24 | (simp only [Int.reduceToNat] at ho24; rw [← Ny389.out] at ho24)); have HO391 := Aside0.mk (Kd.R_lower (Kd.R_newB ho24 (g := gb386) (o := .cells #[.int .i64 a1_0, .int .i64 a1_1, .int .i64 a1_2] 49 (0, 0)) (bq_ BK386)) (below_size bh_)); replace BK386 := bb_ BK386 hb; replace HB := bs_ w hb; clear hb ho24; obtain ⟨Ao25, co25, eo25⟩ := Kd.R_slice HO391.out; subst eo25) | (go_at_call 17; (with_reducible refine (spigotref40_Check.calls k _ _ y389 t392 _ ?side1 ?side2 A12.out).mono ?_); (case side1 => exact cr_ HO391); (case side2 => exact (Kd.R_reads' HO391.out).2.1); rintro e w26 ⟨rfl, hb⟩; replace HO391 := rb_ HO391 hb; replace BK386 := bb_ BK386 hb; replace HB := bs_ w hb; clear hb))
      go_meet
      case rel => exact ⟨_, (!t387), rf_, H', al_, ⟨bq_ BK386⟩, bw_⟩
    ·rw [if_neg c13] at H
     have c13b0 : (t392 == 0) = false := beq_eq_false_iff_ne.mpr c13
     have c13b1 : (t392 != 0) = true := bne_iff_ne.mpr c13
     have H' := Aside0.mk H
     clear H
     go_wp2_with (first | (go_at_call 17; (with_reducible refine (spigotref40_Check.calls k _ _ l0 t388 _ ?side1 ?side2 A10.out).mono ?_); (case side1 => exact cs_ HR0 HB); (case side2 => exact HC0.out); rintro e w27 ⟨rfl, hb⟩; replace BK386 := bb_ BK386 hb; replace HB := bs_ w hb; clear hb; replace hc386 := ce3_ BK386) | ((with_reducible refine gate_dst (N := 33) rfl ?_); (try refine ug_ (by rfl) ?_); refine Kd.R_lit k49 _ 49 ?hg (N := 33) ?hd (xs := ([(⟨a1_0, a1_1, a1_2⟩ : S49)] : List (S49))) (inner := [.int .i64 a1_0, .int .i64 a1_1, .int .i64 a1_2]) (ok := fun _ => True) (okp := fun _ => True) ?hr ?hp (fun _ hk => hk) trivial (Below.refl _ _) (Nat.le_refl _) (by simp) ?_; (case hd => rfl); (case hg => rfl); (case hr => first | (go_simp; done) | (go_simp; rfl)); (case hp => exact (Reps.c3 (show Kd.M k49 _ _ _ (⟨a1_0, a1_1, a1_2⟩ : S49) [.int .i64 a1_0, .int .i64 a1_1, .int .i64 a1_2] from (k49_mkM _ _ _ (⟨a1_0, a1_1, a1_2⟩ : S49) )) (Reps.none _ _))); intro v390 w29 ho30 hb hg_ hnew_; clear hg_ hnew_; (first | rw [← Ny389.out] at ho30 | (simp only [Int.reduceToNat] at ho30; rw [← Ny389.out] at ho30)); have HO391 := Aside0.mk (Kd.R_lower (Kd.R_newB ho30 (g := gb386) (o := .cells #[.int .i64 a1_0, .int .i64 a1_1, .int .i64 a1_2] 49 (0, 0)) (bq_ BK386)) (below_size bh_)); replace BK386 := bb_ BK386 hb; replace HB := bs_ w hb; clear hb ho30; obtain ⟨Ao31, co31, eo31⟩ := Kd.R_slice HO391.out; subst eo31) | (go_at_call 17; (with_reducible refine (spigotref40_Check.calls k _ _ y389 t392 _ ?side1 ?side2 A12.out).mono ?_); (case side1 => exact cr_ HO391); (case side2 => exact (Kd.R_reads' HO391.out).2.1); rintro e w32 ⟨rfl, hb⟩; replace HO391 := rb_ HO391 hb; replace BK386 := bb_ BK386 hb; replace HB := bs_ w hb; clear hb))
     go_meet
     case rel => exact ⟨_, (true), rf_, H', al_, ⟨bq_ BK386⟩, bw_⟩
   ·rw [if_neg c11] at H
    have c11b0 : (t388 == 0) = false := beq_eq_false_iff_ne.mpr c11
    have c11b1 : (t388 != 0) = true := bne_iff_ne.mpr c11
    have H' := Aside0.mk H
    clear H
    go_wp2_with (first | (go_at_call 17; (with_reducible refine (spigotref40_Check.calls k _ _ l0 t388 _ ?side1 ?side2 A10.out).mono ?_); (case side1 => exact cs_ HR0 HB); (case side2 => exact HC0.out); rintro e w33 ⟨rfl, hb⟩; replace BK386 := bb_ BK386 hb; replace HB := bs_ w hb; clear hb))
    go_meet
    case rel => exact ⟨_, (true), rf_, H', al_, ⟨bq_ BK386⟩, bw_⟩
 case rest =>
  clear HC6
  obtain ⟨kq, x45_5, rfl, HA, HJ5, BK386, HB⟩ := hcut
  cases kq with
  | zero => exact absurd HA.out (by simp [spigotlaw40_CurveGrows.j0])
  | succ kj5 =>
   have H := HA.out
   clear HA
   simp only [spigotlaw40_CurveGrows.j0] at H
   by_cases c34 : x45_5 = true
   ·subst c34
    replace H : (some t387) = some r := by rw [if_pos rfl] at H; exact H
    obtain rfl := Option.some.inj H
    go_wp2
    go_ret
    exact fi_
   ·replace c34 := Bool.eq_false_iff.mpr c34
    subst c34
    rw [if_neg (show ¬ (false = true) by decide)] at H
    try dsimp only at H
    obtain ⟨⟨t393, t394⟩, A35, H⟩ := bo_ H
    try dsimp only at H
    obtain ⟨⟨t395, t396⟩, A36, H⟩ := bo_ H
    try dsimp only at H
    obtain ⟨y397, hy397⟩ : ∃ y_ : List (S49), y_ = (([] : List (S49))) := ⟨_, rfl⟩
    replace H : (if y397.length + l0.length < 5864062014805 then ((some (y397 ++ l0 : List (S49))).bind fun y400 => ((some (([(⟨a1_0, a1_1, a1_2⟩ : S49)] : List (S49)) : List (S49))).bind fun y403 => (if y400.length + y403.length < 5864062014805 then ((curve_At.f kj5 (y400 ++ y403) a2).bind fun bt409 => ((some (([(⟨a1_0, a1_1, a1_2⟩ : S49)] : List (S49)) : List (S49))).bind fun y411 => (if y411.length + l0.length < 5864062014805 then ((curve_At.f kj5 (y411 ++ l0) a2).bind fun bt417 => ((curve_At.f kj5 (([(⟨a1_0, a1_1, a1_2⟩ : S49)] : List (S49))) a2).bind fun bt422 => (if t394 = 0 then (if t396 = 0 then (if bt409.2 = 0 then (if bt417.2 = 0 then (if bt422.2 = 0 then (if t393 < 1 then (none) else (if t395 < t393 then (none) else (if bt409.1 = bt417.1 then (if bt409.1 = (mn t393 bt422.1) then ((bucket_Refill.f kj5 a1_0 a1_1 a1_2 0 0 0 a2).bind fun bt424 => (if t387 = true then (if bt424.2.2.2.2.2.2 = 0 then (some (bt424.2.2.2.1 == (mn a1_0 (wrap64 (bt422.1 - a1_0))))) else (none)) else (none))) else (none)) else (none)))) else (none)) else (none)) else (none)) else (none)) else (none)))) else (none)))) else (none)))) else (none)) = some r := by first | (rw [hy397]; with_reducible exact H) | (have H2_ := (Option.bind_some _ _).symm.trans H; rw [hy397]; with_reducible exact H2_) | (have H2_ := (Option.bind_some _ _).symm.trans H; with_reducible exact H2_) | with_reducible exact H | (rw [hy397]; exact H) | exact H
    have Ny397 := Aside0.mk hy397
    clear hy397
    by_cases c37 : y397.length + l0.length < 5864062014805
    rotate_left
    ·rw [if_neg c37] at H; exact absurd H (by simp)
    rw [if_pos c37] at H
    have LMc37 := Aside0.mk c37
    clear c37
    obtain ⟨y400, hy400⟩ : ∃ y_ : List (S49), y_ = (y397 ++ l0) := ⟨_, rfl⟩
    replace H : ((some (([(⟨a1_0, a1_1, a1_2⟩ : S49)] : List (S49)) : List (S49))).bind fun y403 => (if y400.length + y403.length < 5864062014805 then ((curve_At.f kj5 (y400 ++ y403) a2).bind fun bt409 => ((some (([(⟨a1_0, a1_1, a1_2⟩ : S49)] : List (S49)) : List (S49))).bind fun y411 => (if y411.length + l0.length < 5864062014805 then ((curve_At.f kj5 (y411 ++ l0) a2).bind fun bt417 => ((curve_At.f kj5 (([(⟨a1_0, a1_1, a1_2⟩ : S49)] : List (S49))) a2).bind fun bt422 => (if t394 = 0 then (if t396 = 0 then (if bt409.2 = 0 then (if bt417.2 = 0 then (if bt422.2 = 0 then (if t393 < 1 then (none) else (if t395 < t393 then (none) else (if bt409.1 = bt417.1 then (if bt409.1 = (mn t393 bt422.1) then ((bucket_Refill.f kj5 a1_0 a1_1 a1_2 0 0 0 a2).bind fun bt424 => (if t387 = true then (if bt424.2.2.2.2.2.2 = 0 then (some (bt424.2.2.2.1 == (mn a1_0 (wrap64 (bt422.1 - a1_0))))) else (none)) else (none))) else (none)) else (none)))) else (none)) else (none)) else (none)) else (none)) else (none)))) else (none)))) else (none))) = some r := by first | (rw [hy400]; with_reducible exact H) | (have H2_ := (Option.bind_some _ _).symm.trans H; rw [hy400]; with_reducible exact H2_) | (have H2_ := (Option.bind_some _ _).symm.trans H; with_reducible exact H2_) | with_reducible exact H | (rw [hy400]; exact H) | exact H
    have Ny400 := Aside0.mk hy400
    clear hy400
    obtain ⟨y403, hy403⟩ : ∃ y_ : List (S49), y_ = (([(⟨a1_0, a1_1, a1_2⟩ : S49)] : List (S49))) := ⟨_, rfl⟩
    replace H : (if y400.length + y403.length < 5864062014805 then ((curve_At.f kj5 (y400 ++ y403) a2).bind fun bt409 => ((some (([(⟨a1_0, a1_1, a1_2⟩ : S49)] : List (S49)) : List (S49))).bind fun y411 => (if y411.length + l0.length < 5864062014805 then ((curve_At.f kj5 (y411 ++ l0) a2).bind fun bt417 => ((curve_At.f kj5 (([(⟨a1_0, a1_1, a1_2⟩ : S49)] : List (S49))) a2).bind fun bt422 => (if t394 = 0 then (if t396 = 0 then (if bt409.2 = 0 then (if bt417.2 = 0 then (if bt422.2 = 0 then (if t393 < 1 then (none) else (if t395 < t393 then (none) else (if bt409.1 = bt417.1 then (if bt409.1 = (mn t393 bt422.1) then ((bucket_Refill.f kj5 a1_0 a1_1 a1_2 0 0 0 a2).bind fun bt424 => (if t387 = true then (if bt424.2.2.2.2.2.2 = 0 then (some (bt424.2.2.2.1 == (mn a1_0 (wrap64 (bt422.1 - a1_0))))) else (none)) else (none))) else (none)) else (none)))) else (none)) else (none)) else (none)) else (none)) else (none)))) else (none)))) else (none)) = some r := by first | (rw [hy403]; with_reducible exact H) | (have H2_ := (Option.bind_some _ _).symm.trans H; rw [hy403]; with_reducible exact H2_) | (have H2_ := (Option.bind_some _ _).symm.trans H; with_reducible exact H2_) | with_reducible exact H | (rw [hy403]; exact H) | exact H
    have Ny403 := Aside0.mk hy403
    clear hy403
    by_cases c38 : y400.length + y403.length < 5864062014805
    rotate_left
    ·rw [if_neg c38] at H; exact absurd H (by simp)
    rw [if_pos c38] at H
    have LMc38 := Aside0.mk c38
    clear c38
    obtain ⟨y406, hy406⟩ : ∃ y_ : List (S49), y_ = (y400 ++ y403) := ⟨_, rfl⟩
    replace H : ((curve_At.f kj5 y406 a2).bind fun bt409 => ((some (([(⟨a1_0, a1_1, a1_2⟩ : S49)] : List (S49)) : List (S49))).bind fun y411 => (if y411.length + l0.length < 5864062014805 then ((curve_At.f kj5 (y411 ++ l0) a2).bind fun bt417 => ((curve_At.f kj5 (([(⟨a1_0, a1_1, a1_2⟩ : S49)] : List (S49))) a2).bind fun bt422 => (if t394 = 0 then (if t396 = 0 then (if bt409.2 = 0 then (if bt417.2 = 0 then (if bt422.2 = 0 then (if t393 < 1 then (none) else (if t395 < t393 then (none) else (if bt409.1 = bt417.1 then (if bt409.1 = (mn t393 bt422.1) then ((bucket_Refill.f kj5 a1_0 a1_1 a1_2 0 0 0 a2).bind fun bt424 => (if t387 = true then (if bt424.2.2.2.2.2.2 = 0 then (some (bt424.2.2.2.1 == (mn a1_0 (wrap64 (bt422.1 - a1_0))))) else (none)) else (none))) else (none)) else (none)))) else (none)) else (none)) else (none)) else (none)) else (none)))) else (none)))) = some r := by first | (rw [hy406]; with_reducible exact H) | (have H2_ := (Option.bind_some _ _).symm.trans H; rw [hy406]; with_reducible exact H2_) | (have H2_ := (Option.bind_some _ _).symm.trans H; with_reducible exact H2_) | with_reducible exact H | (rw [hy406]; exact H) | exact H
    have Ny406 := Aside0.mk hy406
    clear hy406
    obtain ⟨⟨t409, t410⟩, A39, H⟩ := bo_ H
    try dsimp only at H
    obtain ⟨y411, hy411⟩ : ∃ y_ : List (S49), y_ = (([(⟨a1_0, a1_1, a1_2⟩ : S49)] : List (S49))) := ⟨_, rfl⟩
    replace H : (if y411.length + l0.length < 5864062014805 then ((curve_At.f kj5 (y411 ++ l0) a2).bind fun bt417 => ((curve_At.f kj5 (([(⟨a1_0, a1_1, a1_2⟩ : S49)] : List (S49))) a2).bind fun bt422 => (if t394 = 0 then (if t396 = 0 then (if t410 = 0 then (if bt417.2 = 0 then (if bt422.2 = 0 then (if t393 < 1 then (none) else (if t395 < t393 then (none) else (if t409 = bt417.1 then (if t409 = (mn t393 bt422.1) then ((bucket_Refill.f kj5 a1_0 a1_1 a1_2 0 0 0 a2).bind fun bt424 => (if t387 = true then (if bt424.2.2.2.2.2.2 = 0 then (some (bt424.2.2.2.1 == (mn a1_0 (wrap64 (bt422.1 - a1_0))))) else (none)) else (none))) else (none)) else (none)))) else (none)) else (none)) else (none)) else (none)) else (none)))) else (none)) = some r := by first | (rw [hy411]; with_reducible exact H) | (have H2_ := (Option.bind_some _ _).symm.trans H; rw [hy411]; with_reducible exact H2_) | (have H2_ := (Option.bind_some _ _).symm.trans H; with_reducible exact H2_) | with_reducible exact H | (rw [hy411]; exact H) | exact H
    have Ny411 := Aside0.mk hy411
    clear hy411
    by_cases c40 : y411.length + l0.length < 5864062014805
    rotate_left
    ·rw [if_neg c40] at H; exact absurd H (by simp)
    rw [if_pos c40] at H
    have LMc40 := Aside0.mk c40
    clear c40
    obtain ⟨y414, hy414⟩ : ∃ y_ : List (S49), y_ = (y411 ++ l0) := ⟨_, rfl⟩
    replace H : ((curve_At.f kj5 y414 a2).bind fun bt417 => ((curve_At.f kj5 (([(⟨a1_0, a1_1, a1_2⟩ : S49)] : List (S49))) a2).bind fun bt422 => (if t394 = 0 then (if t396 = 0 then (if t410 = 0 then (if bt417.2 = 0 then (if bt422.2 = 0 then (if t393 < 1 then (none) else (if t395 < t393 then (none) else (if t409 = bt417.1 then (if t409 = (mn t393 bt422.1) then ((bucket_Refill.f kj5 a1_0 a1_1 a1_2 0 0 0 a2).bind fun bt424 => (if t387 = true then (if bt424.2.2.2.2.2.2 = 0 then (some (bt424.2.2.2.1 == (mn a1_0 (wrap64 (bt422.1 - a1_0))))) else (none)) else (none))) else (none)) else (none)))) else (none)) else (none)) else (none)) else (none)) else (none)))) = some r := by first | (rw [hy414]; with_reducible exact H) | (have H2_ := (Option.bind_some _ _).symm.trans H; rw [hy414]; with_reducible exact H2_) | (have H2_ := (Option.bind_some _ _).symm.trans H; with_reducible exact H2_) | with_reducible exact H | (rw [hy414]; exact H) | exact H
    have Ny414 := Aside0.mk hy414
    clear hy414
    obtain ⟨⟨t417, t418⟩, A41, H⟩ := bo_ H
    try dsimp only at H
    obtain ⟨y419, hy419⟩ : ∃ y_ : List (S49), y_ = (([(⟨a1_0, a1_1, a1_2⟩ : S49)] : List (S49))) := ⟨_, rfl⟩
    replace H : ((curve_At.f kj5 y419 a2).bind fun bt422 => (if t394 = 0 then (if t396 = 0 then (if t410 = 0 then (if t418 = 0 then (if bt422.2 = 0 then (if t393 < 1 then (none) else (if t395 < t393 then (none) else (if t409 = t417 then (if t409 = (mn t393 bt422.1) then ((bucket_Refill.f kj5 a1_0 a1_1 a1_2 0 0 0 a2).bind fun bt424 => (if t387 = true then (if bt424.2.2.2.2.2.2 = 0 then (some (bt424.2.2.2.1 == (mn a1_0 (wrap64 (bt422.1 - a1_0))))) else (none)) else (none))) else (none)) else (none)))) else (none)) else (none)) else (none)) else (none)) else (none))) = some r := by first | (rw [hy419]; with_reducible exact H) | (have H2_ := (Option.bind_some _ _).symm.trans H; rw [hy419]; with_reducible exact H2_) | (have H2_ := (Option.bind_some _ _).symm.trans H; with_reducible exact H2_) | with_reducible exact H | (rw [hy419]; exact H) | exact H
    have Ny419 := Aside0.mk hy419
    clear hy419
    obtain ⟨⟨t422, t423⟩, A42, H⟩ := bo_ H
    try dsimp only at H
    by_cases c43 : t394 = 0
    rotate_left
    ·rw [if_neg c43] at H; exact absurd H (by simp)
    rw [if_pos c43] at H
    have c43b0 : (t394 == 0) = true := beq_iff_eq.mpr c43
    have c43b1 : (t394 != 0) = false := bne_eq_false_iff_eq.mpr c43
    clear c43
    by_cases c44 : t396 = 0
    rotate_left
    ·rw [if_neg c44] at H; exact absurd H (by simp)
    rw [if_pos c44] at H
    have c44b0 : (t396 == 0) = true := beq_iff_eq.mpr c44
    have c44b1 : (t396 != 0) = false := bne_eq_false_iff_eq.mpr c44
    clear c44
    by_cases c45 : t410 = 0
    rotate_left
    ·rw [if_neg c45] at H; exact absurd H (by simp)
    rw [if_pos c45] at H
    have c45b0 : (t410 == 0) = true := beq_iff_eq.mpr c45
    have c45b1 : (t410 != 0) = false := bne_eq_false_iff_eq.mpr c45
    clear c45
    by_cases c46 : t418 = 0
    rotate_left
    ·rw [if_neg c46] at H; exact absurd H (by simp)
    rw [if_pos c46] at H
    have c46b0 : (t418 == 0) = true := beq_iff_eq.mpr c46
    have c46b1 : (t418 != 0) = false := bne_eq_false_iff_eq.mpr c46
    clear c46
    by_cases c47 : t423 = 0
    rotate_left
    ·rw [if_neg c47] at H; exact absurd H (by simp)
    rw [if_pos c47] at H
    have c47b0 : (t423 == 0) = true := beq_iff_eq.mpr c47
    have c47b1 : (t423 != 0) = false := bne_eq_false_iff_eq.mpr c47
    clear c47
    by_cases c48 : t393 < 1
    ·rw [if_pos c48] at H; exact absurd H (by simp)
    rw [if_neg c48] at H
    have c48b0 : decide (t393 < 1) = false := decide_eq_false c48
    clear c48
    by_cases c49 : t395 < t393
    ·rw [if_pos c49] at H; exact absurd H (by simp)
    rw [if_neg c49] at H
    have c49b0 : decide (t395 < t393) = false := decide_eq_false c49
    clear c49
    by_cases c50 : t409 = t417
    rotate_left
    ·rw [if_neg c50] at H; exact absurd H (by simp)
    rw [if_pos c50] at H
    have c50b0 : (t409 == t417) = true := beq_iff_eq.mpr c50
    have c50b1 : (t409 != t417) = false := bne_eq_false_iff_eq.mpr c50
    clear c50
    obtain ⟨ji51, hji51⟩ : ∃ j_ : Int, (mn t393 t422) = j_ := ⟨_, rfl⟩
    replace H : (if t409 = (ji51) then ((bucket_Refill.f kj5 a1_0 a1_1 a1_2 0 0 0 a2).bind fun bt424 => (if t387 = true then (if bt424.2.2.2.2.2.2 = 0 then (some (bt424.2.2.2.1 == (mn a1_0 (wrap64 (t422 - a1_0))))) else (none)) else (none))) else (none)) = some r := by first | (rw [hji51] at H; exact H) | (simp only [hji51] at H ⊢; exact H)
    (try rw [hji51] at A35)
    (try rw [hji51] at A36)
    (try rw [hji51] at A39)
    (try rw [hji51] at A41)
    (try rw [hji51] at A42)
    have hji51_ : (if t422 < t393 then t422 else t393) = ji51 := hji51
    by_cases c52 : t409 = (ji51)
    rotate_left
    ·rw [if_neg c52] at H; exact absurd H (by simp)
    rw [if_pos c52] at H
    have c52b0 : (t409 == (ji51)) = true := beq_iff_eq.mpr c52
    have c52b1 : (t409 != (ji51)) = false := bne_eq_false_iff_eq.mpr c52
    clear c52
    obtain ⟨⟨t424, t425, t426, t427, t428, t429, t430⟩, A53, H⟩ := bo_ H
    replace H : (if t387 = true then (if t430 = 0 then (some (t427 == (mn a1_0 (wrap64 (t422 - a1_0))))) else (none)) else (none)) = some r := H
    by_cases c54 : t387 = true
    ·subst c54
     rw [if_pos rfl] at H
     try dsimp only at H
     by_cases c55 : t430 = 0
     rotate_left
     ·rw [if_neg c55] at H; exact absurd H (by simp)
     rw [if_pos c55] at H
     have c55b0 : (t430 == 0) = true := beq_iff_eq.mpr c55
     have c55b1 : (t430 != 0) = false := bne_eq_false_iff_eq.mpr c55
     clear c55
     obtain ⟨ji56, hji56⟩ : ∃ j_ : Int, (mn a1_0 (wrap64 (t422 - a1_0))) = j_ := ⟨_, rfl⟩
     replace H : (some (t427 == (ji56))) = some r := by first | (rw [hji56] at H; exact H) | (simp only [hji56] at H ⊢; exact H)
     (try rw [hji56] at A35)
     (try rw [hji56] at A36)
     (try rw [hji56] at A39)
     (try rw [hji56] at A41)
     (try rw [hji56] at A42)
     (try rw [hji56] at A53)
     have hji56_ : (if (wrap64 (t422 - a1_0)) < a1_0 then (wrap64 (t422 - a1_0)) else a1_0) = ji56 := hji56
     obtain rfl := Option.some.inj H
     try go_wp2_with (first | ((with_reducible refine gate_callee (f := 10) rfl ?_); (try refine ug_ (by rfl) ?_); refine goesA_ (some 50) Try.func10 #[.slice A0 l0.length c0, .int .u64 a2] ?_; (with_reducible refine (curve_At.calls kj5 _ _ l0 a2 t393 t394 _ ?side1 ?side2 A35.out).mono ?_); (case side1 => exact cs_ HR0 HB); (case side2 => exact HC0.out); rintro e w57 ⟨rfl, hb⟩; refine ⟨_, rfl, ?_⟩; replace BK386 := bb_ BK386 hb; replace HB := bs_ w hb; clear hb) | ((with_reducible refine gate_callee (f := 10) rfl ?_); (try refine ug_ (by rfl) ?_); refine goesA_ (some 56) Try.func10 #[.slice A0 l0.length c0, .int .u64 a3] ?_; (with_reducible refine (curve_At.calls kj5 _ _ l0 a3 t395 t396 _ ?side1 ?side2 A36.out).mono ?_); (case side1 => exact cs_ HR0 HB); (case side2 => exact HC0.out); rintro e w58 ⟨rfl, hb⟩; refine ⟨_, rfl, ?_⟩; replace BK386 := bb_ BK386 hb; replace HB := bs_ w hb; clear hb))
     replace BK386 := Aside0.mk (blk_drew BK386.out)
     replace HB := Aside0.mk (below_drew1 HB.out)
     refine start_ (n := 13) (S := fun w' => w'.cell? ⟨gb386, 0, none⟩ = some (.int .i64 a1_0) ∧ w'.cell? ⟨gb386, 1, none⟩ = some (.int .i64 a1_1) ∧ w'.cell? ⟨gb386, 2, none⟩ = some (.int .i64 a1_2)) (ds := []) (bl_ 13 0) (by kernel_rfl) rfl (by kernel_rfl) (cc3_ BK386) (fun hHeld => ?_); refine with_tabW spigotlaw40_CurveGrows.tab6 spigotlaw40_CurveGrows.bits6 (fun HT_ HW_ => ?_)
     generalize w58.drew = w59 at BK386 HB hHeld ⊢
     refine pa_ 1 (some 61) (bl_ 13 2) HT_ ?_
     refine pa_ 6 (some 66) (bl_ 13 66) HT_ ?_
     refine ta_ 3 (some 63) (bl_ 13 74) HT_ HW_ hHeld ?_
     refine join_ (σ := Value × Value × Value) 7 (bl_ 13 95) (fun s_ => [(60, s_.1), (62, s_.2.1), (64, s_.2.2)]) (fun s_ w' => (w'.cell? ⟨gb386, 0, none⟩ = some (.int .i64 a1_0) ∧ w'.cell? ⟨gb386, 1, none⟩ = some (.int .i64 a1_1) ∧ w'.cell? ⟨gb386, 2, none⟩ = some (.int .i64 a1_2)) ∧ (Kd.R k49 49 w' w.heap.size (fun k_ => some k_ ≠ (s_.2.2 : Value).ownBlock ∧ k_ ≠ gb386) s_.2.1 y400) ∧ (Kd.R k49 49 w' w.heap.size (fun k_ => some k_ ≠ (s_.2.1 : Value).ownBlock ∧ k_ ≠ gb386) s_.2.2 y403) ∧ (w'.heap[gb386]? = some (.cells #[.int .i64 a1_0, .int .i64 a1_1, .int .i64 a1_2] 49 (0, 0))) ∧ (Below w.heap.size w w')) ?_ ?_
     rotate_left
     ·intro hCont
      refine tw_ 0 4 (some 60) (some 64) (bl_ 13 75) (bl_ 13 90) HT_ (fun K hK => ?_) fun K hK => ?_
      ·refine Kd.R_lit_step k49 _ 49 ?hg (N := 60) ?hd (xs := ([] : List (S49))) (inner := []) (ok := fun _ => True) (okp := fun _ => True) ?hr ?hp (fun _ hk => hk) trivial (Below.refl _ _) (Nat.le_refl _) (by simp) ?_; (case hd => rfl); (case hg => rfl); (case hr => first | (go_simp; done) | (go_simp; rfl)); (case hp => exact (Reps.none _ _))
       intro v398 w60 ho61 hb hg_ hnew_
       clear hg_ hnew_
       (first | rw [← Ny397.out] at ho61 | (simp only [Int.reduceToNat] at ho61; rw [← Ny397.out] at ho61))
       have HO399 := Aside0.mk (Kd.R_lower (Kd.R_newB ho61 (g := gb386) (o := .cells #[.int .i64 a1_0, .int .i64 a1_1, .int .i64 a1_2] 49 (0, 0)) (bq_ BK386)) (below_size bh_))
       replace BK386 := bb_ BK386 hb
       replace HB := bs_ w hb
       clear hb ho61
       refine hK.out _ _ (cc3_ BK386) (fun hHeld => ?_)
       clear hK K
       refine nm_ (some 60) ?_
       refine tw_ 2 4 (some 62) (some 64) (bl_ 13 79) (bl_ 13 91) HT_ (fun K hK => ?_) fun K hK => ?_
       ·refine Kd.R_append_rows_step k49 (w0 := w) w.heap.size (by rfl) (.tmp 60) (.tmp 61) 22 49 (.agg #[(.int .i64 0), (.int .i64 0), (.int .i64 0)]) 24 rfl Try.underlying22 info49 rfl (by decide) (by omega) v398 y397 l0 _ _ _ (fun k_ => k_ ≠ gb386) (fun _ => False) rfl rfl ?aO ?aR (fun _ _ h => h) (fun _ h => h.elim) ?aF ?aB ?aS ?aL ?_
        (case aR => exact cs_ HR0 HB)
        (case aB => exact bh_)
        (case aF => exact (fun k_ hk => Kd.freshB (g := gb386) (o := .cells #[.int .i64 a1_0, .int .i64 a1_1, .int .i64 a1_2] 49 (0, 0)) (bq_ BK386) k_ hk))
        (case aO => exact (by (with_reducible repeat (first | apply Kd.R_alloc | apply Kd.R_drewN | apply Kd.R_drew)); exact Kd.R_mono HO399.out (fun _ hk => hk.2)))
        (case aS => exact (below_size bh_))
        (case aL => have := LMc37.out; omega)
        intro v401 w62 ho hb hg hat
        rw [← Ny400.out] at ho
        have HO402 := Aside0.mk (ho)
        replace BK386 := Aside0.mk (blk_grown (g := gb386) (o := .cells #[.int .i64 a1_0, .int .i64 a1_1, .int .i64 a1_2] 49 (0, 0)) (bq_ BK386) hg (Kd.R_away HO399.out (fun _ hk => hk.2)))
        replace HB := Aside0.mk (hb)
        clear HO399
        clear ho hb hg hat
        refine hK.out _ _ (cc3_ BK386) (fun hHeld => ?_)
        clear hK K
        refine nm_ (some 62) ?_
        refine oa_ 4 (some 64) (bl_ 13 95) HT_ fun K hK => ?_
        refine Kd.R_lit_step k49 _ 49 ?hg (N := 64) ?hd (xs := ([(⟨a1_0, a1_1, a1_2⟩ : S49)] : List (S49))) (inner := [.int .i64 a1_0, .int .i64 a1_1, .int .i64 a1_2]) (ok := fun _ => True) (okp := fun _ => True) ?hr ?hp (fun _ hk => hk) trivial (Below.refl _ _) (Nat.le_refl _) (by simp) ?_; (case hd => rfl); (case hg => rfl); (case hr => first | (go_simp; done) | (go_simp; rfl)); (case hp => exact (Reps.c3 (show Kd.M k49 _ _ _ (⟨a1_0, a1_1, a1_2⟩ : S49) [.int .i64 a1_0, .int .i64 a1_1, .int .i64 a1_2] from (k49_mkM _ _ _ (⟨a1_0, a1_1, a1_2⟩ : S49) )) (Reps.none _ _)))
        intro v404 w63 ho64 hb hg_ hnew_
        clear hg_ hnew_
        (first | rw [← Ny403.out] at ho64 | (simp only [Int.reduceToNat] at ho64; rw [← Ny403.out] at ho64))
        have HO405 := Aside0.mk (Kd.R_lower (Kd.R_newB (Kd.R_new' ho64 (Kd.R_lt (rs_ HO402))) (g := gb386) (o := .cells #[.int .i64 a1_0, .int .i64 a1_1, .int .i64 a1_2] 49 (0, 0)) (bq_ BK386)) (below_size bh_))
        replace HO402 := Aside0.mk (Kd.R_elder' (rs_ HO402) (Kd.R_base ho64) hb)
        replace BK386 := bb_ BK386 hb
        replace HB := bs_ w hb
        clear hb ho64
        refine hK.out _ _ (cc3_ BK386) (fun hHeld => ?_)
        clear hK K
        refine nm_ (some 64) ?_
        exact no_ (hCont (v398, v401, v404) _ ⟨hHeld, (by (with_reducible repeat (first | apply Kd.R_alloc | apply Kd.R_drewN | apply Kd.R_drew)); exact Kd.R_mono HO402.out (fun _ hk => ⟨hk.2, hk.1⟩)), (by (with_reducible repeat (first | apply Kd.R_alloc | apply Kd.R_drewN | apply Kd.R_drew)); exact Kd.R_mono HO405.out (fun _ hk => ⟨hk.1.2, hk.2⟩)), (bq_ BK386), bh_⟩)
       ·refine Kd.R_lit_step k49 _ 49 ?hg (N := 64) ?hd (xs := ([(⟨a1_0, a1_1, a1_2⟩ : S49)] : List (S49))) (inner := [.int .i64 a1_0, .int .i64 a1_1, .int .i64 a1_2]) (ok := fun _ => True) (okp := fun _ => True) ?hr ?hp (fun _ hk => hk) trivial (Below.refl _ _) (Nat.le_refl _) (by simp) ?_; (case hd => rfl); (case hg => rfl); (case hr => first | (go_simp; done) | (go_simp; rfl)); (case hp => exact (Reps.c3 (show Kd.M k49 _ _ _ (⟨a1_0, a1_1, a1_2⟩ : S49) [.int .i64 a1_0, .int .i64 a1_1, .int .i64 a1_2] from (k49_mkM _ _ _ (⟨a1_0, a1_1, a1_2⟩ : S49) )) (Reps.none _ _)))
        intro v404 w62 ho63 hb hg_ hnew_
        clear hg_ hnew_
        (first | rw [← Ny403.out] at ho63 | (simp only [Int.reduceToNat] at ho63; rw [← Ny403.out] at ho63))
        have HO405 := Aside0.mk (Kd.R_lower (Kd.R_newB (Kd.R_new' ho63 (Kd.R_lt (rs_ HO399))) (g := gb386) (o := .cells #[.int .i64 a1_0, .int .i64 a1_1, .int .i64 a1_2] 49 (0, 0)) (bq_ BK386)) (below_size bh_))
        replace HO399 := Aside0.mk (Kd.R_elder' (rs_ HO399) (Kd.R_base ho63) hb)
        replace BK386 := bb_ BK386 hb
        replace HB := bs_ w hb
        clear hb ho63
        refine hK.out _ _ (cc3_ BK386) (fun hHeld => ?_)
        clear hK K
        refine nm_ (some 64) ?_
        refine oa_ 2 (some 62) (bl_ 13 95) HT_ fun K hK => ?_
        refine Kd.R_append_rows_step k49 (w0 := w) w.heap.size (by rfl) (.tmp 60) (.tmp 61) 22 49 (.agg #[(.int .i64 0), (.int .i64 0), (.int .i64 0)]) 24 rfl Try.underlying22 info49 rfl (by decide) (by omega) v398 y397 l0 _ _ _ (fun k_ => some k_ ≠ (v404 : Value).ownBlock ∧ k_ ≠ gb386) (fun _ => False) rfl rfl ?aO ?aR (fun _ _ h => h) (fun _ h => h.elim) ?aF ?aB ?aS ?aL ?_
        (case aR => exact cs_ HR0 HB)
        (case aB => exact bh_)
        (case aF => exact (fun k_ hk => ⟨Kd.fresh' (Kd.R_lt (rs_ HO405)) k_ hk, Kd.freshB (g := gb386) (o := .cells #[.int .i64 a1_0, .int .i64 a1_1, .int .i64 a1_2] 49 (0, 0)) (bq_ BK386) k_ hk⟩))
        (case aO => exact (by (with_reducible repeat (first | apply Kd.R_alloc | apply Kd.R_drewN | apply Kd.R_drew)); exact Kd.R_mono HO399.out (fun _ hk => ⟨hk.2, hk.1.2⟩)))
        (case aS => exact (below_size bh_))
        (case aL => have := LMc37.out; omega)
        intro v401 w64 ho hb hg hat
        rw [← Ny400.out] at ho
        have HO402 := Aside0.mk (ho)
        replace BK386 := Aside0.mk (blk_grown (g := gb386) (o := .cells #[.int .i64 a1_0, .int .i64 a1_1, .int .i64 a1_2] 49 (0, 0)) (bq_ BK386) hg (Kd.R_away HO399.out (fun _ hk => hk.1.2)))
        replace HO405 := Aside0.mk (Kd.R_after (ok := (fun k_ => k_ ≠ gb386)) (by (with_reducible repeat (first | apply Kd.R_alloc | apply Kd.R_drewN | apply Kd.R_drew)); exact Kd.R_mono HO405.out (fun _ hk => ⟨hk.2, hk.1.2⟩)) hg hat)
        replace HB := Aside0.mk (hb)
        clear HO399
        clear ho hb hg hat
        refine hK.out _ _ (cc3_ BK386) (fun hHeld => ?_)
        clear hK K
        refine nm_ (some 62) ?_
        exact no_ (hCont (v398, v401, v404) _ ⟨hHeld, (rs_ HO402), (by (with_reducible repeat (first | apply Kd.R_alloc | apply Kd.R_drewN | apply Kd.R_drew)); exact Kd.R_mono HO405.out (fun _ hk => ⟨hk.2, hk.1⟩)), (bq_ BK386), bh_⟩)
      ·refine Kd.R_lit_step k49 _ 49 ?hg (N := 64) ?hd (xs := ([(⟨a1_0, a1_1, a1_2⟩ : S49)] : List (S49))) (inner := [.int .i64 a1_0, .int .i64 a1_1, .int .i64 a1_2]) (ok := fun _ => True) (okp := fun _ => True) ?hr ?hp (fun _ hk => hk) trivial (Below.refl _ _) (Nat.le_refl _) (by simp) ?_; (case hd => rfl); (case hg => rfl); (case hr => first | (go_simp; done) | (go_simp; rfl)); (case hp => exact (Reps.c3 (show Kd.M k49 _ _ _ (⟨a1_0, a1_1, a1_2⟩ : S49) [.int .i64 a1_0, .int .i64 a1_1, .int .i64 a1_2] from (k49_mkM _ _ _ (⟨a1_0, a1_1, a1_2⟩ : S49) )) (Reps.none _ _)))
       intro v404 w60 ho61 hb hg_ hnew_
       clear hg_ hnew_
       (first | rw [← Ny403.out] at ho61 | (simp only [Int.reduceToNat] at ho61; rw [← Ny403.out] at ho61))
       have HO405 := Aside0.mk (Kd.R_lower (Kd.R_newB ho61 (g := gb386) (o := .cells #[.int .i64 a1_0, .int .i64 a1_1, .int .i64 a1_2] 49 (0, 0)) (bq_ BK386)) (below_size bh_))
       replace BK386 := bb_ BK386 hb
       replace HB := bs_ w hb
       clear hb ho61
       refine hK.out _ _ (cc3_ BK386) (fun hHeld => ?_)
       clear hK K
       refine nm_ (some 64) ?_
       refine oa_ 0 (some 60) (bl_ 13 91) HT_ fun K hK => ?_
       refine Kd.R_lit_step k49 _ 49 ?hg (N := 60) ?hd (xs := ([] : List (S49))) (inner := []) (ok := fun _ => True) (okp := fun _ => True) ?hr ?hp (fun _ hk => hk) trivial (Below.refl _ _) (Nat.le_refl _) (by simp) ?_; (case hd => rfl); (case hg => rfl); (case hr => first | (go_simp; done) | (go_simp; rfl)); (case hp => exact (Reps.none _ _))
       intro v398 w62 ho63 hb hg_ hnew_
       clear hg_ hnew_
       (first | rw [← Ny397.out] at ho63 | (simp only [Int.reduceToNat] at ho63; rw [← Ny397.out] at ho63))
       have HO399 := Aside0.mk (Kd.R_lower (Kd.R_newB (Kd.R_new' ho63 (Kd.R_lt (rs_ HO405))) (g := gb386) (o := .cells #[.int .i64 a1_0, .int .i64 a1_1, .int .i64 a1_2] 49 (0, 0)) (bq_ BK386)) (below_size bh_))
       replace HO405 := Aside0.mk (Kd.R_elder' (rs_ HO405) (Kd.R_base ho63) hb)
       replace BK386 := bb_ BK386 hb
       replace HB := bs_ w hb
       clear hb ho63
       refine hK.out _ _ (cc3_ BK386) (fun hHeld => ?_)
       clear hK K
       refine nm_ (some 60) ?_
       refine oa_ 2 (some 62) (bl_ 13 95) HT_ fun K hK => ?_
       refine Kd.R_append_rows_step k49 (w0 := w) w.heap.size (by rfl) (.tmp 60) (.tmp 61) 22 49 (.agg #[(.int .i64 0), (.int .i64 0), (.int .i64 0)]) 24 rfl Try.underlying22 info49 rfl (by decide) (by omega) v398 y397 l0 _ _ _ (fun k_ => some k_ ≠ (v404 : Value).ownBlock ∧ k_ ≠ gb386) (fun _ => False) rfl rfl ?aO ?aR (fun _ _ h => h) (fun _ h => h.elim) ?aF ?aB ?aS ?aL ?_
       (case aR => exact cs_ HR0 HB)
       (case aB => exact bh_)
       (case aF => exact (fun k_ hk => ⟨Kd.fresh' (Kd.R_lt (rs_ HO405)) k_ hk, Kd.freshB (g := gb386) (o := .cells #[.int .i64 a1_0, .int .i64 a1_1, .int .i64 a1_2] 49 (0, 0)) (bq_ BK386) k_ hk⟩))
       (case aO => exact (by (with_reducible repeat (first | apply Kd.R_alloc | apply Kd.R_drewN | apply Kd.R_drew)); exact Kd.R_mono HO399.out (fun _ hk => ⟨hk.1.2, hk.2⟩)))
       (case aS => exact (below_size bh_))
       (case aL => have := LMc37.out; omega)
       intro v401 w64 ho hb hg hat
       rw [← Ny400.out] at ho
       have HO402 := Aside0.mk (ho)
       replace BK386 := Aside0.mk (blk_grown (g := gb386) (o := .cells #[.int .i64 a1_0, .int .i64 a1_1, .int .i64 a1_2] 49 (0, 0)) (bq_ BK386) hg (Kd.R_away HO399.out (fun _ hk => hk.2)))
       replace HO405 := Aside0.mk (Kd.R_after (ok := (fun k_ => k_ ≠ gb386)) (by (with_reducible repeat (first | apply Kd.R_alloc | apply Kd.R_drewN | apply Kd.R_drew)); exact Kd.R_mono HO405.out (fun _ hk => ⟨hk.1.2, hk.2⟩)) hg hat)
       replace HB := Aside0.mk (hb)
       clear HO399
       clear ho hb hg hat
       refine hK.out _ _ (cc3_ BK386) (fun hHeld => ?_)
       clear hK K
       refine nm_ (some 62) ?_
       exact no_ (hCont (v398, v401, v404) _ ⟨hHeld, (rs_ HO402), (by (with_reducible repeat (first | apply Kd.R_alloc | apply Kd.R_drewN | apply Kd.R_drew)); exact Kd.R_mono HO405.out (fun _ hk => ⟨hk.2, hk.1⟩)), (bq_ BK386), bh_⟩)
     rintro ⟨v398, v401, v404⟩ w65 ⟨hS_, h0_, h1_, h2_, h3_⟩
     have HO402 : Aside0 (Kd.R k49 49 w65 w.heap.size (fun k_ => some k_ ≠ (v404 : Value).ownBlock ∧ k_ ≠ gb386) v401 y400) := ⟨h0_⟩
     have HO405 : Aside0 (Kd.R k49 49 w65 w.heap.size (fun k_ => some k_ ≠ (v401 : Value).ownBlock ∧ k_ ≠ gb386) v404 y403) := ⟨h1_⟩
     replace BK386 := Aside0.mk h2_
     replace HB := Aside0.mk h3_
     clear h0_ h1_ h2_ h3_
     have hHeld := hS_
     obtain ⟨Ao67, co67, eo67⟩ := Kd.R_slice HO405.out
     (first | subst eo67 | (injection eo67 with f1_ f2_ f3_; have f4_ := f1_.symm; have f5_ := f3_.symm; clear f1_ f2_ f3_; subst f4_; subst f5_))
     refine nq_ ?_
     refine oa_ 5 (some 65) (bl_ 13 127) HT_ fun K hK => ?_
     refine Kd.R_append_rows_step k49 (w0 := w) w.heap.size (by rfl) (.tmp 62) (.tmp 64) 22 49 (.agg #[(.int .i64 0), (.int .i64 0), (.int .i64 0)]) 24 rfl Try.underlying22 info49 rfl (by decide) (by omega) v401 y400 y403 _ _ _ (fun k_ => some k_ ≠ (.slice Ao67 y403.length co67 : Value).ownBlock ∧ k_ ≠ gb386) (fun _ => False) rfl rfl ?aO ?aR (fun _ _ h => h) (fun _ h => h.elim) ?aF ?aB ?aS ?aL ?_
     (case aR => exact cr_ HO405)
     (case aB => exact bh_)
     (case aF => exact (fun k_ hk => ⟨Kd.fresh' (Kd.R_lt (rs_ HO405)) k_ hk, Kd.freshB (g := gb386) (o := .cells #[.int .i64 a1_0, .int .i64 a1_1, .int .i64 a1_2] 49 (0, 0)) (bq_ BK386) k_ hk⟩))
     (case aO => exact (rs_ HO402))
     (case aS => exact (below_size bh_))
     (case aL => have := LMc38.out; omega)
     intro v407 w66 ho hb hg hat
     rw [← Ny406.out] at ho
     have HO408 := Aside0.mk (ho)
     replace BK386 := Aside0.mk (blk_grown (g := gb386) (o := .cells #[.int .i64 a1_0, .int .i64 a1_1, .int .i64 a1_2] 49 (0, 0)) (bq_ BK386) hg (Kd.R_away HO402.out (fun _ hk => hk.2)))
     replace HO405 := Aside0.mk (Kd.R_after (ok := (fun k_ => k_ ≠ gb386)) (by (with_reducible repeat (first | apply Kd.R_alloc | apply Kd.R_drewN | apply Kd.R_drew)); exact Kd.R_mono HO405.out (fun _ hk => ⟨hk.2, hk.1⟩)) hg hat)
     replace HB := Aside0.mk (hb)
     clear HO402
     clear ho hb hg hat
     obtain ⟨Ao68, co68, eo68⟩ := Kd.R_slice HO408.out
     (first | subst eo68 | (injection eo68 with f1_ f2_ f3_; have f4_ := f1_.symm; have f5_ := f3_.symm; clear f1_ f2_ f3_; subst f4_; subst f5_))
     refine hK.out _ _ (cc3_ BK386) (fun hHeld => ?_)
     clear hK K
     refine nm_ (some 65) ?_
     refine oa_ 7 (some 67) (bl_ 13 255) HT_ fun K hK => ?_
     refine goesB_ Try.func10 #[.slice Ao68 y406.length co68, .int .u64 a2] ?_
     with_reducible refine (curve_At.calls kj5 _ _ y406 a2 t409 t410 _ ?side1 ?side2 A39.out).mono ?_
     (case side1 => exact cr_ HO408)
     (case side2 => exact (Kd.R_reads' HO408.out).2.1)
     rintro e w69 ⟨rfl, hb⟩
     refine ⟨_, rfl, ?_⟩
     replace HO405 := rb_ HO405 hb
     replace HO408 := rb_ HO408 hb
     replace BK386 := bb_ BK386 hb
     replace HB := bs_ w hb
     clear hb
     refine hK.out _ _ (cc3_ BK386) (fun hHeld => ?_)
     clear hK K
     refine nm_ (some 67) ?_
     refine pa_ 8 (some 59) (bl_ 13 511) HT_ ?_
     refine pa_ 9 (some 68) (bl_ 13 1023) HT_ ?_
     refine pa_ 10 (some 69) (bl_ 13 2047) HT_ ?_
     refine pa_ 11 (some 14) (bl_ 13 4095) HT_ ?_
     refine pa_ 12 (some 15) (bl_ 13 8191) HT_ ?_
     refine done_ (done_of HT_.out (by kernel_rfl)) ?_
     replace hc386 := ce3_ BK386
     try go_wp2_with (first | ((with_reducible refine gate_dst (N := 72) rfl ?_); (try refine ug_ (by rfl) ?_); refine Kd.R_lit k49 _ 49 ?hg (N := 72) ?hd (xs := ([(⟨a1_0, a1_1, a1_2⟩ : S49)] : List (S49))) (inner := [.int .i64 a1_0, .int .i64 a1_1, .int .i64 a1_2]) (ok := fun _ => True) (okp := fun _ => True) ?hr ?hp (fun _ hk => hk) trivial (Below.refl _ _) (Nat.le_refl _) (by simp) ?_; (case hd => rfl); (case hg => rfl); (case hr => first | (go_simp; done) | (go_simp; rfl)); (case hp => exact (Reps.c3 (show Kd.M k49 _ _ _ (⟨a1_0, a1_1, a1_2⟩ : S49) [.int .i64 a1_0, .int .i64 a1_1, .int .i64 a1_2] from (k49_mkM _ _ _ (⟨a1_0, a1_1, a1_2⟩ : S49) )) (Reps.none _ _))); intro v412 w71 ho72 hb hg_ hnew_; clear hg_ hnew_; (first | rw [← Ny411.out] at ho72 | (simp only [Int.reduceToNat] at ho72; rw [← Ny411.out] at ho72)); have HO413 := Aside0.mk (Kd.R_lower (Kd.R_newB (Kd.R_new' (Kd.R_new' ho72 (Kd.R_lt (rs_ HO405))) (Kd.R_lt (rs_ HO408))) (g := gb386) (o := .cells #[.int .i64 a1_0, .int .i64 a1_1, .int .i64 a1_2] 49 (0, 0)) (bq_ BK386)) (below_size bh_)); replace HO405 := Aside0.mk (Kd.R_elder' (rs_ HO405) (Kd.R_base ho72) hb); replace HO408 := Aside0.mk (Kd.R_elder' (rs_ HO408) (Kd.R_base ho72) hb); replace BK386 := bb_ BK386 hb; replace HB := bs_ w hb; clear hb ho72) | ((with_reducible refine gate_builtin (b := .append) (xs := #[.tmp 72, .tmp 73]) rfl ?_); (try refine ug_ (by rfl) ?_); at_builtin; refine Kd.R_append_rows k49 (w0 := w) w.heap.size rfl (.tmp 72) (.tmp 73) 22 49 (.agg #[(.int .i64 0), (.int .i64 0), (.int .i64 0)]) 24 rfl Try.underlying22 info49 rfl (by decide) (by omega) v412 y411 l0 _ _ _ (fun k_ => some k_ ≠ (.slice Ao67 y403.length co67 : Value).ownBlock ∧ some k_ ≠ (.slice Ao68 y406.length co68 : Value).ownBlock ∧ k_ ≠ gb386) (fun _ => False) rfl rfl ?aO ?aR (fun _ _ h => h) (fun _ h => h.elim) ?aF ?aB ?aS ?aL ?_; (case aR => exact cs_ HR0 HB); (case aB => exact bh_); (case aF => exact (fun k_ hk => ⟨Kd.fresh' (Kd.R_lt (rs_ HO405)) k_ hk, Kd.fresh' (Kd.R_lt (rs_ HO408)) k_ hk, Kd.freshB (g := gb386) (o := .cells #[.int .i64 a1_0, .int .i64 a1_1, .int .i64 a1_2] 49 (0, 0)) (bq_ BK386) k_ hk⟩)); (case aO => exact (by (with_reducible repeat (first | apply Kd.R_alloc | apply Kd.R_drewN | apply Kd.R_drew)); exact Kd.R_mono HO413.out (fun _ hk => ⟨hk.1.1.2, ⟨hk.1.2, hk.2⟩⟩))); (case aS => exact (below_size bh_)); (case aL => have := LMc40.out; omega); intro v415 w73 ho hb hg hat; rw [← Ny414.out] at ho; have HO416 := Aside0.mk (ho); replace BK386 := Aside0.mk (blk_grown (g := gb386) (o := .cells #[.int .i64 a1_0, .int .i64 a1_1, .int .i64 a1_2] 49 (0, 0)) (bq_ BK386) hg (Kd.R_away HO413.out (fun _ hk => hk.2))); replace HO405 := Aside0.mk (Kd.R_after (ok := (fun k_ => some k_ ≠ (.slice Ao68 y406.length co68 : Value).ownBlock ∧ k_ ≠ gb386)) (by (with_reducible repeat (first | apply Kd.R_alloc | apply Kd.R_drewN | apply Kd.R_drew)); exact Kd.R_mono HO405.out (fun _ hk => ⟨⟨hk.1.2, hk.1.1⟩, hk.2⟩)) hg hat); replace HO408 := Aside0.mk (Kd.R_after (ok := (fun k_ => some k_ ≠ (.slice Ao67 y403.length co67 : Value).ownBlock ∧ k_ ≠ gb386)) (rs_ HO408) hg hat); replace HB := Aside0.mk (hb); clear HO413; clear ho hb hg hat; obtain ⟨Ao74, co74, eo74⟩ := Kd.R_slice HO416.out; subst eo74) | ((with_reducible refine gate_callee (f := 10) rfl ?_); (try refine ug_ (by rfl) ?_); refine goesA_ (some 76) Try.func10 #[.slice Ao74 y414.length co74, .int .u64 a2] ?_; (with_reducible refine (curve_At.calls kj5 _ _ y414 a2 t417 t418 _ ?side1 ?side2 A41.out).mono ?_); (case side1 => exact cr_ HO416); (case side2 => exact (Kd.R_reads' HO416.out).2.1); rintro e w75 ⟨rfl, hb⟩; refine ⟨_, rfl, ?_⟩; replace HO405 := rb_ HO405 hb; replace HO408 := rb_ HO408 hb; replace HO416 := rb_ HO416 hb; replace BK386 := bb_ BK386 hb; replace HB := bs_ w hb; clear hb; replace hc386 := ce3_ BK386) | ((with_reducible refine gate_dst (N := 81) rfl ?_); (try refine ug_ (by rfl) ?_); refine Kd.R_lit k49 _ 49 ?hg (N := 81) ?hd (xs := ([(⟨a1_0, a1_1, a1_2⟩ : S49)] : List (S49))) (inner := [.int .i64 a1_0, .int .i64 a1_1, .int .i64 a1_2]) (ok := fun _ => True) (okp := fun _ => True) ?hr ?hp (fun _ hk => hk) trivial (Below.refl _ _) (Nat.le_refl _) (by simp) ?_; (case hd => rfl); (case hg => rfl); (case hr => first | (go_simp; done) | (go_simp; rfl)); (case hp => exact (Reps.c3 (show Kd.M k49 _ _ _ (⟨a1_0, a1_1, a1_2⟩ : S49) [.int .i64 a1_0, .int .i64 a1_1, .int .i64 a1_2] from (k49_mkM _ _ _ (⟨a1_0, a1_1, a1_2⟩ : S49) )) (Reps.none _ _))); intro v420 w77 ho78 hb hg_ hnew_; clear hg_ hnew_; (first | rw [← Ny419.out] at ho78 | (simp only [Int.reduceToNat] at ho78; rw [← Ny419.out] at ho78)); have HO421 := Aside0.mk (Kd.R_lower (Kd.R_newB (Kd.R_new' (Kd.R_new' (Kd.R_new' ho78 (Kd.R_lt (rs_ HO405))) (Kd.R_lt (rs_ HO408))) (Kd.R_lt (rs_ HO416))) (g := gb386) (o := .cells #[.int .i64 a1_0, .int .i64 a1_1, .int .i64 a1_2] 49 (0, 0)) (bq_ BK386)) (below_size bh_)); replace HO405 := Aside0.mk (Kd.R_elder' (rs_ HO405) (Kd.R_base ho78) hb); replace HO408 := Aside0.mk (Kd.R_elder' (rs_ HO408) (Kd.R_base ho78) hb); replace HO416 := Aside0.mk (Kd.R_elder' (rs_ HO416) (Kd.R_base ho78) hb); replace BK386 := bb_ BK386 hb; replace HB := bs_ w hb; clear hb ho78; obtain ⟨Ao79, co79, eo79⟩ := Kd.R_slice HO421.out; subst eo79) | ((with_reducible refine gate_callee (f := 10) rfl ?_); (try refine ug_ (by rfl) ?_); refine goesA_ (some 83) Try.func10 #[.slice Ao79 y419.length co79, .int .u64 a2] ?_; (with_reducible refine (curve_At.calls kj5 _ _ y419 a2 t422 t423 _ ?side1 ?side2 A42.out).mono ?_); (case side1 => exact cr_ HO421); (case side2 => exact (Kd.R_reads' HO421.out).2.1); rintro e w80 ⟨rfl, hb⟩; refine ⟨_, rfl, ?_⟩; replace HO405 := rb_ HO405 hb; replace HO408 := rb_ HO408 hb; replace HO416 := rb_ HO416 hb; replace HO421 := rb_ HO421 hb; replace BK386 := bb_ BK386 hb; replace HB := bs_ w hb; clear hb; replace hc386 := ce3_ BK386) | ((with_reducible refine gate_callee (f := 23) rfl ?_); (try refine ug_ (by rfl) ?_); refine goesA_ (some 129) Try.func23 #[.agg #[.int .i64 a1_0, .int .i64 a1_1, .int .i64 a1_2, .int .i64 0, .int .i64 0, .int .u64 0], .int .u64 a2] ?_; (with_reducible refine (bucket_Refill.calls kj5 a1_0 a1_1 a1_2 0 0 0 a2 t424 t425 t426 t427 t428 t429 t430 _ A53.out).mono ?_); rintro e w82 ⟨rfl, hb⟩; refine ⟨_, rfl, ?_⟩; replace HO405 := rb_ HO405 hb; replace HO408 := rb_ HO408 hb; replace HO416 := rb_ HO416 hb; replace HO421 := rb_ HO421 hb; replace BK386 := bb_ BK386 hb; replace HB := bs_ w hb; clear hb) | ((with_reducible refine gate_dst (N := 20) rfl ?_); (try refine ug_ (by rfl) ?_); refine bx_ #[.int .i64 0, .int .i64 0, .int .i64 0, .int .i64 0, .int .i64 0, .int .u64 0] 51 ?_; intro gb431 hg w83 BK431 hb; have GW431 := bz_ w hg; have GE431 := GW431; have NB386_431 := bn_ BK386 hg; have NB431_386 := bm_ BK386 hg; replace HO405 := rb_ HO405 hb; replace HO408 := rb_ HO408 hb; replace HO416 := rb_ HO416 hb; replace HO421 := rb_ HO421 hb; replace BK386 := bb_ BK386 hb; replace HB := bs_ w hb; clear hb hg; replace hn431_386 := NB431_386.out; replace hn386_431 := NB386_431.out; replace hc431 := ce6_ BK431; replace hc386 := ce3_ BK386))
     go_ret
     exact ⟨by first | rfl | (simp [errW_none, errW_some] <;> rfl) | (simp only [← hji51, ← hji56]; first | rfl | (simp [errW_none, errW_some] <;> rfl)) | (simp [*, errW_none, errW_some] <;> rfl), by repeat (first | (with_reducible first | exact HB.out | apply below_alloc | apply pw_below_drewN | apply below_drew1 | refine below_set ?_ GE386.out | refine below_set ?_ GE431.out) | exact HB.out)⟩
    ·replace c54 := Bool.eq_false_iff.mpr c54
     subst c54
     replace H : (none) = some r := by rw [if_neg (show ¬ (false = true) by decide)] at H; exact H
     exact absurd H (by simp)

end Go.Proofs.Ytimhghmfhfggoaa.X
