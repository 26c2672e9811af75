-- written by xprint.py, a program of this session over the kit's print
import Derived.Test.YtbfdpodlnijeoaaX0
import Derived.Test.YtbfdpodlnijeoaaX14
import Derived.Test.YtbfdpodlnijeoaaX15
import Derived.Test.YtbfdpodlnijeoaaX17
import Derived.Test.YtbfdpodlnijeoaaX19
import Derived.Test.YtbfdpodlnijeoaaX30
import Derived.Test.YtbfdpodlnijeoaaX36
namespace Go.Proofs.Ytbfdpodlnijeoaa.X
open Go.RowKit Go.Proofs.YtbfdpodlnijeoaaW.PrintWords Go.Proofs.YtbfdpodlnijeoaaW.PrintLast Go.Proofs.YtbfdpodlnijeoaaW.PrintMore
attribute [local go_sem] max2_int min2_int max_two min_two max_three min_three max_four min_four   -- for this text's walks alone
set_option linter.unusedVariables false
set_option linter.unusedSimpArgs false

/-! ### spigotlaw42_LeaseBound: function 9 -/
mutual
def spigotlaw42_LeaseBound.j0 : Nat → List (S31) → Int → Bool → Bool → Int → Int → Int → Int → Int → Int → Int → List Int → Option (Bool)
  | 0, _, _, _, _, _, _, _, _, _, _, _, _ => none
  | k + 1, x1, x2, x7, x30, x1069000, x1069001, x1069002, x1069003, x1069004, x1069005, x1069006, x1069007 => if x30 = true then (some x7) else (spigotlaw42_LeaseBound.l0 k x1 x2 x7 0 x1069000 x1069001 x1069002 x1069003 x1069004 x1069005 x1069006 x1069007)
def spigotlaw42_LeaseBound.l0 : Nat → List (S31) → Int → Bool → Int → Int → Int → Int → Int → Int → Int → Int → List Int → Option (Bool)
  | 0, _, _, _, _, _, _, _, _, _, _, _, _ => none
  | k + 1, x1, x2, x7, x8, x1069000, x1069001, x1069002, x1069003, x1069004, x1069005, x1069006, x1069007 => if x8 < (x1.length : Int) then (if 0 ≤ x8 then (if ((rd_T31 x1 x8).f2) > x1069005 then (if (IntKind.u64.wrap (((rd_T31 x1 x8).f2) - x1069005)) > x2 then (some x7) else (spigotlaw42_LeaseBound.l0 k x1 x2 x7 (wrap64 (x8 + 1)) x1069000 x1069001 x1069002 x1069003 x1069004 x1069005 x1069006 x1069007)) else (spigotlaw42_LeaseBound.l0 k x1 x2 x7 (wrap64 (x8 + 1)) x1069000 x1069001 x1069002 x1069003 x1069004 x1069005 x1069006 x1069007)) else (none)) else ((lease_Run.f k x1069000 x1069001 x1069002 x1069003 x1069004 x1069005 x1069006 x1069007 x1).bind fun bt1074 => (if bt1074.2.2.2.2.2.2.2.2.2 = 0 then ((lease_Spent.f k x1 bt1074.2.2.2.2.2.2.2.2.1).bind fun bt1089 => ((lease_Out.f k bt1074.1 bt1074.2.1 bt1074.2.2.1 bt1074.2.2.2.1 bt1074.2.2.2.2.1 bt1074.2.2.2.2.2.1 bt1074.2.2.2.2.2.2.1 bt1074.2.2.2.2.2.2.2.1).bind fun bt1091 => ((lease_Bound.f k x1069000 x1069001 x1069002 x1069003 x1069004 x1069005 x1069006 x1069007 x2).bind fun bt1093 => (if x7 = true then (if bt1089.2 = 0 then (if bt1089.1 ≥ 0 then (if bt1091.2 = 0 then (if bt1091.1 ≥ 0 then (if bt1093.2 = 0 then ((spigotref42_Check.f k bt1074.1 bt1074.2.1 bt1074.2.2.1 bt1074.2.2.2.1 bt1074.2.2.2.2.1 bt1074.2.2.2.2.2.1 bt1074.2.2.2.2.2.2.1 bt1074.2.2.2.2.2.2.2.1).bind fun t1095 => (if t1095 = 0 then (some (decide ((wrap64 ((wrap64 (bt1089.1 + bt1091.1)) + bt1074.2.2.2.1)) ≤ bt1093.1))) else (none))) else (none)) else (none)) else (none)) else (none)) else (none)) else (none))))) else (if x7 = true then (if bt1074.2.2.2.2.2.2.2.2.2 = 4 then (some true) else (if bt1074.2.2.2.2.2.2.2.2.2 = 8 then (some true) else (some (bt1074.2.2.2.2.2.2.2.2.2 == 2)))) else (none))))
end
def spigotlaw42_LeaseBound.f (k : Nat) (a0_0 : Int) (a0_1 : Int) (a0_2 : Int) (a0_3 : Int) (a0_4 : Int) (a0_5 : Int) (a0_6 : Int) (l0_7 : List Int) (l1 : List (S31)) (a2 : Int) : Option (Bool) := (spigotlaw42_alive.f k).bind fun t1069 => ((spigotref42_Great.f a0_0 a0_1 a0_2 a0_3 a0_4 a0_5 a0_6 l0_7 l1).bind fun t1070 => (if t1070 = true then (spigotlaw42_LeaseBound.j0 k l1 a2 t1069 true a0_0 a0_1 a0_2 a0_3 a0_4 a0_5 a0_6 l0_7) else ((spigotref42_Check.f k a0_0 a0_1 a0_2 a0_3 a0_4 a0_5 a0_6 l0_7).bind fun t1071 => (if t1071 = 0 then (spigotlaw42_LeaseBound.j0 k l1 a2 t1069 (!t1069) a0_0 a0_1 a0_2 a0_3 a0_4 a0_5 a0_6 l0_7) else (spigotlaw42_LeaseBound.j0 k l1 a2 t1069 true a0_0 a0_1 a0_2 a0_3 a0_4 a0_5 a0_6 l0_7)))))
theorem spigotlaw42_LeaseBound.mono_l : ∀ k, (∀ y0 y1 y2 y3 y4 y5 y6 y7 y8 y9 y10 y11, LeO (spigotlaw42_LeaseBound.j0 k y0 y1 y2 y3 y4 y5 y6 y7 y8 y9 y10 y11) (spigotlaw42_LeaseBound.j0 (k + 1) y0 y1 y2 y3 y4 y5 y6 y7 y8 y9 y10 y11)) ∧ (∀ y0 y1 y2 y3 y4 y5 y6 y7 y8 y9 y10 y11, LeO (spigotlaw42_LeaseBound.l0 k y0 y1 y2 y3 y4 y5 y6 y7 y8 y9 y10 y11) (spigotlaw42_LeaseBound.l0 (k + 1) y0 y1 y2 y3 y4 y5 y6 y7 y8 y9 y10 y11))
  | 0 => ⟨fun _ _ _ _ _ _ _ _ _ _ _ _ r h => by simp [spigotlaw42_LeaseBound.j0] at h, fun _ _ _ _ _ _ _ _ _ _ _ _ r h => by simp [spigotlaw42_LeaseBound.l0] at h⟩
  | k + 1 => by
    obtain ⟨ih0, ih1⟩ := spigotlaw42_LeaseBound.mono_l k
    refine ⟨?_, ?_⟩
    · intro y0 y1 y2 y3 y4 y5 y6 y7 y8 y9 y10 y11
      unfold spigotlaw42_LeaseBound.j0
      repeat' first
      | (with_reducible exact ih0 _ _ _ _ _ _ _ _ _ _ _ _)
      | (with_reducible exact ih1 _ _ _ _ _ _ _ _ _ _ _ _)
      | (with_reducible exact lease_Bound.mono _ _ _ _ _ _ _ _ _ _)
      | (with_reducible exact lease_Out.mono _ _ _ _ _ _ _ _ _)
      | (with_reducible exact lease_Run.mono _ _ _ _ _ _ _ _ _ _)
      | (with_reducible exact lease_Spent.mono _ _ _)
      | (with_reducible exact spigotlaw42_alive.mono _)
      | (with_reducible exact spigotref42_Check.mono _ _ _ _ _ _ _ _ _)
      | (with_reducible exact LeO.refl _)
      | (with_reducible exact LeO.none _)
      | (with_reducible refine LeO.ite ?_ ?_)
      | (with_reducible refine LeO.bind ?_ (fun _ => ?_))
      | exact ih0 _ _ _ _ _ _ _ _ _ _ _ _
      | exact ih1 _ _ _ _ _ _ _ _ _ _ _ _
      | exact lease_Bound.mono _ _ _ _ _ _ _ _ _ _
      | exact lease_Out.mono _ _ _ _ _ _ _ _ _
      | exact lease_Run.mono _ _ _ _ _ _ _ _ _ _
      | exact lease_Spent.mono _ _ _
      | exact spigotlaw42_alive.mono _
      | exact spigotref42_Check.mono _ _ _ _ _ _ _ _ _
      | exact LeO.none _
      | refine LeO.ite ?_ ?_
      | refine LeO.bind ?_ (fun _ => ?_)
    · intro y0 y1 y2 y3 y4 y5 y6 y7 y8 y9 y10 y11
      unfold spigotlaw42_LeaseBound.l0
      repeat' first
      | (with_reducible exact ih0 _ _ _ _ _ _ _ _ _ _ _ _)
      | (with_reducible exact ih1 _ _ _ _ _ _ _ _ _ _ _ _)
      | (with_reducible exact lease_Bound.mono _ _ _ _ _ _ _ _ _ _)
      | (with_reducible exact lease_Out.mono _ _ _ _ _ _ _ _ _)
      | (with_reducible exact lease_Run.mono _ _ _ _ _ _ _ _ _ _)
      | (with_reducible exact lease_Spent.mono _ _ _)
      | (with_reducible exact spigotlaw42_alive.mono _)
      | (with_reducible exact spigotref42_Check.mono _ _ _ _ _ _ _ _ _)
      | (with_reducible exact LeO.refl _)
      | (with_reducible exact LeO.none _)
      | (with_reducible refine LeO.ite ?_ ?_)
      | (with_reducible refine LeO.bind ?_ (fun _ => ?_))
      | exact ih0 _ _ _ _ _ _ _ _ _ _ _ _
      | exact ih1 _ _ _ _ _ _ _ _ _ _ _ _
      | exact lease_Bound.mono _ _ _ _ _ _ _ _ _ _
      | exact lease_Out.mono _ _ _ _ _ _ _ _ _
      | exact lease_Run.mono _ _ _ _ _ _ _ _ _ _
      | exact lease_Spent.mono _ _ _
      | exact spigotlaw42_alive.mono _
      | exact spigotref42_Check.mono _ _ _ _ _ _ _ _ _
      | exact LeO.none _
      | refine LeO.ite ?_ ?_
      | refine LeO.bind ?_ (fun _ => ?_)
theorem spigotlaw42_LeaseBound.mono : ∀ a0 a1 a2 a3 a4 a5 a6 a7 a8 a9 k, LeO (spigotlaw42_LeaseBound.f k a0 a1 a2 a3 a4 a5 a6 a7 a8 a9) (spigotlaw42_LeaseBound.f (k + 1) a0 a1 a2 a3 a4 a5 a6 a7 a8 a9) := by
  intro a0 a1 a2 a3 a4 a5 a6 a7 a8 a9 k
  obtain ⟨ih0, ih1⟩ := spigotlaw42_LeaseBound.mono_l k
  unfold spigotlaw42_LeaseBound.f
  repeat' first
      | (with_reducible exact ih0 _ _ _ _ _ _ _ _ _ _ _ _)
      | (with_reducible exact ih1 _ _ _ _ _ _ _ _ _ _ _ _)
      | (with_reducible exact lease_Bound.mono _ _ _ _ _ _ _ _ _ _)
      | (with_reducible exact lease_Out.mono _ _ _ _ _ _ _ _ _)
      | (with_reducible exact lease_Run.mono _ _ _ _ _ _ _ _ _ _)
      | (with_reducible exact lease_Spent.mono _ _ _)
      | (with_reducible exact spigotlaw42_alive.mono _)
      | (with_reducible exact spigotref42_Check.mono _ _ _ _ _ _ _ _ _)
      | (with_reducible exact LeO.refl _)
      | (with_reducible exact LeO.none _)
      | (with_reducible refine LeO.ite ?_ ?_)
      | (with_reducible refine LeO.bind ?_ (fun _ => ?_))
      | exact ih0 _ _ _ _ _ _ _ _ _ _ _ _
      | exact ih1 _ _ _ _ _ _ _ _ _ _ _ _
      | exact lease_Bound.mono _ _ _ _ _ _ _ _ _ _
      | exact lease_Out.mono _ _ _ _ _ _ _ _ _
      | exact lease_Run.mono _ _ _ _ _ _ _ _ _ _
      | exact lease_Spent.mono _ _ _
      | exact spigotlaw42_alive.mono _
      | exact spigotref42_Check.mono _ _ _ _ _ _ _ _ _
      | exact LeO.none _
      | refine LeO.ite ?_ ?_
      | refine LeO.bind ?_ (fun _ => ?_)
set_option maxHeartbeats 8000000 in
set_option maxRecDepth 100000 in
theorem spigotlaw42_LeaseBound.calls (k : Nat) (a0_0 : Int) (a0_1 : Int) (a0_2 : Int) (a0_3 : Int) (a0_4 : Int) (a0_5 : Int) (a0_6 : Int) (A0_7 : Option Addr) (c0_7 : Nat) (l0_7 : List Int) (A1 : Option Addr) (c1 : Nat) (l1 : List (S31)) (a2 : Int) (r : Bool) (w : World) (hr0_7 : Kd.C (Kd.int .i64) w A0_7 l0_7.length l0_7) (hc0_7 : l0_7.length ≤ c0_7) (hr1 : Kd.C k31 w A1 l1.length l1) (hc1 : l1.length ≤ c1) (h : spigotlaw42_LeaseBound.f k a0_0 a0_1 a0_2 a0_3 a0_4 a0_5 a0_6 l0_7 l1 a2 = some r) :
  Calls Try.prog 9 #[.agg #[.int .i64 a0_0, .int .i64 a0_1, .int .i64 a0_2, .int .i64 a0_3, .int .i64 a0_4, .int .u64 a0_5, .int .i64 a0_6, .slice A0_7 l0_7.length c0_7], .slice A1 l1.length c1, .int .u64 a2] w fun e w' => e = .returned (.bool r) ∧ Below w.heap.size w w' := by
 have hu29 := Try.underlying29
 have HR0_7 := Aside0.mk hr0_7
 have HC0_7 := Aside0.mk hc0_7
 clear hr0_7 hc0_7
 have HR1 := Aside0.mk hr1
 have HC1 := Aside0.mk hc1
 clear hr1 hc1
 have HB := Aside0.mk (Below.refl w.heap.size w)
 have H : ((spigotlaw42_alive.f k).bind fun t1069 => ((spigotref42_Great.f a0_0 a0_1 a0_2 a0_3 a0_4 a0_5 a0_6 l0_7 l1).bind fun t1070 => (if t1070 = true then (spigotlaw42_LeaseBound.j0 k l1 a2 t1069 true a0_0 a0_1 a0_2 a0_3 a0_4 a0_5 a0_6 l0_7) else ((spigotref42_Check.f k a0_0 a0_1 a0_2 a0_3 a0_4 a0_5 a0_6 l0_7).bind fun t1071 => (if t1071 = 0 then (spigotlaw42_LeaseBound.j0 k l1 a2 t1069 (!t1069) a0_0 a0_1 a0_2 a0_3 a0_4 a0_5 a0_6 l0_7) else (spigotlaw42_LeaseBound.j0 k l1 a2 t1069 true a0_0 a0_1 a0_2 a0_3 a0_4 a0_5 a0_6 l0_7)))))) = some r := h
 clear h
 obtain ⟨t1069, A4, H⟩ := bo_ H
 try dsimp only at H
 have HC5 := Aside0.mk H
 clear H
 go_enter Try.func9, Try.ntmps9
 go_upto_region 2 with (first | ((with_reducible refine gate_dst (N := 3) rfl ?_); (try refine ug_ (by rfl) ?_); refine bx_ #[.int .i64 a0_0, .int .i64 a0_1, .int .i64 a0_2, .int .i64 a0_3, .int .i64 a0_4, .int .u64 a0_5, .int .i64 a0_6, .slice A0_7 l0_7.length c0_7] 29 ?_; intro gb1068 hg w6 BK1068 hb; have GW1068 := bz_ w hg; have GE1068 := GW1068; replace HB := bs_ w hb; clear hb hg) | (go_at_call 10; (with_reducible refine (spigotlaw42_alive.calls k  t1069 _ A4.out).mono ?_); rintro e w7 ⟨rfl, hb⟩; replace BK1068 := bb_ BK1068 hb; replace HB := bs_ w hb; clear hb))
 repeat (go_quiet (first | ((with_reducible refine gate_dst (N := 3) rfl ?_); (try refine ug_ (by rfl) ?_); refine bx_ #[.int .i64 a0_0, .int .i64 a0_1, .int .i64 a0_2, .int .i64 a0_3, .int .i64 a0_4, .int .u64 a0_5, .int .i64 a0_6, .slice A0_7 l0_7.length c0_7] 29 ?_; intro gb1068 hg w6 BK1068 hb; have GW1068 := bz_ w hg; have GE1068 := GW1068; replace HB := bs_ w hb; clear hb hg) | (go_at_call 10; (with_reducible refine (spigotlaw42_alive.calls k  t1069 _ A4.out).mono ?_); rintro e w7 ⟨rfl, hb⟩; replace BK1068 := bb_ BK1068 hb; replace HB := bs_ w hb; clear hb)); go_upto_region 2 with (first | ((with_reducible refine gate_dst (N := 3) rfl ?_); (try refine ug_ (by rfl) ?_); refine bx_ #[.int .i64 a0_0, .int .i64 a0_1, .int .i64 a0_2, .int .i64 a0_3, .int .i64 a0_4, .int .u64 a0_5, .int .i64 a0_6, .slice A0_7 l0_7.length c0_7] 29 ?_; intro gb1068 hg w6 BK1068 hb; have GW1068 := bz_ w hg; have GE1068 := GW1068; replace HB := bs_ w hb; clear hb hg) | (go_at_call 10; (with_reducible refine (spigotlaw42_alive.calls k  t1069 _ A4.out).mono ?_); rintro e w7 ⟨rfl, hb⟩; replace BK1068 := bb_ BK1068 hb; replace HB := bs_ w hb; clear hb)))
 (try simp only [Act.put, List.setIfInBounds_toArray, List.set_cons_zero, List.set_cons_succ])
 go_cut [30] (fun v30 wc => ∃ (kq : Nat) (x30_4 : Bool), v30 = .bool x30_4 ∧ Aside0 (spigotlaw42_LeaseBound.j0 kq l1 a2 t1069 x30_4 a0_0 a0_1 a0_2 a0_3 a0_4 a0_5 a0_6 l0_7 = some r) ∧ Aside0 (kq ≤ k) ∧ Aside0 (wc.heap[gb1068]? = some (.cells #[.int .i64 a0_0, .int .i64 a0_1, .int .i64 a0_2, .int .i64 a0_3, .int .i64 a0_4, .int .u64 a0_5, .int .i64 a0_6, (.slice A0_7 l0_7.length c0_7)] 29 (0, 0))) ∧ Aside0 (Below w.heap.size w wc))
 case first =>
  have H := HC5.out
  clear HC5
  obtain ⟨t1070, A8, H⟩ := bo_ H
  try dsimp only at H
  by_cases c9 : t1070 = true
  ·subst c9
   rw [if_pos rfl] at H
   try dsimp only at H
   have H' := Aside0.mk H
   clear H
   replace hc1068 := ce8_ BK1068
   go_wp2_with (first | (go_at_call 11; (with_reducible refine (spigotref42_Great.calls a0_0 a0_1 a0_2 a0_3 a0_4 a0_5 a0_6 _ _ l0_7 _ _ l1 true _ ?side1 ?side2 ?side3 ?side4 A8.out).mono ?_); (case side1 => exact cs_ HR0_7 HB); (case side2 => exact HC0_7.out); (case side3 => exact cs_ HR1 HB); (case side4 => exact HC1.out); rintro e w11 ⟨rfl, hb⟩; replace BK1068 := bb_ BK1068 hb; replace HB := bs_ w hb; clear hb))
   repeat (go_quiet (first | (go_at_call 11; (with_reducible refine (spigotref42_Great.calls a0_0 a0_1 a0_2 a0_3 a0_4 a0_5 a0_6 _ _ l0_7 _ _ l1 true _ ?side1 ?side2 ?side3 ?side4 A8.out).mono ?_); (case side1 => exact cs_ HR0_7 HB); (case side2 => exact HC0_7.out); (case side3 => exact cs_ HR1 HB); (case side4 => exact HC1.out); rintro e w11 ⟨rfl, hb⟩; replace BK1068 := bb_ BK1068 hb; replace HB := bs_ w hb; clear hb)); try go_wp2_with (first | (go_at_call 11; (with_reducible refine (spigotref42_Great.calls a0_0 a0_1 a0_2 a0_3 a0_4 a0_5 a0_6 _ _ l0_7 _ _ l1 true _ ?side1 ?side2 ?side3 ?side4 A8.out).mono ?_); (case side1 => exact cs_ HR0_7 HB); (case side2 => exact HC0_7.out); (case side3 => exact cs_ HR1 HB); (case side4 => exact HC1.out); rintro e w11 ⟨rfl, hb⟩; replace BK1068 := bb_ BK1068 hb; replace HB := bs_ w hb; clear hb)))
   go_meet
   case rel => exact ⟨_, (true), rf_, H', al_, ⟨bq_ BK1068⟩, bw_⟩
  ·replace c9 := Bool.eq_false_iff.mpr c9
   subst c9
   rw [if_neg (show ¬ (false = true) by decide)] at H
   try dsimp only at H
   obtain ⟨t1071, A12, H⟩ := bo_ H
   try dsimp only at H
   by_cases c13 : t1071 = 0
   ·rw [if_pos c13] at H
    have c13b0 : (t1071 == 0) = true := beq_iff_eq.mpr c13
    have c13b1 : (t1071 != 0) = false := bne_eq_false_iff_eq.mpr c13
    clear c13
    (first | rw [c13b0] | (simp only [i64_w, i32_w]; rw [c13b0]) | skip)
    have H' := Aside0.mk H
    clear H
    replace hc1068 := ce8_ BK1068
    go_wp2_with (first | (go_at_call 11; (with_reducible refine (spigotref42_Great.calls a0_0 a0_1 a0_2 a0_3 a0_4 a0_5 a0_6 _ _ l0_7 _ _ l1 false _ ?side1 ?side2 ?side3 ?side4 A8.out).mono ?_); (case side1 => exact cs_ HR0_7 HB); (case side2 => exact HC0_7.out); (case side3 => exact cs_ HR1 HB); (case side4 => exact HC1.out); rintro e w15 ⟨rfl, hb⟩; replace BK1068 := bb_ BK1068 hb; replace HB := bs_ w hb; clear hb; obtain ⟨hcz16_0, hcz16_1, hcz16_2, hcz16_3, hcz16_4, hcz16_5, hcz16_6, hcz16_7, hfz16_0, hfz16_1, hfz16_2, hfz16_3, hfz16_4, hfz16_5, hfz16_6, hfz16_7⟩ := ce8_ BK1068) | (go_at_call 12; (with_reducible refine (spigotref42_Check.calls k a0_0 a0_1 a0_2 a0_3 a0_4 a0_5 a0_6 _ _ l0_7 t1071 _ ?side1 ?side2 A12.out).mono ?_); (case side1 => exact cs_ HR0_7 HB); (case side2 => exact HC0_7.out); rintro e w17 ⟨rfl, hb⟩; replace BK1068 := bb_ BK1068 hb; replace HB := bs_ w hb; clear hb))
    repeat (go_quiet (first | (go_at_call 11; (with_reducible refine (spigotref42_Great.calls a0_0 a0_1 a0_2 a0_3 a0_4 a0_5 a0_6 _ _ l0_7 _ _ l1 false _ ?side1 ?side2 ?side3 ?side4 A8.out).mono ?_); (case side1 => exact cs_ HR0_7 HB); (case side2 => exact HC0_7.out); (case side3 => exact cs_ HR1 HB); (case side4 => exact HC1.out); rintro e w15 ⟨rfl, hb⟩; replace BK1068 := bb_ BK1068 hb; replace HB := bs_ w hb; clear hb; obtain ⟨hcz16_0, hcz16_1, hcz16_2, hcz16_3, hcz16_4, hcz16_5, hcz16_6, hcz16_7, hfz16_0, hfz16_1, hfz16_2, hfz16_3, hfz16_4, hfz16_5, hfz16_6, hfz16_7⟩ := ce8_ BK1068) | (go_at_call 12; (with_reducible refine (spigotref42_Check.calls k a0_0 a0_1 a0_2 a0_3 a0_4 a0_5 a0_6 _ _ l0_7 t1071 _ ?side1 ?side2 A12.out).mono ?_); (case side1 => exact cs_ HR0_7 HB); (case side2 => exact HC0_7.out); rintro e w17 ⟨rfl, hb⟩; replace BK1068 := bb_ BK1068 hb; replace HB := bs_ w hb; clear hb)); try go_wp2_with (first | (go_at_call 11; (with_reducible refine (spigotref42_Great.calls a0_0 a0_1 a0_2 a0_3 a0_4 a0_5 a0_6 _ _ l0_7 _ _ l1 false _ ?side1 ?side2 ?side3 ?side4 A8.out).mono ?_); (case side1 => exact cs_ HR0_7 HB); (case side2 => exact HC0_7.out); (case side3 => exact cs_ HR1 HB); (case side4 => exact HC1.out); rintro e w15 ⟨rfl, hb⟩; replace BK1068 := bb_ BK1068 hb; replace HB := bs_ w hb; clear hb; obtain ⟨hcz16_0, hcz16_1, hcz16_2, hcz16_3, hcz16_4, hcz16_5, hcz16_6, hcz16_7, hfz16_0, hfz16_1, hfz16_2, hfz16_3, hfz16_4, hfz16_5, hfz16_6, hfz16_7⟩ := ce8_ BK1068) | (go_at_call 12; (with_reducible refine (spigotref42_Check.calls k a0_0 a0_1 a0_2 a0_3 a0_4 a0_5 a0_6 _ _ l0_7 t1071 _ ?side1 ?side2 A12.out).mono ?_); (case side1 => exact cs_ HR0_7 HB); (case side2 => exact HC0_7.out); rintro e w17 ⟨rfl, hb⟩; replace BK1068 := bb_ BK1068 hb; replace HB := bs_ w hb; clear hb)))
    go_meet
    case rel => exact ⟨_, (!t1069), rf_, H', al_, ⟨bq_ BK1068⟩, bw_⟩
   ·rw [if_neg c13] at H
    have c13b0 : (t1071 == 0) = false := beq_eq_false_iff_ne.mpr c13
    have c13b1 : (t1071 != 0) = true := bne_iff_ne.mpr c13
    (first | rw [c13b0] | (simp only [i64_w, i32_w]; rw [c13b0]) | skip)
    have H' := Aside0.mk H
    clear H
    replace hc1068 := ce8_ BK1068
    go_wp2_with (first | (go_at_call 11; (with_reducible refine (spigotref42_Great.calls a0_0 a0_1 a0_2 a0_3 a0_4 a0_5 a0_6 _ _ l0_7 _ _ l1 false _ ?side1 ?side2 ?side3 ?side4 A8.out).mono ?_); (case side1 => exact cs_ HR0_7 HB); (case side2 => exact HC0_7.out); (case side3 => exact cs_ HR1 HB); (case side4 => exact HC1.out); rintro e w19 ⟨rfl, hb⟩; replace BK1068 := bb_ BK1068 hb; replace HB := bs_ w hb; clear hb; obtain ⟨hcz20_0, hcz20_1, hcz20_2, hcz20_3, hcz20_4, hcz20_5, hcz20_6, hcz20_7, hfz20_0, hfz20_1, hfz20_2, hfz20_3, hfz20_4, hfz20_5, hfz20_6, hfz20_7⟩ := ce8_ BK1068) | (go_at_call 12; (with_reducible refine (spigotref42_Check.calls k a0_0 a0_1 a0_2 a0_3 a0_4 a0_5 a0_6 _ _ l0_7 t1071 _ ?side1 ?side2 A12.out).mono ?_); (case side1 => exact cs_ HR0_7 HB); (case side2 => exact HC0_7.out); rintro e w21 ⟨rfl, hb⟩; replace BK1068 := bb_ BK1068 hb; replace HB := bs_ w hb; clear hb))
    repeat (go_quiet (first | (go_at_call 11; (with_reducible refine (spigotref42_Great.calls a0_0 a0_1 a0_2 a0_3 a0_4 a0_5 a0_6 _ _ l0_7 _ _ l1 false _ ?side1 ?side2 ?side3 ?side4 A8.out).mono ?_); (case side1 => exact cs_ HR0_7 HB); (case side2 => exact HC0_7.out); (case side3 => exact cs_ HR1 HB); (case side4 => exact HC1.out); rintro e w19 ⟨rfl, hb⟩; replace BK1068 := bb_ BK1068 hb; replace HB := bs_ w hb; clear hb; obtain ⟨hcz20_0, hcz20_1, hcz20_2, hcz20_3, hcz20_4, hcz20_5, hcz20_6, hcz20_7, hfz20_0, hfz20_1, hfz20_2, hfz20_3, hfz20_4, hfz20_5, hfz20_6, hfz20_7⟩ := ce8_ BK1068) | (go_at_call 12; (with_reducible refine (spigotref42_Check.calls k a0_0 a0_1 a0_2 a0_3 a0_4 a0_5 a0_6 _ _ l0_7 t1071 _ ?side1 ?side2 A12.out).mono ?_); (case side1 => exact cs_ HR0_7 HB); (case side2 => exact HC0_7.out); rintro e w21 ⟨rfl, hb⟩; replace BK1068 := bb_ BK1068 hb; replace HB := bs_ w hb; clear hb)); try go_wp2_with (first | (go_at_call 11; (with_reducible refine (spigotref42_Great.calls a0_0 a0_1 a0_2 a0_3 a0_4 a0_5 a0_6 _ _ l0_7 _ _ l1 false _ ?side1 ?side2 ?side3 ?side4 A8.out).mono ?_); (case side1 => exact cs_ HR0_7 HB); (case side2 => exact HC0_7.out); (case side3 => exact cs_ HR1 HB); (case side4 => exact HC1.out); rintro e w19 ⟨rfl, hb⟩; replace BK1068 := bb_ BK1068 hb; replace HB := bs_ w hb; clear hb; obtain ⟨hcz20_0, hcz20_1, hcz20_2, hcz20_3, hcz20_4, hcz20_5, hcz20_6, hcz20_7, hfz20_0, hfz20_1, hfz20_2, hfz20_3, hfz20_4, hfz20_5, hfz20_6, hfz20_7⟩ := ce8_ BK1068) | (go_at_call 12; (with_reducible refine (spigotref42_Check.calls k a0_0 a0_1 a0_2 a0_3 a0_4 a0_5 a0_6 _ _ l0_7 t1071 _ ?side1 ?side2 A12.out).mono ?_); (case side1 => exact cs_ HR0_7 HB); (case side2 => exact HC0_7.out); rintro e w21 ⟨rfl, hb⟩; replace BK1068 := bb_ BK1068 hb; replace HB := bs_ w hb; clear hb)))
    go_meet
    case rel => exact ⟨_, (true), rf_, H', al_, ⟨bq_ BK1068⟩, bw_⟩
 case rest =>
  clear HC5
  try clear c1
  obtain ⟨kq, x30_4, rfl, HA, HJ4, BK1068, HB⟩ := hcut
  cases kq with
  | zero => exact absurd HA.out (by simp [spigotlaw42_LeaseBound.j0])
  | succ kj4 =>
   have H := HA.out
   clear HA
   simp only [spigotlaw42_LeaseBound.j0] at H
   by_cases c22 : x30_4 = true
   ·subst c22
    replace H : (some t1069) = some r := by rw [if_pos rfl] at H; exact H
    obtain rfl := Option.some.inj H
    go_wp2
    repeat (go_quiet (fail); try go_wp2)
    go_ret
    exact fi_
   ·replace c22 := Bool.eq_false_iff.mpr c22
    subst c22
    rw [if_neg (show ¬ (false = true) by decide)] at H
    try dsimp only at H
    have H' := Aside0.mk H
    clear H
    go_wp2
    repeat (go_quiet (fail); try go_wp2)
    go_loopg [8] kj4 (fun kq v8 w' => ∃ (x8_2 : Int), v8 = .int .i64 x8_2 ∧ Aside0 (spigotlaw42_LeaseBound.l0 kq l1 a2 t1069 x8_2 a0_0 a0_1 a0_2 a0_3 a0_4 a0_5 a0_6 l0_7 = some r) ∧ Aside0 (kq ≤ kj4) ∧ Aside0 (w'.heap[gb1068]? = some (.cells #[.int .i64 a0_0, .int .i64 a0_1, .int .i64 a0_2, .int .i64 a0_3, .int .i64 a0_4, .int .u64 a0_5, .int .i64 a0_6, (.slice A0_7 l0_7.length c0_7)] 29 (0, 0))) ∧ Aside0 (Below w.heap.size w w'))
    case atStart => exact ⟨(0), rf_, H', ⟨Nat.le_refl _⟩, ⟨bq_ BK1068⟩, bw_⟩
    case round =>
     clear H'
     try clear c1
     try clear c22
     obtain ⟨x8_2, rfl, HA, HK2, BK1068, HB⟩ := hrel
     cases gk with
     | zero => exact absurd HA.out (by simp [spigotlaw42_LeaseBound.l0])
     | succ k2 =>
      have H := HA.out
      clear HA
      simp only [spigotlaw42_LeaseBound.l0] at H
      by_cases c23 : x8_2 < (l1.length : Int)
      ·rw [if_pos c23] at H
       have c23b0 : decide (x8_2 < (l1.length : Int)) = true := decide_eq_true c23
       clear c23
       by_cases c24 : 0 ≤ x8_2
       rotate_left
       ·rw [if_neg c24] at H; exact absurd H (by simp)
       rw [if_pos c24] at H
       have c24b0 : decide (0 ≤ x8_2) = true := decide_eq_true c24
       clear c24
       by_cases c25 : ((rd_T31 l1 x8_2).f2) > a0_5
       ·rw [if_pos c25] at H
        have c25b0 : decide (a0_5 < ((rd_T31 l1 x8_2).f2)) = true := decide_eq_true c25
        clear c25
        by_cases c26 : (IntKind.u64.wrap (((rd_T31 l1 x8_2).f2) - a0_5)) > a2
        ·rw [if_pos c26] at H
         have c26b0 : decide (a2 < (IntKind.u64.wrap (((rd_T31 l1 x8_2).f2) - a0_5))) = true := decide_eq_true c26
         clear c26
         obtain rfl := Option.some.inj H
         have p1072 : 0 ≤ (x8_2 : Int) := of_decide_eq_true (by first | (with_reducible assumption) | assumption)
         have q1072 : x8_2 < (l1.length : Int) := of_decide_eq_true (by first | (with_reducible assumption) | assumption)
         obtain ⟨ad1072, e1072, hx1072_0, hx1072_1, hx1072_2, hx1072_3⟩ := at_T31 HR1.out x8_2 p1072 q1072
         cases e1072
         replace hx1072_0 := (HB.out.cell (World.block_lt_of_cell? w _ hx1072_0)).trans hx1072_0
         replace hx1072_1 := (HB.out.cell (World.block_lt_of_cell? w _ hx1072_1)).trans hx1072_1
         replace hx1072_2 := (HB.out.cell (World.block_lt_of_cell? w _ hx1072_2)).trans hx1072_2
         replace hx1072_3 := (HB.out.cell (World.block_lt_of_cell? w _ hx1072_3)).trans hx1072_3
         replace p1072 := eq_true p1072
         replace q1072 := eq_true q1072
         replace hc1068 := ce8_ BK1068
         have p1073 : 0 ≤ (x8_2 : Int) := of_decide_eq_true (by first | (with_reducible assumption) | assumption)
         have q1073 : x8_2 < (l1.length : Int) := of_decide_eq_true (by first | (with_reducible assumption) | assumption)
         obtain ⟨ad1073, e1073, hx1073_0, hx1073_1, hx1073_2, hx1073_3⟩ := at_T31 HR1.out x8_2 p1073 q1073
         obtain rfl : ad1072 = ad1073 := (by injection e1073)
         replace hx1073_0 := (HB.out.cell (World.block_lt_of_cell? w _ hx1073_0)).trans hx1073_0
         replace hx1073_1 := (HB.out.cell (World.block_lt_of_cell? w _ hx1073_1)).trans hx1073_1
         replace hx1073_2 := (HB.out.cell (World.block_lt_of_cell? w _ hx1073_2)).trans hx1073_2
         replace hx1073_3 := (HB.out.cell (World.block_lt_of_cell? w _ hx1073_3)).trans hx1073_3
         replace p1073 := eq_true p1073
         replace q1073 := eq_true q1073
         go_wp2
         repeat (go_quiet (fail); try go_wp2)
         go_ret
         exact fi_
        ·rw [if_neg c26] at H
         have c26b0 : decide (a2 < (IntKind.u64.wrap (((rd_T31 l1 x8_2).f2) - a0_5))) = false := decide_eq_false c26
         clear c26
         have H' := Aside0.mk H
         clear H
         have p1072 : 0 ≤ (x8_2 : Int) := of_decide_eq_true (by first | (with_reducible assumption) | assumption)
         have q1072 : x8_2 < (l1.length : Int) := of_decide_eq_true (by first | (with_reducible assumption) | assumption)
         obtain ⟨ad1072, e1072, hx1072_0, hx1072_1, hx1072_2, hx1072_3⟩ := at_T31 HR1.out x8_2 p1072 q1072
         cases e1072
         replace hx1072_0 := (HB.out.cell (World.block_lt_of_cell? w _ hx1072_0)).trans hx1072_0
         replace hx1072_1 := (HB.out.cell (World.block_lt_of_cell? w _ hx1072_1)).trans hx1072_1
         replace hx1072_2 := (HB.out.cell (World.block_lt_of_cell? w _ hx1072_2)).trans hx1072_2
         replace hx1072_3 := (HB.out.cell (World.block_lt_of_cell? w _ hx1072_3)).trans hx1072_3
         replace p1072 := eq_true p1072
         replace q1072 := eq_true q1072
         replace hc1068 := ce8_ BK1068
         have p1073 : 0 ≤ (x8_2 : Int) := of_decide_eq_true (by first | (with_reducible assumption) | assumption)
         have q1073 : x8_2 < (l1.length : Int) := of_decide_eq_true (by first | (with_reducible assumption) | assumption)
         obtain ⟨ad1073, e1073, hx1073_0, hx1073_1, hx1073_2, hx1073_3⟩ := at_T31 HR1.out x8_2 p1073 q1073
         obtain rfl : ad1072 = ad1073 := (by injection e1073)
         replace hx1073_0 := (HB.out.cell (World.block_lt_of_cell? w _ hx1073_0)).trans hx1073_0
         replace hx1073_1 := (HB.out.cell (World.block_lt_of_cell? w _ hx1073_1)).trans hx1073_1
         replace hx1073_2 := (HB.out.cell (World.block_lt_of_cell? w _ hx1073_2)).trans hx1073_2
         replace hx1073_3 := (HB.out.cell (World.block_lt_of_cell? w _ hx1073_3)).trans hx1073_3
         replace p1073 := eq_true p1073
         replace q1073 := eq_true q1073
         go_wp2
         repeat (go_quiet (fail); try go_wp2)
         go_roundg k2
         case measure => have := HJ4.out; have := HK2.out; omega
         case rel => exact ⟨(wrap64 (x8_2 + 1)), rf_, H', ⟨by have := HJ4.out; have := HK2.out; omega⟩, ⟨bq_ BK1068⟩, bw_⟩
       ·rw [if_neg c25] at H
        have c25b0 : decide (a0_5 < ((rd_T31 l1 x8_2).f2)) = false := decide_eq_false c25
        clear c25
        have H' := Aside0.mk H
        clear H
        have p1072 : 0 ≤ (x8_2 : Int) := of_decide_eq_true (by first | (with_reducible assumption) | assumption)
        have q1072 : x8_2 < (l1.length : Int) := of_decide_eq_true (by first | (with_reducible assumption) | assumption)
        obtain ⟨ad1072, e1072, hx1072_0, hx1072_1, hx1072_2, hx1072_3⟩ := at_T31 HR1.out x8_2 p1072 q1072
        cases e1072
        replace hx1072_0 := (HB.out.cell (World.block_lt_of_cell? w _ hx1072_0)).trans hx1072_0
        replace hx1072_1 := (HB.out.cell (World.block_lt_of_cell? w _ hx1072_1)).trans hx1072_1
        replace hx1072_2 := (HB.out.cell (World.block_lt_of_cell? w _ hx1072_2)).trans hx1072_2
        replace hx1072_3 := (HB.out.cell (World.block_lt_of_cell? w _ hx1072_3)).trans hx1072_3
        replace p1072 := eq_true p1072
        replace q1072 := eq_true q1072
        replace hc1068 := ce8_ BK1068
        go_wp2
        repeat (go_quiet (fail); try go_wp2)
        go_roundg k2
        case measure => have := HJ4.out; have := HK2.out; omega
        case rel => exact ⟨(wrap64 (x8_2 + 1)), rf_, H', ⟨by have := HJ4.out; have := HK2.out; omega⟩, ⟨bq_ BK1068⟩, bw_⟩
      ·rw [if_neg c23] at H
       have c23b0 : decide (x8_2 < (l1.length : Int)) = false := decide_eq_false c23
       clear c23
       obtain ⟨⟨t1074, t1075, t1076, t1077, t1078, t1079, t1080, t1081, t1084, t1087⟩, A30, H⟩ := bo_ H
       try dsimp only at H
       by_cases c31 : t1087 = 0
       ·rw [if_pos c31] at H
        have c31b0 : (t1087 == 0) = true := beq_iff_eq.mpr c31
        have c31b1 : (t1087 != 0) = false := bne_eq_false_iff_eq.mpr c31
        clear c31
        obtain ⟨⟨t1089, t1090⟩, A32, H⟩ := bo_ H
        try dsimp only at H
        obtain ⟨⟨t1091, t1092⟩, A33, H⟩ := bo_ H
        try dsimp only at H
        obtain ⟨⟨t1093, t1094⟩, A34, H⟩ := bo_ H
        try dsimp only at H
        by_cases c35 : t1069 = true
        ·subst c35
         rw [if_pos rfl] at H
         try dsimp only at H
         by_cases c36 : t1090 = 0
         rotate_left
         ·rw [if_neg c36] at H; exact absurd H (by simp)
         rw [if_pos c36] at H
         have c36b0 : (t1090 == 0) = true := beq_iff_eq.mpr c36
         have c36b1 : (t1090 != 0) = false := bne_eq_false_iff_eq.mpr c36
         clear c36
         by_cases c37 : t1089 ≥ 0
         rotate_left
         ·rw [if_neg c37] at H; exact absurd H (by simp)
         rw [if_pos c37] at H
         have c37b0 : decide (0 ≤ t1089) = true := decide_eq_true c37
         clear c37
         by_cases c38 : t1092 = 0
         rotate_left
         ·rw [if_neg c38] at H; exact absurd H (by simp)
         rw [if_pos c38] at H
         have c38b0 : (t1092 == 0) = true := beq_iff_eq.mpr c38
         have c38b1 : (t1092 != 0) = false := bne_eq_false_iff_eq.mpr c38
         clear c38
         by_cases c39 : t1091 ≥ 0
         rotate_left
         ·rw [if_neg c39] at H; exact absurd H (by simp)
         rw [if_pos c39] at H
         have c39b0 : decide (0 ≤ t1091) = true := decide_eq_true c39
         clear c39
         by_cases c40 : t1094 = 0
         rotate_left
         ·rw [if_neg c40] at H; exact absurd H (by simp)
         rw [if_pos c40] at H
         have c40b0 : (t1094 == 0) = true := beq_iff_eq.mpr c40
         have c40b1 : (t1094 != 0) = false := bne_eq_false_iff_eq.mpr c40
         clear c40
         obtain ⟨t1095, A41, H⟩ := bo_ H
         replace H : (if t1095 = 0 then (some (decide ((wrap64 ((wrap64 (t1089 + t1091)) + t1077)) ≤ t1093))) else (none)) = some r := H
         by_cases c42 : t1095 = 0
         rotate_left
         ·rw [if_neg c42] at H; exact absurd H (by simp)
         rw [if_pos c42] at H
         have c42b0 : (t1095 == 0) = true := beq_iff_eq.mpr c42
         have c42b1 : (t1095 != 0) = false := bne_eq_false_iff_eq.mpr c42
         clear c42
         obtain rfl := Option.some.inj H
         replace hc1068 := ce8_ BK1068
         go_wp2_with (first | (go_at_call 16; (with_reducible refine (lease_Run.calls k2 a0_0 a0_1 a0_2 a0_3 a0_4 a0_5 a0_6 _ _ l0_7 _ _ l1 t1074 t1075 t1076 t1077 t1078 t1079 t1080 t1081 t1084 t1087 _ ?side1 ?side2 ?side3 ?side4 A30.out).mono ?_); (case side1 => exact cs_ HR0_7 HB); (case side2 => exact HC0_7.out); (case side3 => exact cs_ HR1 HB); (case side4 => exact HC1.out); rintro e w44 ⟨v1082, v1085, rfl, ho0, ho1, hb⟩; have HO1083 := Aside0.mk (Kd.R_lower ho0 (below_size bh_)); have HO1086 := Aside0.mk (Kd.R_lower ho1 (below_size bh_)); replace BK1068 := bb_ BK1068 hb; replace HB := bs_ w hb; (try clear hb); (try clear hb2); (try clear hk); (try clear hi); (try clear ho0); (try clear ho1)) | ((with_reducible refine gate_dst (N := 9) rfl ?_); (try refine ug_ (by rfl) ?_); refine bx_ #[.int .i64 0, .int .i64 0, .int .i64 0, .int .i64 0, .int .i64 0, .int .u64 0, .int .i64 0, .slice none 0 0] 29 ?_; intro gb1088 hg w45 BK1088 hb; have GW1088 := bz_ w hg; have GE1088 := GW1088; have NB1068_1088 := bn_ BK1068 hg; have NB1088_1068 := bm_ BK1068 hg; replace HO1083 := rb_ HO1083 hb; replace HO1086 := rb_ HO1086 hb; replace BK1068 := bb_ BK1068 hb; replace HB := bs_ w hb; clear hb hg; have hnb46 := NB1088_1068.out; have hnc46 := NB1068_1088.out; obtain ⟨hcz47_0, hcz47_1, hcz47_2, hcz47_3, hcz47_4, hcz47_5, hcz47_6, hcz47_7, hfz47_0, hfz47_1, hfz47_2, hfz47_3, hfz47_4, hfz47_5, hfz47_6, hfz47_7⟩ := ce8_ BK1088; obtain ⟨Ao48, co48, eo48⟩ := Kd.R_slice HO1083.out; subst eo48; obtain ⟨Ao49, co49, eo49⟩ := Kd.R_slice HO1086.out; subst eo49) | (go_at_call 19; (with_reducible refine (lease_Spent.calls k2 _ _ l1 _ _ t1084 t1089 t1090 _ ?side1 ?side2 ?side3 ?side4 A32.out).mono ?_); (case side1 => exact Kd.C_below HR1.out bh_); (case side2 => exact HC1.out); (case side3 => refine (Kd.R_reads' (e := 2) (base := w.heap.size) (ok := fun k_ => some k_ ≠ (.slice Ao48 t1081.length co48 : Value).ownBlock) (n := t1084.length) (c := co49) ?_).2.2; exact (by (with_reducible repeat (first | apply Kd.R_alloc | apply Kd.R_drewN | apply Kd.R_drew)); exact (Kd.R_mono (Kd.R_far (p := ⟨gb1088, 7, none⟩) (Kd.R_far (p := ⟨gb1088, 6, none⟩) (Kd.R_far (p := ⟨gb1088, 5, none⟩) (Kd.R_far (p := ⟨gb1088, 4, none⟩) (Kd.R_far (p := ⟨gb1088, 3, none⟩) (Kd.R_far (p := ⟨gb1088, 2, none⟩) (Kd.R_far (p := ⟨gb1088, 1, none⟩) (Kd.R_far (p := ⟨gb1088, 0, none⟩) (Kd.R_types HO1086.out BK1088.out (by decide)) (fun _ hk => hk.2) (.int .i64 t1074)) (fun _ hk => hk.2) (.int .i64 t1075)) (fun _ hk => hk.2) (.int .i64 t1076)) (fun _ hk => hk.2) (.int .i64 t1077)) (fun _ hk => hk.2) (.int .i64 t1078)) (fun _ hk => hk.2) (.int .u64 t1079)) (fun _ hk => hk.2) (.int .i64 t1080)) (fun _ hk => hk.2) (.slice Ao48 t1081.length co48)) (fun _ h_ => h_.1)))); (case side4 => exact (Kd.R_reads' HO1086.out).2.1); rintro e w50 ⟨rfl, hb⟩; replace HO1083 := Aside0.mk (Kd.R_below (by (with_reducible repeat (first | apply Kd.R_alloc | apply Kd.R_drewN | apply Kd.R_drew)); exact (Kd.R_mono (Kd.R_far (p := ⟨gb1088, 7, none⟩) (Kd.R_far (p := ⟨gb1088, 6, none⟩) (Kd.R_far (p := ⟨gb1088, 5, none⟩) (Kd.R_far (p := ⟨gb1088, 4, none⟩) (Kd.R_far (p := ⟨gb1088, 3, none⟩) (Kd.R_far (p := ⟨gb1088, 2, none⟩) (Kd.R_far (p := ⟨gb1088, 1, none⟩) (Kd.R_far (p := ⟨gb1088, 0, none⟩) (Kd.R_types HO1083.out BK1088.out (by decide)) (fun _ hk => hk.2) (.int .i64 t1074)) (fun _ hk => hk.2) (.int .i64 t1075)) (fun _ hk => hk.2) (.int .i64 t1076)) (fun _ hk => hk.2) (.int .i64 t1077)) (fun _ hk => hk.2) (.int .i64 t1078)) (fun _ hk => hk.2) (.int .u64 t1079)) (fun _ hk => hk.2) (.int .i64 t1080)) (fun _ hk => hk.2) (.slice Ao48 t1081.length co48)) (fun _ h_ => h_.1))) hb); replace HO1086 := Aside0.mk (Kd.R_below (by (with_reducible repeat (first | apply Kd.R_alloc | apply Kd.R_drewN | apply Kd.R_drew)); exact (Kd.R_mono (Kd.R_far (p := ⟨gb1088, 7, none⟩) (Kd.R_far (p := ⟨gb1088, 6, none⟩) (Kd.R_far (p := ⟨gb1088, 5, none⟩) (Kd.R_far (p := ⟨gb1088, 4, none⟩) (Kd.R_far (p := ⟨gb1088, 3, none⟩) (Kd.R_far (p := ⟨gb1088, 2, none⟩) (Kd.R_far (p := ⟨gb1088, 1, none⟩) (Kd.R_far (p := ⟨gb1088, 0, none⟩) (Kd.R_types HO1086.out BK1088.out (by decide)) (fun _ hk => hk.2) (.int .i64 t1074)) (fun _ hk => hk.2) (.int .i64 t1075)) (fun _ hk => hk.2) (.int .i64 t1076)) (fun _ hk => hk.2) (.int .i64 t1077)) (fun _ hk => hk.2) (.int .i64 t1078)) (fun _ hk => hk.2) (.int .u64 t1079)) (fun _ hk => hk.2) (.int .i64 t1080)) (fun _ hk => hk.2) (.slice Ao48 t1081.length co48)) (fun _ h_ => h_.1))) hb); replace BK1068 := bf_ BK1068 hb; replace BK1088 := Aside0.mk (blk_below (g := gb1088) (o := .cells #[.int .i64 t1074, .int .i64 t1075, .int .i64 t1076, .int .i64 t1077, .int .i64 t1078, .int .u64 t1079, .int .i64 t1080, .slice Ao48 t1081.length co48] 29 (0, 0)) (blk_put (cs := #[.int .i64 t1074, .int .i64 t1075, .int .i64 t1076, .int .i64 t1077, .int .i64 t1078, .int .u64 t1079, .int .i64 t1080, .slice none 0 0]) (blk_put (cs := #[.int .i64 t1074, .int .i64 t1075, .int .i64 t1076, .int .i64 t1077, .int .i64 t1078, .int .u64 t1079, .int .i64 0, .slice none 0 0]) (blk_put (cs := #[.int .i64 t1074, .int .i64 t1075, .int .i64 t1076, .int .i64 t1077, .int .i64 t1078, .int .u64 0, .int .i64 0, .slice none 0 0]) (blk_put (cs := #[.int .i64 t1074, .int .i64 t1075, .int .i64 t1076, .int .i64 t1077, .int .i64 0, .int .u64 0, .int .i64 0, .slice none 0 0]) (blk_put (cs := #[.int .i64 t1074, .int .i64 t1075, .int .i64 t1076, .int .i64 0, .int .i64 0, .int .u64 0, .int .i64 0, .slice none 0 0]) (blk_put (cs := #[.int .i64 t1074, .int .i64 t1075, .int .i64 0, .int .i64 0, .int .i64 0, .int .u64 0, .int .i64 0, .slice none 0 0]) (blk_put (cs := #[.int .i64 t1074, .int .i64 0, .int .i64 0, .int .i64 0, .int .i64 0, .int .u64 0, .int .i64 0, .slice none 0 0]) (blk_put (cs := #[.int .i64 0, .int .i64 0, .int .i64 0, .int .i64 0, .int .i64 0, .int .u64 0, .int .i64 0, .slice none 0 0]) (bq_ BK1088) 0 _ rfl) 1 _ rfl) 2 _ rfl) 3 _ rfl) 4 _ rfl) 5 _ rfl) 6 _ rfl) 7 _ rfl) hb); replace HB := bs_ w hb; clear hb; obtain ⟨hcz51_0, hcz51_1, hcz51_2, hcz51_3, hcz51_4, hcz51_5, hcz51_6, hcz51_7, hfz51_0, hfz51_1, hfz51_2, hfz51_3, hfz51_4, hfz51_5, hfz51_6, hfz51_7⟩ := ce8_ BK1088) | (go_at_call 15; (with_reducible refine (lease_Out.calls k2 t1074 t1075 t1076 t1077 t1078 t1079 t1080 _ _ t1081 t1091 t1092 _ ?side1 ?side2 A33.out).mono ?_); (case side1 => exact cr_ HO1083); (case side2 => exact (Kd.R_reads' HO1083.out).2.1); rintro e w52 ⟨rfl, hb⟩; replace HO1083 := rb_ HO1083 hb; replace HO1086 := rb_ HO1086 hb; replace BK1068 := bb_ BK1068 hb; replace BK1088 := bb_ BK1088 hb; replace HB := bs_ w hb; clear hb; obtain ⟨hcz53_0, hcz53_1, hcz53_2, hcz53_3, hcz53_4, hcz53_5, hcz53_6, hcz53_7, hfz53_0, hfz53_1, hfz53_2, hfz53_3, hfz53_4, hfz53_5, hfz53_6, hfz53_7⟩ := ce8_ BK1068) | (go_at_call 25; (with_reducible refine (lease_Bound.calls k2 a0_0 a0_1 a0_2 a0_3 a0_4 a0_5 a0_6 _ _ l0_7 a2 t1093 t1094 _ ?side1 ?side2 A34.out).mono ?_); (case side1 => exact cs_ HR0_7 HB); (case side2 => exact HC0_7.out); rintro e w54 ⟨rfl, hb⟩; replace HO1083 := rb_ HO1083 hb; replace HO1086 := rb_ HO1086 hb; replace BK1068 := bb_ BK1068 hb; replace BK1088 := bb_ BK1088 hb; replace HB := bs_ w hb; clear hb; obtain ⟨hcz55_0, hcz55_1, hcz55_2, hcz55_3, hcz55_4, hcz55_5, hcz55_6, hcz55_7, hfz55_0, hfz55_1, hfz55_2, hfz55_3, hfz55_4, hfz55_5, hfz55_6, hfz55_7⟩ := ce8_ BK1088) | (go_at_call 12; (with_reducible refine (spigotref42_Check.calls k2 t1074 t1075 t1076 t1077 t1078 t1079 t1080 _ _ t1081 t1095 _ ?side1 ?side2 A41.out).mono ?_); (case side1 => exact cr_ HO1083); (case side2 => exact (Kd.R_reads' HO1083.out).2.1); rintro e w56 ⟨rfl, hb⟩; replace HO1083 := rb_ HO1083 hb; replace HO1086 := rb_ HO1086 hb; replace BK1068 := bb_ BK1068 hb; replace BK1088 := bb_ BK1088 hb; replace HB := bs_ w hb; clear hb; obtain ⟨hcz57_0, hcz57_1, hcz57_2, hcz57_3, hcz57_4, hcz57_5, hcz57_6, hcz57_7, hfz57_0, hfz57_1, hfz57_2, hfz57_3, hfz57_4, hfz57_5, hfz57_6, hfz57_7⟩ := ce8_ BK1088))
         repeat (go_quiet (first | (go_at_call 16; (with_reducible refine (lease_Run.calls k2 a0_0 a0_1 a0_2 a0_3 a0_4 a0_5 a0_6 _ _ l0_7 _ _ l1 t1074 t1075 t1076 t1077 t1078 t1079 t1080 t1081 t1084 t1087 _ ?side1 ?side2 ?side3 ?side4 A30.out).mono ?_); (case side1 => exact cs_ HR0_7 HB); (case side2 => exact HC0_7.out); (case side3 => exact cs_ HR1 HB); (case side4 => exact HC1.out); rintro e w44 ⟨v1082, v1085, rfl, ho0, ho1, hb⟩; have HO1083 := Aside0.mk (Kd.R_lower ho0 (below_size bh_)); have HO1086 := Aside0.mk (Kd.R_lower ho1 (below_size bh_)); replace BK1068 := bb_ BK1068 hb; replace HB := bs_ w hb; (try clear hb); (try clear hb2); (try clear hk); (try clear hi); (try clear ho0); (try clear ho1)) | ((with_reducible refine gate_dst (N := 9) rfl ?_); (try refine ug_ (by rfl) ?_); refine bx_ #[.int .i64 0, .int .i64 0, .int .i64 0, .int .i64 0, .int .i64 0, .int .u64 0, .int .i64 0, .slice none 0 0] 29 ?_; intro gb1088 hg w45 BK1088 hb; have GW1088 := bz_ w hg; have GE1088 := GW1088; have NB1068_1088 := bn_ BK1068 hg; have NB1088_1068 := bm_ BK1068 hg; replace HO1083 := rb_ HO1083 hb; replace HO1086 := rb_ HO1086 hb; replace BK1068 := bb_ BK1068 hb; replace HB := bs_ w hb; clear hb hg; have hnb46 := NB1088_1068.out; have hnc46 := NB1068_1088.out; obtain ⟨hcz47_0, hcz47_1, hcz47_2, hcz47_3, hcz47_4, hcz47_5, hcz47_6, hcz47_7, hfz47_0, hfz47_1, hfz47_2, hfz47_3, hfz47_4, hfz47_5, hfz47_6, hfz47_7⟩ := ce8_ BK1088; obtain ⟨Ao48, co48, eo48⟩ := Kd.R_slice HO1083.out; subst eo48; obtain ⟨Ao49, co49, eo49⟩ := Kd.R_slice HO1086.out; subst eo49) | (go_at_call 19; (with_reducible refine (lease_Spent.calls k2 _ _ l1 _ _ t1084 t1089 t1090 _ ?side1 ?side2 ?side3 ?side4 A32.out).mono ?_); (case side1 => exact Kd.C_below HR1.out bh_); (case side2 => exact HC1.out); (case side3 => refine (Kd.R_reads' (e := 2) (base := w.heap.size) (ok := fun k_ => some k_ ≠ (.slice Ao48 t1081.length co48 : Value).ownBlock) (n := t1084.length) (c := co49) ?_).2.2; exact (by (with_reducible repeat (first | apply Kd.R_alloc | apply Kd.R_drewN | apply Kd.R_drew)); exact (Kd.R_mono (Kd.R_far (p := ⟨gb1088, 7, none⟩) (Kd.R_far (p := ⟨gb1088, 6, none⟩) (Kd.R_far (p := ⟨gb1088, 5, none⟩) (Kd.R_far (p := ⟨gb1088, 4, none⟩) (Kd.R_far (p := ⟨gb1088, 3, none⟩) (Kd.R_far (p := ⟨gb1088, 2, none⟩) (Kd.R_far (p := ⟨gb1088, 1, none⟩) (Kd.R_far (p := ⟨gb1088, 0, none⟩) (Kd.R_types HO1086.out BK1088.out (by decide)) (fun _ hk => hk.2) (.int .i64 t1074)) (fun _ hk => hk.2) (.int .i64 t1075)) (fun _ hk => hk.2) (.int .i64 t1076)) (fun _ hk => hk.2) (.int .i64 t1077)) (fun _ hk => hk.2) (.int .i64 t1078)) (fun _ hk => hk.2) (.int .u64 t1079)) (fun _ hk => hk.2) (.int .i64 t1080)) (fun _ hk => hk.2) (.slice Ao48 t1081.length co48)) (fun _ h_ => h_.1)))); (case side4 => exact (Kd.R_reads' HO1086.out).2.1); rintro e w50 ⟨rfl, hb⟩; replace HO1083 := Aside0.mk (Kd.R_below (by (with_reducible repeat (first | apply Kd.R_alloc | apply Kd.R_drewN | apply Kd.R_drew)); exact (Kd.R_mono (Kd.R_far (p := ⟨gb1088, 7, none⟩) (Kd.R_far (p := ⟨gb1088, 6, none⟩) (Kd.R_far (p := ⟨gb1088, 5, none⟩) (Kd.R_far (p := ⟨gb1088, 4, none⟩) (Kd.R_far (p := ⟨gb1088, 3, none⟩) (Kd.R_far (p := ⟨gb1088, 2, none⟩) (Kd.R_far (p := ⟨gb1088, 1, none⟩) (Kd.R_far (p := ⟨gb1088, 0, none⟩) (Kd.R_types HO1083.out BK1088.out (by decide)) (fun _ hk => hk.2) (.int .i64 t1074)) (fun _ hk => hk.2) (.int .i64 t1075)) (fun _ hk => hk.2) (.int .i64 t1076)) (fun _ hk => hk.2) (.int .i64 t1077)) (fun _ hk => hk.2) (.int .i64 t1078)) (fun _ hk => hk.2) (.int .u64 t1079)) (fun _ hk => hk.2) (.int .i64 t1080)) (fun _ hk => hk.2) (.slice Ao48 t1081.length co48)) (fun _ h_ => h_.1))) hb); replace HO1086 := Aside0.mk (Kd.R_below (by (with_reducible repeat (first | apply Kd.R_alloc | apply Kd.R_drewN | apply Kd.R_drew)); exact (Kd.R_mono (Kd.R_far (p := ⟨gb1088, 7, none⟩) (Kd.R_far (p := ⟨gb1088, 6, none⟩) (Kd.R_far (p := ⟨gb1088, 5, none⟩) (Kd.R_far (p := ⟨gb1088, 4, none⟩) (Kd.R_far (p := ⟨gb1088, 3, none⟩) (Kd.R_far (p := ⟨gb1088, 2, none⟩) (Kd.R_far (p := ⟨gb1088, 1, none⟩) (Kd.R_far (p := ⟨gb1088, 0, none⟩) (Kd.R_types HO1086.out BK1088.out (by decide)) (fun _ hk => hk.2) (.int .i64 t1074)) (fun _ hk => hk.2) (.int .i64 t1075)) (fun _ hk => hk.2) (.int .i64 t1076)) (fun _ hk => hk.2) (.int .i64 t1077)) (fun _ hk => hk.2) (.int .i64 t1078)) (fun _ hk => hk.2) (.int .u64 t1079)) (fun _ hk => hk.2) (.int .i64 t1080)) (fun _ hk => hk.2) (.slice Ao48 t1081.length co48)) (fun _ h_ => h_.1))) hb); replace BK1068 := bf_ BK1068 hb; replace BK1088 := Aside0.mk (blk_below (g := gb1088) (o := .cells #[.int .i64 t1074, .int .i64 t1075, .int .i64 t1076, .int .i64 t1077, .int .i64 t1078, .int .u64 t1079, .int .i64 t1080, .slice Ao48 t1081.length co48] 29 (0, 0)) (blk_put (cs := #[.int .i64 t1074, .int .i64 t1075, .int .i64 t1076, .int .i64 t1077, .int .i64 t1078, .int .u64 t1079, .int .i64 t1080, .slice none 0 0]) (blk_put (cs := #[.int .i64 t1074, .int .i64 t1075, .int .i64 t1076, .int .i64 t1077, .int .i64 t1078, .int .u64 t1079, .int .i64 0, .slice none 0 0]) (blk_put (cs := #[.int .i64 t1074, .int .i64 t1075, .int .i64 t1076, .int .i64 t1077, .int .i64 t1078, .int .u64 0, .int .i64 0, .slice none 0 0]) (blk_put (cs := #[.int .i64 t1074, .int .i64 t1075, .int .i64 t1076, .int .i64 t1077, .int .i64 0, .int .u64 0, .int .i64 0, .slice none 0 0]) (blk_put (cs := #[.int .i64 t1074, .int .i64 t1075, .int .i64 t1076, .int .i64 0, .int .i64 0, .int .u64 0, .int .i64 0, .slice none 0 0]) (blk_put (cs := #[.int .i64 t1074, .int .i64 t1075, .int .i64 0, .int .i64 0, .int .i64 0, .int .u64 0, .int .i64 0, .slice none 0 0]) (blk_put (cs := #[.int .i64 t1074, .int .i64 0, .int .i64 0, .int .i64 0, .int .i64 0, .int .u64 0, .int .i64 0, .slice none 0 0]) (blk_put (cs := #[.int .i64 0, .int .i64 0, .int .i64 0, .int .i64 0, .int .i64 0, .int .u64 0, .int .i64 0, .slice none 0 0]) (bq_ BK1088) 0 _ rfl) 1 _ rfl) 2 _ rfl) 3 _ rfl) 4 _ rfl) 5 _ rfl) 6 _ rfl) 7 _ rfl) hb); replace HB := bs_ w hb; clear hb; obtain ⟨hcz51_0, hcz51_1, hcz51_2, hcz51_3, hcz51_4, hcz51_5, hcz51_6, hcz51_7, hfz51_0, hfz51_1, hfz51_2, hfz51_3, hfz51_4, hfz51_5, hfz51_6, hfz51_7⟩ := ce8_ BK1088) | (go_at_call 15; (with_reducible refine (lease_Out.calls k2 t1074 t1075 t1076 t1077 t1078 t1079 t1080 _ _ t1081 t1091 t1092 _ ?side1 ?side2 A33.out).mono ?_); (case side1 => exact cr_ HO1083); (case side2 => exact (Kd.R_reads' HO1083.out).2.1); rintro e w52 ⟨rfl, hb⟩; replace HO1083 := rb_ HO1083 hb; replace HO1086 := rb_ HO1086 hb; replace BK1068 := bb_ BK1068 hb; replace BK1088 := bb_ BK1088 hb; replace HB := bs_ w hb; clear hb; obtain ⟨hcz53_0, hcz53_1, hcz53_2, hcz53_3, hcz53_4, hcz53_5, hcz53_6, hcz53_7, hfz53_0, hfz53_1, hfz53_2, hfz53_3, hfz53_4, hfz53_5, hfz53_6, hfz53_7⟩ := ce8_ BK1068) | (go_at_call 25; (with_reducible refine (lease_Bound.calls k2 a0_0 a0_1 a0_2 a0_3 a0_4 a0_5 a0_6 _ _ l0_7 a2 t1093 t1094 _ ?side1 ?side2 A34.out).mono ?_); (case side1 => exact cs_ HR0_7 HB); (case side2 => exact HC0_7.out); rintro e w54 ⟨rfl, hb⟩; replace HO1083 := rb_ HO1083 hb; replace HO1086 := rb_ HO1086 hb; replace BK1068 := bb_ BK1068 hb; replace BK1088 := bb_ BK1088 hb; replace HB := bs_ w hb; clear hb; obtain ⟨hcz55_0, hcz55_1, hcz55_2, hcz55_3, hcz55_4, hcz55_5, hcz55_6, hcz55_7, hfz55_0, hfz55_1, hfz55_2, hfz55_3, hfz55_4, hfz55_5, hfz55_6, hfz55_7⟩ := ce8_ BK1088) | (go_at_call 12; (with_reducible refine (spigotref42_Check.calls k2 t1074 t1075 t1076 t1077 t1078 t1079 t1080 _ _ t1081 t1095 _ ?side1 ?side2 A41.out).mono ?_); (case side1 => exact cr_ HO1083); (case side2 => exact (Kd.R_reads' HO1083.out).2.1); rintro e w56 ⟨rfl, hb⟩; replace HO1083 := rb_ HO1083 hb; replace HO1086 := rb_ HO1086 hb; replace BK1068 := bb_ BK1068 hb; replace BK1088 := bb_ BK1088 hb; replace HB := bs_ w hb; clear hb; obtain ⟨hcz57_0, hcz57_1, hcz57_2, hcz57_3, hcz57_4, hcz57_5, hcz57_6, hcz57_7, hfz57_0, hfz57_1, hfz57_2, hfz57_3, hfz57_4, hfz57_5, hfz57_6, hfz57_7⟩ := ce8_ BK1088)); try go_wp2_with (first | (go_at_call 16; (with_reducible refine (lease_Run.calls k2 a0_0 a0_1 a0_2 a0_3 a0_4 a0_5 a0_6 _ _ l0_7 _ _ l1 t1074 t1075 t1076 t1077 t1078 t1079 t1080 t1081 t1084 t1087 _ ?side1 ?side2 ?side3 ?side4 A30.out).mono ?_); (case side1 => exact cs_ HR0_7 HB); (case side2 => exact HC0_7.out); (case side3 => exact cs_ HR1 HB); (case side4 => exact HC1.out); rintro e w44 ⟨v1082, v1085, rfl, ho0, ho1, hb⟩; have HO1083 := Aside0.mk (Kd.R_lower ho0 (below_size bh_)); have HO1086 := Aside0.mk (Kd.R_lower ho1 (below_size bh_)); replace BK1068 := bb_ BK1068 hb; replace HB := bs_ w hb; (try clear hb); (try clear hb2); (try clear hk); (try clear hi); (try clear ho0); (try clear ho1)) | ((with_reducible refine gate_dst (N := 9) rfl ?_); (try refine ug_ (by rfl) ?_); refine bx_ #[.int .i64 0, .int .i64 0, .int .i64 0, .int .i64 0, .int .i64 0, .int .u64 0, .int .i64 0, .slice none 0 0] 29 ?_; intro gb1088 hg w45 BK1088 hb; have GW1088 := bz_ w hg; have GE1088 := GW1088; have NB1068_1088 := bn_ BK1068 hg; have NB1088_1068 := bm_ BK1068 hg; replace HO1083 := rb_ HO1083 hb; replace HO1086 := rb_ HO1086 hb; replace BK1068 := bb_ BK1068 hb; replace HB := bs_ w hb; clear hb hg; have hnb46 := NB1088_1068.out; have hnc46 := NB1068_1088.out; obtain ⟨hcz47_0, hcz47_1, hcz47_2, hcz47_3, hcz47_4, hcz47_5, hcz47_6, hcz47_7, hfz47_0, hfz47_1, hfz47_2, hfz47_3, hfz47_4, hfz47_5, hfz47_6, hfz47_7⟩ := ce8_ BK1088; obtain ⟨Ao48, co48, eo48⟩ := Kd.R_slice HO1083.out; subst eo48; obtain ⟨Ao49, co49, eo49⟩ := Kd.R_slice HO1086.out; subst eo49) | (go_at_call 19; (with_reducible refine (lease_Spent.calls k2 _ _ l1 _ _ t1084 t1089 t1090 _ ?side1 ?side2 ?side3 ?side4 A32.out).mono ?_); (case side1 => exact Kd.C_below HR1.out bh_); (case side2 => exact HC1.out); (case side3 => refine (Kd.R_reads' (e := 2) (base := w.heap.size) (ok := fun k_ => some k_ ≠ (.slice Ao48 t1081.length co48 : Value).ownBlock) (n := t1084.length) (c := co49) ?_).2.2; exact (by (with_reducible repeat (first | apply Kd.R_alloc | apply Kd.R_drewN | apply Kd.R_drew)); exact (Kd.R_mono (Kd.R_far (p := ⟨gb1088, 7, none⟩) (Kd.R_far (p := ⟨gb1088, 6, none⟩) (Kd.R_far (p := ⟨gb1088, 5, none⟩) (Kd.R_far (p := ⟨gb1088, 4, none⟩) (Kd.R_far (p := ⟨gb1088, 3, none⟩) (Kd.R_far (p := ⟨gb1088, 2, none⟩) (Kd.R_far (p := ⟨gb1088, 1, none⟩) (Kd.R_far (p := ⟨gb1088, 0, none⟩) (Kd.R_types HO1086.out BK1088.out (by decide)) (fun _ hk => hk.2) (.int .i64 t1074)) (fun _ hk => hk.2) (.int .i64 t1075)) (fun _ hk => hk.2) (.int .i64 t1076)) (fun _ hk => hk.2) (.int .i64 t1077)) (fun _ hk => hk.2) (.int .i64 t1078)) (fun _ hk => hk.2) (.int .u64 t1079)) (fun _ hk => hk.2) (.int .i64 t1080)) (fun _ hk => hk.2) (.slice Ao48 t1081.length co48)) (fun _ h_ => h_.1)))); (case side4 => exact (Kd.R_reads' HO1086.out).2.1); rintro e w50 ⟨rfl, hb⟩; replace HO1083 := Aside0.mk (Kd.R_below (by (with_reducible repeat (first | apply Kd.R_alloc | apply Kd.R_drewN | apply Kd.R_drew)); exact (Kd.R_mono (Kd.R_far (p := ⟨gb1088, 7, none⟩) (Kd.R_far (p := ⟨gb1088, 6, none⟩) (Kd.R_far (p := ⟨gb1088, 5, none⟩) (Kd.R_far (p := ⟨gb1088, 4, none⟩) (Kd.R_far (p := ⟨gb1088, 3, none⟩) (Kd.R_far (p := ⟨gb1088, 2, none⟩) (Kd.R_far (p := ⟨gb1088, 1, none⟩) (Kd.R_far (p := ⟨gb1088, 0, none⟩) (Kd.R_types HO1083.out BK1088.out (by decide)) (fun _ hk => hk.2) (.int .i64 t1074)) (fun _ hk => hk.2) (.int .i64 t1075)) (fun _ hk => hk.2) (.int .i64 t1076)) (fun _ hk => hk.2) (.int .i64 t1077)) (fun _ hk => hk.2) (.int .i64 t1078)) (fun _ hk => hk.2) (.int .u64 t1079)) (fun _ hk => hk.2) (.int .i64 t1080)) (fun _ hk => hk.2) (.slice Ao48 t1081.length co48)) (fun _ h_ => h_.1))) hb); replace HO1086 := Aside0.mk (Kd.R_below (by (with_reducible repeat (first | apply Kd.R_alloc | apply Kd.R_drewN | apply Kd.R_drew)); exact (Kd.R_mono (Kd.R_far (p := ⟨gb1088, 7, none⟩) (Kd.R_far (p := ⟨gb1088, 6, none⟩) (Kd.R_far (p := ⟨gb1088, 5, none⟩) (Kd.R_far (p := ⟨gb1088, 4, none⟩) (Kd.R_far (p := ⟨gb1088, 3, none⟩) (Kd.R_far (p := ⟨gb1088, 2, none⟩) (Kd.R_far (p := ⟨gb1088, 1, none⟩) (Kd.R_far (p := ⟨gb1088, 0, none⟩) (Kd.R_types HO1086.out BK1088.out (by decide)) (fun _ hk => hk.2) (.int .i64 t1074)) (fun _ hk => hk.2) (.int .i64 t1075)) (fun _ hk => hk.2) (.int .i64 t1076)) (fun _ hk => hk.2) (.int .i64 t1077)) (fun _ hk => hk.2) (.int .i64 t1078)) (fun _ hk => hk.2) (.int .u64 t1079)) (fun _ hk => hk.2) (.int .i64 t1080)) (fun _ hk => hk.2) (.slice Ao48 t1081.length co48)) (fun _ h_ => h_.1))) hb); replace BK1068 := bf_ BK1068 hb; replace BK1088 := Aside0.mk (blk_below (g := gb1088) (o := .cells #[.int .i64 t1074, .int .i64 t1075, .int .i64 t1076, .int .i64 t1077, .int .i64 t1078, .int .u64 t1079, .int .i64 t1080, .slice Ao48 t1081.length co48] 29 (0, 0)) (blk_put (cs := #[.int .i64 t1074, .int .i64 t1075, .int .i64 t1076, .int .i64 t1077, .int .i64 t1078, .int .u64 t1079, .int .i64 t1080, .slice none 0 0]) (blk_put (cs := #[.int .i64 t1074, .int .i64 t1075, .int .i64 t1076, .int .i64 t1077, .int .i64 t1078, .int .u64 t1079, .int .i64 0, .slice none 0 0]) (blk_put (cs := #[.int .i64 t1074, .int .i64 t1075, .int .i64 t1076, .int .i64 t1077, .int .i64 t1078, .int .u64 0, .int .i64 0, .slice none 0 0]) (blk_put (cs := #[.int .i64 t1074, .int .i64 t1075, .int .i64 t1076, .int .i64 t1077, .int .i64 0, .int .u64 0, .int .i64 0, .slice none 0 0]) (blk_put (cs := #[.int .i64 t1074, .int .i64 t1075, .int .i64 t1076, .int .i64 0, .int .i64 0, .int .u64 0, .int .i64 0, .slice none 0 0]) (blk_put (cs := #[.int .i64 t1074, .int .i64 t1075, .int .i64 0, .int .i64 0, .int .i64 0, .int .u64 0, .int .i64 0, .slice none 0 0]) (blk_put (cs := #[.int .i64 t1074, .int .i64 0, .int .i64 0, .int .i64 0, .int .i64 0, .int .u64 0, .int .i64 0, .slice none 0 0]) (blk_put (cs := #[.int .i64 0, .int .i64 0, .int .i64 0, .int .i64 0, .int .i64 0, .int .u64 0, .int .i64 0, .slice none 0 0]) (bq_ BK1088) 0 _ rfl) 1 _ rfl) 2 _ rfl) 3 _ rfl) 4 _ rfl) 5 _ rfl) 6 _ rfl) 7 _ rfl) hb); replace HB := bs_ w hb; clear hb; obtain ⟨hcz51_0, hcz51_1, hcz51_2, hcz51_3, hcz51_4, hcz51_5, hcz51_6, hcz51_7, hfz51_0, hfz51_1, hfz51_2, hfz51_3, hfz51_4, hfz51_5, hfz51_6, hfz51_7⟩ := ce8_ BK1088) | (go_at_call 15; (with_reducible refine (lease_Out.calls k2 t1074 t1075 t1076 t1077 t1078 t1079 t1080 _ _ t1081 t1091 t1092 _ ?side1 ?side2 A33.out).mono ?_); (case side1 => exact cr_ HO1083); (case side2 => exact (Kd.R_reads' HO1083.out).2.1); rintro e w52 ⟨rfl, hb⟩; replace HO1083 := rb_ HO1083 hb; replace HO1086 := rb_ HO1086 hb; replace BK1068 := bb_ BK1068 hb; replace BK1088 := bb_ BK1088 hb; replace HB := bs_ w hb; clear hb; obtain ⟨hcz53_0, hcz53_1, hcz53_2, hcz53_3, hcz53_4, hcz53_5, hcz53_6, hcz53_7, hfz53_0, hfz53_1, hfz53_2, hfz53_3, hfz53_4, hfz53_5, hfz53_6, hfz53_7⟩ := ce8_ BK1068) | (go_at_call 25; (with_reducible refine (lease_Bound.calls k2 a0_0 a0_1 a0_2 a0_3 a0_4 a0_5 a0_6 _ _ l0_7 a2 t1093 t1094 _ ?side1 ?side2 A34.out).mono ?_); (case side1 => exact cs_ HR0_7 HB); (case side2 => exact HC0_7.out); rintro e w54 ⟨rfl, hb⟩; replace HO1083 := rb_ HO1083 hb; replace HO1086 := rb_ HO1086 hb; replace BK1068 := bb_ BK1068 hb; replace BK1088 := bb_ BK1088 hb; replace HB := bs_ w hb; clear hb; obtain ⟨hcz55_0, hcz55_1, hcz55_2, hcz55_3, hcz55_4, hcz55_5, hcz55_6, hcz55_7, hfz55_0, hfz55_1, hfz55_2, hfz55_3, hfz55_4, hfz55_5, hfz55_6, hfz55_7⟩ := ce8_ BK1088) | (go_at_call 12; (with_reducible refine (spigotref42_Check.calls k2 t1074 t1075 t1076 t1077 t1078 t1079 t1080 _ _ t1081 t1095 _ ?side1 ?side2 A41.out).mono ?_); (case side1 => exact cr_ HO1083); (case side2 => exact (Kd.R_reads' HO1083.out).2.1); rintro e w56 ⟨rfl, hb⟩; replace HO1083 := rb_ HO1083 hb; replace HO1086 := rb_ HO1086 hb; replace BK1068 := bb_ BK1068 hb; replace BK1088 := bb_ BK1088 hb; replace HB := bs_ w hb; clear hb; obtain ⟨hcz57_0, hcz57_1, hcz57_2, hcz57_3, hcz57_4, hcz57_5, hcz57_6, hcz57_7, hfz57_0, hfz57_1, hfz57_2, hfz57_3, hfz57_4, hfz57_5, hfz57_6, hfz57_7⟩ := ce8_ BK1088)))
         go_ret
         exact fi_
        ·replace c35 := Bool.eq_false_iff.mpr c35
         subst c35
         replace H : (none) = some r := by rw [if_neg (show ¬ (false = true) by decide)] at H; exact H
         exact absurd H (by simp)
       ·rw [if_neg c31] at H
        have c31b0 : (t1087 == 0) = false := beq_eq_false_iff_ne.mpr c31
        have c31b1 : (t1087 != 0) = true := bne_iff_ne.mpr c31
        by_cases c58 : t1069 = true
        ·subst c58
         rw [if_pos rfl] at H
         try dsimp only at H
         by_cases c59 : t1087 = 4
         ·rw [if_pos c59] at H
          have c59b0 : (t1087 == 4) = true := beq_iff_eq.mpr c59
          have c59b1 : (t1087 != 4) = false := bne_eq_false_iff_eq.mpr c59
          clear c59
          obtain rfl := Option.some.inj H
          replace hc1068 := ce8_ BK1068
          go_wp2_with (first | (go_at_call 16; (with_reducible refine (lease_Run.calls k2 a0_0 a0_1 a0_2 a0_3 a0_4 a0_5 a0_6 _ _ l0_7 _ _ l1 t1074 t1075 t1076 t1077 t1078 t1079 t1080 t1081 t1084 t1087 _ ?side1 ?side2 ?side3 ?side4 A30.out).mono ?_); (case side1 => exact cs_ HR0_7 HB); (case side2 => exact HC0_7.out); (case side3 => exact cs_ HR1 HB); (case side4 => exact HC1.out); rintro e w61 ⟨v1082, v1085, rfl, ho0, ho1, hb⟩; have HO1083 := Aside0.mk (Kd.R_lower ho0 (below_size bh_)); have HO1086 := Aside0.mk (Kd.R_lower ho1 (below_size bh_)); replace BK1068 := bb_ BK1068 hb; replace HB := bs_ w hb; (try clear hb); (try clear hb2); (try clear hk); (try clear hi); (try clear ho0); (try clear ho1)) | ((with_reducible refine gate_dst (N := 9) rfl ?_); (try refine ug_ (by rfl) ?_); refine bx_ #[.int .i64 0, .int .i64 0, .int .i64 0, .int .i64 0, .int .i64 0, .int .u64 0, .int .i64 0, .slice none 0 0] 29 ?_; intro gb1088 hg w62 BK1088 hb; have GW1088 := bz_ w hg; have GE1088 := GW1088; have NB1068_1088 := bn_ BK1068 hg; have NB1088_1068 := bm_ BK1068 hg; replace HO1083 := rb_ HO1083 hb; replace HO1086 := rb_ HO1086 hb; replace BK1068 := bb_ BK1068 hb; replace HB := bs_ w hb; clear hb hg; have hnb63 := NB1088_1068.out; have hnc63 := NB1068_1088.out; obtain ⟨hcz64_0, hcz64_1, hcz64_2, hcz64_3, hcz64_4, hcz64_5, hcz64_6, hcz64_7, hfz64_0, hfz64_1, hfz64_2, hfz64_3, hfz64_4, hfz64_5, hfz64_6, hfz64_7⟩ := ce8_ BK1088; obtain ⟨Ao65, co65, eo65⟩ := Kd.R_slice HO1083.out; subst eo65))
          repeat (go_quiet (first | (go_at_call 16; (with_reducible refine (lease_Run.calls k2 a0_0 a0_1 a0_2 a0_3 a0_4 a0_5 a0_6 _ _ l0_7 _ _ l1 t1074 t1075 t1076 t1077 t1078 t1079 t1080 t1081 t1084 t1087 _ ?side1 ?side2 ?side3 ?side4 A30.out).mono ?_); (case side1 => exact cs_ HR0_7 HB); (case side2 => exact HC0_7.out); (case side3 => exact cs_ HR1 HB); (case side4 => exact HC1.out); rintro e w61 ⟨v1082, v1085, rfl, ho0, ho1, hb⟩; have HO1083 := Aside0.mk (Kd.R_lower ho0 (below_size bh_)); have HO1086 := Aside0.mk (Kd.R_lower ho1 (below_size bh_)); replace BK1068 := bb_ BK1068 hb; replace HB := bs_ w hb; (try clear hb); (try clear hb2); (try clear hk); (try clear hi); (try clear ho0); (try clear ho1)) | ((with_reducible refine gate_dst (N := 9) rfl ?_); (try refine ug_ (by rfl) ?_); refine bx_ #[.int .i64 0, .int .i64 0, .int .i64 0, .int .i64 0, .int .i64 0, .int .u64 0, .int .i64 0, .slice none 0 0] 29 ?_; intro gb1088 hg w62 BK1088 hb; have GW1088 := bz_ w hg; have GE1088 := GW1088; have NB1068_1088 := bn_ BK1068 hg; have NB1088_1068 := bm_ BK1068 hg; replace HO1083 := rb_ HO1083 hb; replace HO1086 := rb_ HO1086 hb; replace BK1068 := bb_ BK1068 hb; replace HB := bs_ w hb; clear hb hg; have hnb63 := NB1088_1068.out; have hnc63 := NB1068_1088.out; obtain ⟨hcz64_0, hcz64_1, hcz64_2, hcz64_3, hcz64_4, hcz64_5, hcz64_6, hcz64_7, hfz64_0, hfz64_1, hfz64_2, hfz64_3, hfz64_4, hfz64_5, hfz64_6, hfz64_7⟩ := ce8_ BK1088; obtain ⟨Ao65, co65, eo65⟩ := Kd.R_slice HO1083.out; subst eo65)); try go_wp2_with (first | (go_at_call 16; (with_reducible refine (lease_Run.calls k2 a0_0 a0_1 a0_2 a0_3 a0_4 a0_5 a0_6 _ _ l0_7 _ _ l1 t1074 t1075 t1076 t1077 t1078 t1079 t1080 t1081 t1084 t1087 _ ?side1 ?side2 ?side3 ?side4 A30.out).mono ?_); (case side1 => exact cs_ HR0_7 HB); (case side2 => exact HC0_7.out); (case side3 => exact cs_ HR1 HB); (case side4 => exact HC1.out); rintro e w61 ⟨v1082, v1085, rfl, ho0, ho1, hb⟩; have HO1083 := Aside0.mk (Kd.R_lower ho0 (below_size bh_)); have HO1086 := Aside0.mk (Kd.R_lower ho1 (below_size bh_)); replace BK1068 := bb_ BK1068 hb; replace HB := bs_ w hb; (try clear hb); (try clear hb2); (try clear hk); (try clear hi); (try clear ho0); (try clear ho1)) | ((with_reducible refine gate_dst (N := 9) rfl ?_); (try refine ug_ (by rfl) ?_); refine bx_ #[.int .i64 0, .int .i64 0, .int .i64 0, .int .i64 0, .int .i64 0, .int .u64 0, .int .i64 0, .slice none 0 0] 29 ?_; intro gb1088 hg w62 BK1088 hb; have GW1088 := bz_ w hg; have GE1088 := GW1088; have NB1068_1088 := bn_ BK1068 hg; have NB1088_1068 := bm_ BK1068 hg; replace HO1083 := rb_ HO1083 hb; replace HO1086 := rb_ HO1086 hb; replace BK1068 := bb_ BK1068 hb; replace HB := bs_ w hb; clear hb hg; have hnb63 := NB1088_1068.out; have hnc63 := NB1068_1088.out; obtain ⟨hcz64_0, hcz64_1, hcz64_2, hcz64_3, hcz64_4, hcz64_5, hcz64_6, hcz64_7, hfz64_0, hfz64_1, hfz64_2, hfz64_3, hfz64_4, hfz64_5, hfz64_6, hfz64_7⟩ := ce8_ BK1088; obtain ⟨Ao65, co65, eo65⟩ := Kd.R_slice HO1083.out; subst eo65)))
          go_ret
          exact fi_
         ·rw [if_neg c59] at H
          have c59b0 : (t1087 == 4) = false := beq_eq_false_iff_ne.mpr c59
          have c59b1 : (t1087 != 4) = true := bne_iff_ne.mpr c59
          by_cases c66 : t1087 = 8
          ·rw [if_pos c66] at H
           have c66b0 : (t1087 == 8) = true := beq_iff_eq.mpr c66
           have c66b1 : (t1087 != 8) = false := bne_eq_false_iff_eq.mpr c66
           clear c66
           obtain rfl := Option.some.inj H
           replace hc1068 := ce8_ BK1068
           go_wp2_with (first | (go_at_call 16; (with_reducible refine (lease_Run.calls k2 a0_0 a0_1 a0_2 a0_3 a0_4 a0_5 a0_6 _ _ l0_7 _ _ l1 t1074 t1075 t1076 t1077 t1078 t1079 t1080 t1081 t1084 t1087 _ ?side1 ?side2 ?side3 ?side4 A30.out).mono ?_); (case side1 => exact cs_ HR0_7 HB); (case side2 => exact HC0_7.out); (case side3 => exact cs_ HR1 HB); (case side4 => exact HC1.out); rintro e w68 ⟨v1082, v1085, rfl, ho0, ho1, hb⟩; have HO1083 := Aside0.mk (Kd.R_lower ho0 (below_size bh_)); have HO1086 := Aside0.mk (Kd.R_lower ho1 (below_size bh_)); replace BK1068 := bb_ BK1068 hb; replace HB := bs_ w hb; (try clear hb); (try clear hb2); (try clear hk); (try clear hi); (try clear ho0); (try clear ho1)) | ((with_reducible refine gate_dst (N := 9) rfl ?_); (try refine ug_ (by rfl) ?_); refine bx_ #[.int .i64 0, .int .i64 0, .int .i64 0, .int .i64 0, .int .i64 0, .int .u64 0, .int .i64 0, .slice none 0 0] 29 ?_; intro gb1088 hg w69 BK1088 hb; have GW1088 := bz_ w hg; have GE1088 := GW1088; have NB1068_1088 := bn_ BK1068 hg; have NB1088_1068 := bm_ BK1068 hg; replace HO1083 := rb_ HO1083 hb; replace HO1086 := rb_ HO1086 hb; replace BK1068 := bb_ BK1068 hb; replace HB := bs_ w hb; clear hb hg; have hnb70 := NB1088_1068.out; have hnc70 := NB1068_1088.out; obtain ⟨hcz71_0, hcz71_1, hcz71_2, hcz71_3, hcz71_4, hcz71_5, hcz71_6, hcz71_7, hfz71_0, hfz71_1, hfz71_2, hfz71_3, hfz71_4, hfz71_5, hfz71_6, hfz71_7⟩ := ce8_ BK1088; obtain ⟨Ao72, co72, eo72⟩ := Kd.R_slice HO1083.out; subst eo72))
           repeat (go_quiet (first | (go_at_call 16; (with_reducible refine (lease_Run.calls k2 a0_0 a0_1 a0_2 a0_3 a0_4 a0_5 a0_6 _ _ l0_7 _ _ l1 t1074 t1075 t1076 t1077 t1078 t1079 t1080 t1081 t1084 t1087 _ ?side1 ?side2 ?side3 ?side4 A30.out).mono ?_); (case side1 => exact cs_ HR0_7 HB); (case side2 => exact HC0_7.out); (case side3 => exact cs_ HR1 HB); (case side4 => exact HC1.out); rintro e w68 ⟨v1082, v1085, rfl, ho0, ho1, hb⟩; have HO1083 := Aside0.mk (Kd.R_lower ho0 (below_size bh_)); have HO1086 := Aside0.mk (Kd.R_lower ho1 (below_size bh_)); replace BK1068 := bb_ BK1068 hb; replace HB := bs_ w hb; (try clear hb); (try clear hb2); (try clear hk); (try clear hi); (try clear ho0); (try clear ho1)) | ((with_reducible refine gate_dst (N := 9) rfl ?_); (try refine ug_ (by rfl) ?_); refine bx_ #[.int .i64 0, .int .i64 0, .int .i64 0, .int .i64 0, .int .i64 0, .int .u64 0, .int .i64 0, .slice none 0 0] 29 ?_; intro gb1088 hg w69 BK1088 hb; have GW1088 := bz_ w hg; have GE1088 := GW1088; have NB1068_1088 := bn_ BK1068 hg; have NB1088_1068 := bm_ BK1068 hg; replace HO1083 := rb_ HO1083 hb; replace HO1086 := rb_ HO1086 hb; replace BK1068 := bb_ BK1068 hb; replace HB := bs_ w hb; clear hb hg; have hnb70 := NB1088_1068.out; have hnc70 := NB1068_1088.out; obtain ⟨hcz71_0, hcz71_1, hcz71_2, hcz71_3, hcz71_4, hcz71_5, hcz71_6, hcz71_7, hfz71_0, hfz71_1, hfz71_2, hfz71_3, hfz71_4, hfz71_5, hfz71_6, hfz71_7⟩ := ce8_ BK1088; obtain ⟨Ao72, co72, eo72⟩ := Kd.R_slice HO1083.out; subst eo72)); try go_wp2_with (first | (go_at_call 16; (with_reducible refine (lease_Run.calls k2 a0_0 a0_1 a0_2 a0_3 a0_4 a0_5 a0_6 _ _ l0_7 _ _ l1 t1074 t1075 t1076 t1077 t1078 t1079 t1080 t1081 t1084 t1087 _ ?side1 ?side2 ?side3 ?side4 A30.out).mono ?_); (case side1 => exact cs_ HR0_7 HB); (case side2 => exact HC0_7.out); (case side3 => exact cs_ HR1 HB); (case side4 => exact HC1.out); rintro e w68 ⟨v1082, v1085, rfl, ho0, ho1, hb⟩; have HO1083 := Aside0.mk (Kd.R_lower ho0 (below_size bh_)); have HO1086 := Aside0.mk (Kd.R_lower ho1 (below_size bh_)); replace BK1068 := bb_ BK1068 hb; replace HB := bs_ w hb; (try clear hb); (try clear hb2); (try clear hk); (try clear hi); (try clear ho0); (try clear ho1)) | ((with_reducible refine gate_dst (N := 9) rfl ?_); (try refine ug_ (by rfl) ?_); refine bx_ #[.int .i64 0, .int .i64 0, .int .i64 0, .int .i64 0, .int .i64 0, .int .u64 0, .int .i64 0, .slice none 0 0] 29 ?_; intro gb1088 hg w69 BK1088 hb; have GW1088 := bz_ w hg; have GE1088 := GW1088; have NB1068_1088 := bn_ BK1068 hg; have NB1088_1068 := bm_ BK1068 hg; replace HO1083 := rb_ HO1083 hb; replace HO1086 := rb_ HO1086 hb; replace BK1068 := bb_ BK1068 hb; replace HB := bs_ w hb; clear hb hg; have hnb70 := NB1088_1068.out; have hnc70 := NB1068_1088.out; obtain ⟨hcz71_0, hcz71_1, hcz71_2, hcz71_3, hcz71_4, hcz71_5, hcz71_6, hcz71_7, hfz71_0, hfz71_1, hfz71_2, hfz71_3, hfz71_4, hfz71_5, hfz71_6, hfz71_7⟩ := ce8_ BK1088; obtain ⟨Ao72, co72, eo72⟩ := Kd.R_slice HO1083.out; subst eo72)))
           go_ret
           exact fi_
          ·rw [if_neg c66] at H
           have c66b0 : (t1087 == 8) = false := beq_eq_false_iff_ne.mpr c66
           have c66b1 : (t1087 != 8) = true := bne_iff_ne.mpr c66
           obtain rfl := Option.some.inj H
           replace hc1068 := ce8_ BK1068
           go_wp2_with (first | (go_at_call 16; (with_reducible refine (lease_Run.calls k2 a0_0 a0_1 a0_2 a0_3 a0_4 a0_5 a0_6 _ _ l0_7 _ _ l1 t1074 t1075 t1076 t1077 t1078 t1079 t1080 t1081 t1084 t1087 _ ?side1 ?side2 ?side3 ?side4 A30.out).mono ?_); (case side1 => exact cs_ HR0_7 HB); (case side2 => exact HC0_7.out); (case side3 => exact cs_ HR1 HB); (case side4 => exact HC1.out); rintro e w74 ⟨v1082, v1085, rfl, ho0, ho1, hb⟩; have HO1083 := Aside0.mk (Kd.R_lower ho0 (below_size bh_)); have HO1086 := Aside0.mk (Kd.R_lower ho1 (below_size bh_)); replace BK1068 := bb_ BK1068 hb; replace HB := bs_ w hb; (try clear hb); (try clear hb2); (try clear hk); (try clear hi); (try clear ho0); (try clear ho1)) | ((with_reducible refine gate_dst (N := 9) rfl ?_); (try refine ug_ (by rfl) ?_); refine bx_ #[.int .i64 0, .int .i64 0, .int .i64 0, .int .i64 0, .int .i64 0, .int .u64 0, .int .i64 0, .slice none 0 0] 29 ?_; intro gb1088 hg w75 BK1088 hb; have GW1088 := bz_ w hg; have GE1088 := GW1088; have NB1068_1088 := bn_ BK1068 hg; have NB1088_1068 := bm_ BK1068 hg; replace HO1083 := rb_ HO1083 hb; replace HO1086 := rb_ HO1086 hb; replace BK1068 := bb_ BK1068 hb; replace HB := bs_ w hb; clear hb hg; have hnb76 := NB1088_1068.out; have hnc76 := NB1068_1088.out; obtain ⟨hcz77_0, hcz77_1, hcz77_2, hcz77_3, hcz77_4, hcz77_5, hcz77_6, hcz77_7, hfz77_0, hfz77_1, hfz77_2, hfz77_3, hfz77_4, hfz77_5, hfz77_6, hfz77_7⟩ := ce8_ BK1088; obtain ⟨Ao78, co78, eo78⟩ := Kd.R_slice HO1083.out; subst eo78))
           repeat (go_quiet (first | (go_at_call 16; (with_reducible refine (lease_Run.calls k2 a0_0 a0_1 a0_2 a0_3 a0_4 a0_5 a0_6 _ _ l0_7 _ _ l1 t1074 t1075 t1076 t1077 t1078 t1079 t1080 t1081 t1084 t1087 _ ?side1 ?side2 ?side3 ?side4 A30.out).mono ?_); (case side1 => exact cs_ HR0_7 HB); (case side2 => exact HC0_7.out); (case side3 => exact cs_ HR1 HB); (case side4 => exact HC1.out); rintro e w74 ⟨v1082, v1085, rfl, ho0, ho1, hb⟩; have HO1083 := Aside0.mk (Kd.R_lower ho0 (below_size bh_)); have HO1086 := Aside0.mk (Kd.R_lower ho1 (below_size bh_)); replace BK1068 := bb_ BK1068 hb; replace HB := bs_ w hb; (try clear hb); (try clear hb2); (try clear hk); (try clear hi); (try clear ho0); (try clear ho1)) | ((with_reducible refine gate_dst (N := 9) rfl ?_); (try refine ug_ (by rfl) ?_); refine bx_ #[.int .i64 0, .int .i64 0, .int .i64 0, .int .i64 0, .int .i64 0, .int .u64 0, .int .i64 0, .slice none 0 0] 29 ?_; intro gb1088 hg w75 BK1088 hb; have GW1088 := bz_ w hg; have GE1088 := GW1088; have NB1068_1088 := bn_ BK1068 hg; have NB1088_1068 := bm_ BK1068 hg; replace HO1083 := rb_ HO1083 hb; replace HO1086 := rb_ HO1086 hb; replace BK1068 := bb_ BK1068 hb; replace HB := bs_ w hb; clear hb hg; have hnb76 := NB1088_1068.out; have hnc76 := NB1068_1088.out; obtain ⟨hcz77_0, hcz77_1, hcz77_2, hcz77_3, hcz77_4, hcz77_5, hcz77_6, hcz77_7, hfz77_0, hfz77_1, hfz77_2, hfz77_3, hfz77_4, hfz77_5, hfz77_6, hfz77_7⟩ := ce8_ BK1088; obtain ⟨Ao78, co78, eo78⟩ := Kd.R_slice HO1083.out; subst eo78)); try go_wp2_with (first | (go_at_call 16; (with_reducible refine (lease_Run.calls k2 a0_0 a0_1 a0_2 a0_3 a0_4 a0_5 a0_6 _ _ l0_7 _ _ l1 t1074 t1075 t1076 t1077 t1078 t1079 t1080 t1081 t1084 t1087 _ ?side1 ?side2 ?side3 ?side4 A30.out).mono ?_); (case side1 => exact cs_ HR0_7 HB); (case side2 => exact HC0_7.out); (case side3 => exact cs_ HR1 HB); (case side4 => exact HC1.out); rintro e w74 ⟨v1082, v1085, rfl, ho0, ho1, hb⟩; have HO1083 := Aside0.mk (Kd.R_lower ho0 (below_size bh_)); have HO1086 := Aside0.mk (Kd.R_lower ho1 (below_size bh_)); replace BK1068 := bb_ BK1068 hb; replace HB := bs_ w hb; (try clear hb); (try clear hb2); (try clear hk); (try clear hi); (try clear ho0); (try clear ho1)) | ((with_reducible refine gate_dst (N := 9) rfl ?_); (try refine ug_ (by rfl) ?_); refine bx_ #[.int .i64 0, .int .i64 0, .int .i64 0, .int .i64 0, .int .i64 0, .int .u64 0, .int .i64 0, .slice none 0 0] 29 ?_; intro gb1088 hg w75 BK1088 hb; have GW1088 := bz_ w hg; have GE1088 := GW1088; have NB1068_1088 := bn_ BK1068 hg; have NB1088_1068 := bm_ BK1068 hg; replace HO1083 := rb_ HO1083 hb; replace HO1086 := rb_ HO1086 hb; replace BK1068 := bb_ BK1068 hb; replace HB := bs_ w hb; clear hb hg; have hnb76 := NB1088_1068.out; have hnc76 := NB1068_1088.out; obtain ⟨hcz77_0, hcz77_1, hcz77_2, hcz77_3, hcz77_4, hcz77_5, hcz77_6, hcz77_7, hfz77_0, hfz77_1, hfz77_2, hfz77_3, hfz77_4, hfz77_5, hfz77_6, hfz77_7⟩ := ce8_ BK1088; obtain ⟨Ao78, co78, eo78⟩ := Kd.R_slice HO1083.out; subst eo78)))
           go_ret
           exact fi_
        ·replace c58 := Bool.eq_false_iff.mpr c58
         subst c58
         replace H : (none) = some r := by rw [if_neg (show ¬ (false = true) by decide)] at H; exact H
         exact absurd H (by simp)

end Go.Proofs.Ytbfdpodlnijeoaa.X
