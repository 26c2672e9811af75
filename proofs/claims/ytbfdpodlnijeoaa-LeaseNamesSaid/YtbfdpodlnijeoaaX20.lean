-- written by xprint.py, a program of this session over the kit's print
import Derived.Test.YtbfdpodlnijeoaaX0
import Derived.Test.YtbfdpodlnijeoaaX1
import Derived.Test.YtbfdpodlnijeoaaX15
namespace Go.Proofs.Ytbfdpodlnijeoaa.X
open Go.RowKit Go.Proofs.YtbfdpodlnijeoaaW.PrintWords Go.Proofs.YtbfdpodlnijeoaaW.PrintLast Go.Proofs.YtbfdpodlnijeoaaW.PrintMore
attribute [local go_sem] max2_int min2_int max_two min_two max_three min_three max_four min_four   -- for this text's walks alone
set_option linter.unusedVariables false
set_option linter.unusedSimpArgs false

attribute [local go_sem high] eqA26
/-! ### spigotref42_Same: function 17 -/
def spigotref42_Same.f (k : Nat) (a0_0 : Int) (a0_1 : Int) (a0_2 : Int) (a0_3 : Int) (a0_4 : Int) (a0_5 : Int) (a0_6 : Int) (l0_7 : List Int) (a1_0 : Int) (a1_1 : Int) (a1_2 : Int) (a1_3 : Int) (a1_4 : Int) (a1_5 : Int) (a1_6 : Int) (l1_7 : List Int) : Option (Bool) := if ((a0_0 == a1_0 && (a0_1 == a1_1 && (a0_2 == a1_2))) && (a0_3 == a1_3 && (a0_4 == a1_4 && (a0_5 == a1_5)))) = true then (if a0_6 = a1_6 then ((spigotref42_SameLongs.f k l0_7 l1_7).bind fun t316 => (some t316)) else (some false)) else (some false)
theorem spigotref42_Same.mono : ∀ a0 a1 a2 a3 a4 a5 a6 a7 a8 a9 a10 a11 a12 a13 a14 a15 k, LeO (spigotref42_Same.f k a0 a1 a2 a3 a4 a5 a6 a7 a8 a9 a10 a11 a12 a13 a14 a15) (spigotref42_Same.f (k + 1) a0 a1 a2 a3 a4 a5 a6 a7 a8 a9 a10 a11 a12 a13 a14 a15) := by
  intro a0 a1 a2 a3 a4 a5 a6 a7 a8 a9 a10 a11 a12 a13 a14 a15 k
  unfold spigotref42_Same.f
  repeat' first
      | (with_reducible exact spigotref42_SameLongs.mono _ _ _)
      | (with_reducible exact LeO.refl _)
      | (with_reducible exact LeO.none _)
      | (with_reducible refine LeO.ite ?_ ?_)
      | (with_reducible refine LeO.bind ?_ (fun _ => ?_))
      | exact spigotref42_SameLongs.mono _ _ _
      | exact LeO.none _
      | refine LeO.ite ?_ ?_
      | refine LeO.bind ?_ (fun _ => ?_)
set_option maxHeartbeats 8000000 in
set_option maxRecDepth 100000 in
theorem spigotref42_Same.calls (k : Nat) (a0_0 : Int) (a0_1 : Int) (a0_2 : Int) (a0_3 : Int) (a0_4 : Int) (a0_5 : Int) (a0_6 : Int) (A0_7 : Option Addr) (c0_7 : Nat) (l0_7 : List Int) (a1_0 : Int) (a1_1 : Int) (a1_2 : Int) (a1_3 : Int) (a1_4 : Int) (a1_5 : Int) (a1_6 : Int) (A1_7 : Option Addr) (c1_7 : Nat) (l1_7 : List Int) (r : Bool) (w : World) (hr0_7 : Kd.C (Kd.int .i64) w A0_7 l0_7.length l0_7) (hc0_7 : l0_7.length ≤ c0_7) (hr1_7 : Kd.C (Kd.int .i64) w A1_7 l1_7.length l1_7) (hc1_7 : l1_7.length ≤ c1_7) (h : spigotref42_Same.f k a0_0 a0_1 a0_2 a0_3 a0_4 a0_5 a0_6 l0_7 a1_0 a1_1 a1_2 a1_3 a1_4 a1_5 a1_6 l1_7 = some r) :
  Calls Try.prog 17 #[.agg #[.int .i64 a0_0, .int .i64 a0_1, .int .i64 a0_2, .int .i64 a0_3, .int .i64 a0_4, .int .u64 a0_5, .int .i64 a0_6, .slice A0_7 l0_7.length c0_7], .agg #[.int .i64 a1_0, .int .i64 a1_1, .int .i64 a1_2, .int .i64 a1_3, .int .i64 a1_4, .int .u64 a1_5, .int .i64 a1_6, .slice A1_7 l1_7.length c1_7]] w fun e w' => e = .returned (.bool r) ∧ Below w.heap.size w w' := by
 have hu29 := Try.underlying29
 have hu26 := Try.underlying26
 have HR0_7 := Aside0.mk hr0_7
 have HC0_7 := Aside0.mk hc0_7
 clear hr0_7 hc0_7
 have HR1_7 := Aside0.mk hr1_7
 have HC1_7 := Aside0.mk hc1_7
 clear hr1_7 hc1_7
 have HB := Aside0.mk (Below.refl w.heap.size w)
 have H : (if ((a0_0 == a1_0 && (a0_1 == a1_1 && (a0_2 == a1_2))) && (a0_3 == a1_3 && (a0_4 == a1_4 && (a0_5 == a1_5)))) = true then (if a0_6 = a1_6 then ((spigotref42_SameLongs.f k l0_7 l1_7).bind fun t316 => (some t316)) else (some false)) else (some false)) = some r := h
 clear h
 by_cases c3 : ((a0_0 == a1_0 && (a0_1 == a1_1 && (a0_2 == a1_2))) && (a0_3 == a1_3 && (a0_4 == a1_4 && (a0_5 == a1_5)))) = true
 ·rw [if_pos c3] at H
  have c3b0 : ((a0_0 == a1_0 && (a0_1 == a1_1 && (a0_2 == a1_2))) && (a0_3 == a1_3 && (a0_4 == a1_4 && (a0_5 == a1_5)))) = true := c3
  clear c3
  by_cases c4 : a0_6 = a1_6
  ·rw [if_pos c4] at H
   have c4b0 : (a0_6 == a1_6) = true := beq_iff_eq.mpr c4
   have c4b1 : (a0_6 != a1_6) = false := bne_eq_false_iff_eq.mpr c4
   clear c4
   have H0_ := bo_ H; clear H; obtain ⟨t316, A5, H⟩ := H0_
   replace H : (some t316) = some r := H
   obtain rfl := Option.some.inj H
   go_enter Try.func17, Try.ntmps17
   go_wp2_with (first | ((with_reducible refine gate_dst (N := 2) rfl ?_); (try refine ug_ (by rfl) ?_); refine bx_ #[.int .i64 a0_0, .int .i64 a0_1, .int .i64 a0_2, .int .i64 a0_3, .int .i64 a0_4, .int .u64 a0_5, .int .i64 a0_6, .slice A0_7 l0_7.length c0_7] 29 ?_; intro gb314 hg w6 BK314 hb; have GW314 := bz_ w hg; have GE314 := GW314; replace HB := bs_ w hb; clear hb hg) | ((with_reducible refine gate_dst (N := 3) rfl ?_); (try refine ug_ (by rfl) ?_); refine bx_ #[.int .i64 a1_0, .int .i64 a1_1, .int .i64 a1_2, .int .i64 a1_3, .int .i64 a1_4, .int .u64 a1_5, .int .i64 a1_6, .slice A1_7 l1_7.length c1_7] 29 ?_; intro gb315 hg w7 BK315 hb; have GW315 := bz_ w hg; have GE315 := GW315; have NB314_315 := bn_ BK314 hg; have NB315_314 := bm_ BK314 hg; replace BK314 := bb_ BK314 hb; replace HB := bs_ w hb; clear hb hg; replace hn314_315 := NB314_315.out; replace hn315_314 := NB315_314.out; replace hc314 := ce8_ BK314; replace hc315 := ce8_ BK315) | (go_at_call 21; (with_reducible refine (spigotref42_SameLongs.calls k _ _ l0_7 _ _ l1_7 t316 _ ?side1 ?side2 ?side3 ?side4 A5.out).mono ?_); (case side1 => exact cs_ HR0_7 HB); (case side2 => exact HC0_7.out); (case side3 => exact cs_ HR1_7 HB); (case side4 => exact HC1_7.out); rintro e w' ⟨rfl, ⟨nd, rfl⟩⟩))
   go_ret
   exact fi_
  ·rw [if_neg c4] at H
   have c4b0 : (a0_6 == a1_6) = false := beq_eq_false_iff_ne.mpr c4
   have c4b1 : (a0_6 != a1_6) = true := bne_iff_ne.mpr c4
   obtain rfl := Option.some.inj H
   go_enter Try.func17, Try.ntmps17
   go_wp2_with (first | ((with_reducible refine gate_dst (N := 2) rfl ?_); (try refine ug_ (by rfl) ?_); refine bx_ #[.int .i64 a0_0, .int .i64 a0_1, .int .i64 a0_2, .int .i64 a0_3, .int .i64 a0_4, .int .u64 a0_5, .int .i64 a0_6, .slice A0_7 l0_7.length c0_7] 29 ?_; intro gb314 hg w11 BK314 hb; have GW314 := bz_ w hg; have GE314 := GW314; replace HB := bs_ w hb; clear hb hg) | ((with_reducible refine gate_dst (N := 3) rfl ?_); (try refine ug_ (by rfl) ?_); refine bx_ #[.int .i64 a1_0, .int .i64 a1_1, .int .i64 a1_2, .int .i64 a1_3, .int .i64 a1_4, .int .u64 a1_5, .int .i64 a1_6, .slice A1_7 l1_7.length c1_7] 29 ?_; intro gb315 hg w12 BK315 hb; have GW315 := bz_ w hg; have GE315 := GW315; have NB314_315 := bn_ BK314 hg; have NB315_314 := bm_ BK314 hg; replace BK314 := bb_ BK314 hb; replace HB := bs_ w hb; clear hb hg; replace hn314_315 := NB314_315.out; replace hn315_314 := NB315_314.out; replace hc314 := ce8_ BK314; replace hc315 := ce8_ BK315))
   go_ret
   exact fi_
 ·rw [if_neg c3] at H
  have c3b0 : ((a0_0 == a1_0 && (a0_1 == a1_1 && (a0_2 == a1_2))) && (a0_3 == a1_3 && (a0_4 == a1_4 && (a0_5 == a1_5)))) = false := by simpa using c3
  clear c3
  obtain rfl := Option.some.inj H
  go_enter Try.func17, Try.ntmps17
  go_wp2_with (first | ((with_reducible refine gate_dst (N := 2) rfl ?_); (try refine ug_ (by rfl) ?_); refine bx_ #[.int .i64 a0_0, .int .i64 a0_1, .int .i64 a0_2, .int .i64 a0_3, .int .i64 a0_4, .int .u64 a0_5, .int .i64 a0_6, .slice A0_7 l0_7.length c0_7] 29 ?_; intro gb314 hg w16 BK314 hb; have GW314 := bz_ w hg; have GE314 := GW314; replace HB := bs_ w hb; clear hb hg) | ((with_reducible refine gate_dst (N := 3) rfl ?_); (try refine ug_ (by rfl) ?_); refine bx_ #[.int .i64 a1_0, .int .i64 a1_1, .int .i64 a1_2, .int .i64 a1_3, .int .i64 a1_4, .int .u64 a1_5, .int .i64 a1_6, .slice A1_7 l1_7.length c1_7] 29 ?_; intro gb315 hg w17 BK315 hb; have GW315 := bz_ w hg; have GE315 := GW315; have NB314_315 := bn_ BK314 hg; have NB315_314 := bm_ BK314 hg; replace BK314 := bb_ BK314 hb; replace HB := bs_ w hb; clear hb hg; replace hn314_315 := NB314_315.out; replace hn315_314 := NB315_314.out; replace hc314 := ce8_ BK314; replace hc315 := ce8_ BK315))
  go_ret
  exact fi_

end Go.Proofs.Ytbfdpodlnijeoaa.X
