-- written by xprint.py, a program of this session over the kit's print
import Derived.Test.YtjjmnafhaneflaaX0
import Derived.Test.YtjjmnafhaneflaaX4
import Derived.Test.YtjjmnafhaneflaaX8
import Derived.Test.YtjjmnafhaneflaaX12
import Derived.Test.YtjjmnafhaneflaaX14
import Derived.Test.YtjjmnafhaneflaaX15
import Derived.Test.YtjjmnafhaneflaaX16
namespace Go.Proofs.Ytjjmnafhaneflaa.X
open Go.RowKit Go.Proofs.YtjjmnafhaneflaaW.PrintWords Go.Proofs.YtjjmnafhaneflaaW.PrintLast Go.Proofs.YtjjmnafhaneflaaW.PrintMore
attribute [local go_sem] max2_int min2_int max_two min_two max_three min_three max_four min_four   -- for this text's walks alone
set_option linter.unusedVariables false
set_option linter.unusedSimpArgs false

/-! ### spigotlaw38_WindowCounts: function 3 -/
def spigotlaw38_WindowCounts.f (k : Nat) (a0_0 : Int) (a0_1 : Int) (l1 : List (S58)) : Option (Bool) := (spigotref38_Great.f l1).bind fun t177 => (if t177 = true then (some true) else ((window_Counts.f k a0_0 a0_1 l1).bind fun bt178 => ((spigotref38_Counts.f k a0_0 a0_1 l1).bind fun bt182 => ((window_Most.f k a0_0 a0_1 l1).bind fun bt186 => ((spigotref38_Most.f k a0_0 a0_1 l1).bind fun bt188 => ((spigotref38_SameCounts.f k bt178.1 bt182.1).bind fun t190 => (if t190 = true then (if bt178.2 = bt182.2 then (if bt186.1 = bt188.1 then (some (bt186.2 == bt188.2)) else (none)) else (none)) else (none))))))))
theorem spigotlaw38_WindowCounts.mono : ∀ a0 a1 a2 k, LeO (spigotlaw38_WindowCounts.f k a0 a1 a2) (spigotlaw38_WindowCounts.f (k + 1) a0 a1 a2) := by
  intro a0 a1 a2 k
  unfold spigotlaw38_WindowCounts.f
  repeat' first
      | (with_reducible exact spigotref38_Counts.mono _ _ _ _)
      | (with_reducible exact spigotref38_Most.mono _ _ _ _)
      | (with_reducible exact spigotref38_SameCounts.mono _ _ _)
      | (with_reducible exact window_Counts.mono _ _ _ _)
      | (with_reducible exact window_Most.mono _ _ _ _)
      | (with_reducible exact LeO.refl _)
      | (with_reducible exact LeO.none _)
      | (with_reducible refine LeO.ite ?_ ?_)
      | (with_reducible refine LeO.bind ?_ (fun _ => ?_))
      | exact spigotref38_Counts.mono _ _ _ _
      | exact spigotref38_Most.mono _ _ _ _
      | exact spigotref38_SameCounts.mono _ _ _
      | exact window_Counts.mono _ _ _ _
      | exact window_Most.mono _ _ _ _
      | exact LeO.none _
      | refine LeO.ite ?_ ?_
      | refine LeO.bind ?_ (fun _ => ?_)
set_option maxHeartbeats 8000000 in
set_option maxRecDepth 100000 in
theorem spigotlaw38_WindowCounts.calls (k : Nat) (a0_0 : Int) (a0_1 : Int) (A1 : Option Addr) (c1 : Nat) (l1 : List (S58)) (r : Bool) (w : World) (hr1 : Kd.C k58 w A1 l1.length l1) (hc1 : l1.length ≤ c1) (h : spigotlaw38_WindowCounts.f k a0_0 a0_1 l1 = some r) :
  Calls Try.prog 3 #[.agg #[.int .i64 a0_0, .int .i64 a0_1], .slice A1 l1.length c1] w fun e w' => e = .returned (.bool r) ∧ Below w.heap.size w w' := by
 have hu23 := Try.underlying23
 have HR1 := Aside0.mk hr1
 have HC1 := Aside0.mk hc1
 clear hr1 hc1
 have HB := Aside0.mk (Below.refl w.heap.size w)
 have H : ((spigotref38_Great.f l1).bind fun t177 => (if t177 = true then (some true) else ((window_Counts.f k a0_0 a0_1 l1).bind fun bt178 => ((spigotref38_Counts.f k a0_0 a0_1 l1).bind fun bt182 => ((window_Most.f k a0_0 a0_1 l1).bind fun bt186 => ((spigotref38_Most.f k a0_0 a0_1 l1).bind fun bt188 => ((spigotref38_SameCounts.f k bt178.1 bt182.1).bind fun t190 => (if t190 = true then (if bt178.2 = bt182.2 then (if bt186.1 = bt188.1 then (some (bt186.2 == bt188.2)) else (none)) else (none)) else (none))))))))) = some r := h
 clear h
 obtain ⟨t177, A3, H⟩ := bo_ H
 try dsimp only at H
 by_cases c4 : t177 = true
 ·subst c4
  replace H : (some true) = some r := by rw [if_pos rfl] at H; exact H
  obtain rfl := Option.some.inj H
  go_enter Try.func3, Try.ntmps3
  go_wp2_with (first | ((with_reducible refine gate_dst (N := 2) rfl ?_); (try refine ug_ (by rfl) ?_); refine bx_ #[.int .i64 a0_0, .int .i64 a0_1] 23 ?_; intro gb176 hg w5 BK176 hb; have GW176 := bz_ w hg; have GE176 := GW176; replace HB := bs_ w hb; clear hb hg) | ((with_reducible refine gate_callee (f := 9) rfl ?_); (try refine ug_ (by rfl) ?_); refine goesA_ (some 14) Try.func9 #[.slice A1 l1.length c1] ?_; (with_reducible refine (spigotref38_Great.calls _ _ l1 true _ ?side1 ?side2 A3.out).mono ?_); (case side1 => exact cs_ HR1 HB); (case side2 => exact HC1.out); rintro e w' ⟨rfl, ⟨nd, rfl⟩⟩; refine ⟨_, rfl, ?_⟩))
  go_ret
  exact fi_
 ·replace c4 := Bool.eq_false_iff.mpr c4
  subst c4
  rw [if_neg (show ¬ (false = true) by decide)] at H
  try dsimp only at H
  obtain ⟨⟨t178, t181⟩, A6, H⟩ := bo_ H
  try dsimp only at H
  obtain ⟨⟨t182, t185⟩, A7, H⟩ := bo_ H
  try dsimp only at H
  obtain ⟨⟨t186, t187⟩, A8, H⟩ := bo_ H
  try dsimp only at H
  obtain ⟨⟨t188, t189⟩, A9, H⟩ := bo_ H
  try dsimp only at H
  obtain ⟨t190, A10, H⟩ := bo_ H
  replace H : (if t190 = true then (if t181 = t185 then (if t186 = t188 then (some (t187 == t189)) else (none)) else (none)) else (none)) = some r := H
  by_cases c11 : t190 = true
  ·subst c11
   rw [if_pos rfl] at H
   try dsimp only at H
   by_cases c12 : t181 = t185
   rotate_left
   ·rw [if_neg c12] at H; exact absurd H (by simp)
   rw [if_pos c12] at H
   have c12b0 : (t181 == t185) = true := beq_iff_eq.mpr c12
   have c12b1 : (t181 != t185) = false := bne_eq_false_iff_eq.mpr c12
   clear c12
   by_cases c13 : t186 = t188
   rotate_left
   ·rw [if_neg c13] at H; exact absurd H (by simp)
   rw [if_pos c13] at H
   have c13b0 : (t186 == t188) = true := beq_iff_eq.mpr c13
   have c13b1 : (t186 != t188) = false := bne_eq_false_iff_eq.mpr c13
   clear c13
   obtain rfl := Option.some.inj H
   go_enter Try.func3, Try.ntmps3
   go_wp2_with (first | ((with_reducible refine gate_dst (N := 2) rfl ?_); (try refine ug_ (by rfl) ?_); refine bx_ #[.int .i64 a0_0, .int .i64 a0_1] 23 ?_; intro gb176 hg w14 BK176 hb; have GW176 := bz_ w hg; have GE176 := GW176; replace HB := bs_ w hb; clear hb hg) | ((with_reducible refine gate_callee (f := 9) rfl ?_); (try refine ug_ (by rfl) ?_); refine goesA_ (some 14) Try.func9 #[.slice A1 l1.length c1] ?_; (with_reducible refine (spigotref38_Great.calls _ _ l1 false _ ?side1 ?side2 A3.out).mono ?_); (case side1 => exact cs_ HR1 HB); (case side2 => exact HC1.out); rintro e w' ⟨rfl, ⟨nd, rfl⟩⟩; refine ⟨_, rfl, ?_⟩; replace hc176 := ce2_ BK176) | ((with_reducible refine gate_callee (f := 10) rfl ?_); (try refine ug_ (by rfl) ?_); refine goesA_ (some 18) Try.func10 #[.agg #[.int .i64 a0_0, .int .i64 a0_1], .slice A1 l1.length c1] ?_; (with_reducible refine (window_Counts.calls k a0_0 a0_1 _ _ l1 t178 t181 _ ?side1 ?side2 A6.out).mono ?_); (case side1 => repeat (first | exact (Kd.C_below HR1.out bh_) | (with_reducible refine Kd.C_alloc ?_ _) | (with_reducible refine Kd.C_drewN ?_ _) | (with_reducible refine Kd.C_drew ?_))); (case side2 => exact HC1.out); rintro e w16 ⟨v179, rfl, ho0, hb⟩; refine ⟨_, rfl, ?_⟩; have HO180 := Aside0.mk (Kd.R_lower ho0 (below_size bh_)); replace BK176 := bb_ BK176 hb; replace HB := bs_ w hb; (try clear hb); (try clear hb2); (try clear hk); (try clear hi); (try clear ho0); replace hc176 := ce2_ BK176) | ((with_reducible refine gate_callee (f := 11) rfl ?_); (try refine ug_ (by rfl) ?_); refine goesA_ (some 24) Try.func11 #[.agg #[.int .i64 a0_0, .int .i64 a0_1], .slice A1 l1.length c1] ?_; (with_reducible refine (spigotref38_Counts.calls k a0_0 a0_1 _ _ l1 t182 t185 _ ?side1 ?side2 A7.out).mono ?_); (case side1 => exact cs_ HR1 HB); (case side2 => exact HC1.out); rintro e w18 ⟨v183, rfl, ho0, hb⟩; refine ⟨_, rfl, ?_⟩; have HO184 := Aside0.mk (Kd.R_lower (Kd.R_new' ho0 (Kd.R_lt (rs_ HO180))) (below_size bh_)); replace HO180 := Aside0.mk (Kd.R_elder' (rs_ HO180) (Kd.R_base ho0) hb); replace BK176 := bb_ BK176 hb; replace HB := bs_ w hb; (try clear hb); (try clear hb2); (try clear hk); (try clear hi); (try clear ho0); replace hc176 := ce2_ BK176) | ((with_reducible refine gate_callee (f := 12) rfl ?_); (try refine ug_ (by rfl) ?_); refine goesA_ (some 30) Try.func12 #[.agg #[.int .i64 a0_0, .int .i64 a0_1], .slice A1 l1.length c1] ?_; (with_reducible refine (window_Most.calls k a0_0 a0_1 _ _ l1 t186 t187 _ ?side1 ?side2 A8.out).mono ?_); (case side1 => exact cs_ HR1 HB); (case side2 => exact HC1.out); rintro e w20 ⟨rfl, hb⟩; refine ⟨_, rfl, ?_⟩; replace HO180 := rb_ HO180 hb; replace HO184 := rb_ HO184 hb; replace BK176 := bb_ BK176 hb; replace HB := bs_ w hb; clear hb; replace hc176 := ce2_ BK176) | ((with_reducible refine gate_callee (f := 13) rfl ?_); (try refine ug_ (by rfl) ?_); refine goesA_ (some 36) Try.func13 #[.agg #[.int .i64 a0_0, .int .i64 a0_1], .slice A1 l1.length c1] ?_; (with_reducible refine (spigotref38_Most.calls k a0_0 a0_1 _ _ l1 t188 t189 _ ?side1 ?side2 A9.out).mono ?_); (case side1 => exact cs_ HR1 HB); (case side2 => exact HC1.out); rintro e w22 ⟨rfl, hb⟩; refine ⟨_, rfl, ?_⟩; replace HO180 := rb_ HO180 hb; replace HO184 := rb_ HO184 hb; replace BK176 := bb_ BK176 hb; replace HB := bs_ w hb; clear hb; obtain ⟨Ao23, co23, eo23⟩ := Kd.R_slice HO180.out; subst eo23; obtain ⟨Ao24, co24, eo24⟩ := Kd.R_slice HO184.out; subst eo24) | ((with_reducible refine gate_callee (f := 14) rfl ?_); (try refine ug_ (by rfl) ?_); refine goesA_ (some 41) Try.func14 #[.slice Ao23 t178.length co23, .slice Ao24 t182.length co24] ?_; (with_reducible refine (spigotref38_SameCounts.calls k _ _ t178 _ _ t182 true _ ?side1 ?side2 ?side3 ?side4 A10.out).mono ?_); (case side1 => exact cr_ HO180); (case side2 => exact (Kd.R_reads' HO180.out).2.1); (case side3 => exact cr_ HO184); (case side4 => exact (Kd.R_reads' HO184.out).2.1); rintro e w' ⟨rfl, ⟨nd, rfl⟩⟩; refine ⟨_, rfl, ?_⟩))
   go_ret
   exact fi_
  ·replace c11 := Bool.eq_false_iff.mpr c11
   subst c11
   replace H : (none) = some r := by rw [if_neg (show ¬ (false = true) by decide)] at H; exact H
   exact absurd H (by simp)

end Go.Proofs.Ytjjmnafhaneflaa.X
