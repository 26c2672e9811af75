-- written by xprint.py, a program of this session over the kit's print
import Derived.Test.YtjjmnafhaneflaaX0
import Derived.Test.YtjjmnafhaneflaaX9
import Derived.Test.YtjjmnafhaneflaaX10
namespace Go.Proofs.Ytjjmnafhaneflaa.X
open Go.RowKit Go.Proofs.YtjjmnafhaneflaaW.PrintWords Go.Proofs.YtjjmnafhaneflaaW.PrintLast Go.Proofs.YtjjmnafhaneflaaW.PrintMore
attribute [local go_sem] max2_int min2_int max_two min_two max_three min_three max_four min_four   -- for this text's walks alone
set_option linter.unusedVariables false
set_option linter.unusedSimpArgs false

/-! ### spigotref38_both: function 31 -/
def spigotref38_both.f (k : Nat) (a0_0 : Int) (a0_1 : Int) (l1 : List (S58)) : Option (Int) := (spigotref38_Check.f a0_0 a0_1).bind fun t137 => (if t137 = 0 then ((spigotref38_Charges.f k l1).bind fun t138 => (some t138)) else (some t137))
theorem spigotref38_both.mono : ∀ a0 a1 a2 k, LeO (spigotref38_both.f k a0 a1 a2) (spigotref38_both.f (k + 1) a0 a1 a2) := by
  intro a0 a1 a2 k
  unfold spigotref38_both.f
  repeat' first
      | (with_reducible exact spigotref38_Charges.mono _ _)
      | (with_reducible exact LeO.refl _)
      | (with_reducible exact LeO.none _)
      | (with_reducible refine LeO.ite ?_ ?_)
      | (with_reducible refine LeO.bind ?_ (fun _ => ?_))
      | exact spigotref38_Charges.mono _ _
      | exact LeO.none _
      | refine LeO.ite ?_ ?_
      | refine LeO.bind ?_ (fun _ => ?_)
set_option maxHeartbeats 8000000 in
set_option maxRecDepth 100000 in
theorem spigotref38_both.calls (k : Nat) (a0_0 : Int) (a0_1 : Int) (A1 : Option Addr) (c1 : Nat) (l1 : List (S58)) (r : Int) (w : World) (hr1 : Kd.C k58 w A1 l1.length l1) (hc1 : l1.length ≤ c1) (h : spigotref38_both.f k a0_0 a0_1 l1 = some r) :
  Calls Try.prog 31 #[.agg #[.int .i64 a0_0, .int .i64 a0_1], .slice A1 l1.length c1] w fun e w' => e = .returned (.int .i64 r) ∧ Below w.heap.size w w' := by
 have hu23 := Try.underlying23
 have HR1 := Aside0.mk hr1
 have HC1 := Aside0.mk hc1
 clear hr1 hc1
 have HB := Aside0.mk (Below.refl w.heap.size w)
 have H : ((spigotref38_Check.f a0_0 a0_1).bind fun t137 => (if t137 = 0 then ((spigotref38_Charges.f k l1).bind fun t138 => (some t138)) else (some t137))) = some r := h
 clear h
 obtain ⟨t137, A3, H⟩ := bo_ H
 replace H : (if t137 = 0 then ((spigotref38_Charges.f k l1).bind fun t138 => (some t138)) else (some t137)) = some r := H
 by_cases c4 : t137 = 0
 ·rw [if_pos c4] at H
  have c4b0 : (t137 == 0) = true := beq_iff_eq.mpr c4
  have c4b1 : (t137 != 0) = false := bne_eq_false_iff_eq.mpr c4
  clear c4
  obtain ⟨t138, A5, H⟩ := bo_ H
  replace H : (some t138) = some r := H
  obtain rfl := Option.some.inj H
  go_enter Try.func31, Try.ntmps31
  go_wp2_with (first | ((with_reducible refine gate_dst (N := 2) rfl ?_); refine bx_ #[.int .i64 a0_0, .int .i64 a0_1] 23 ?_; intro gb136 hg w6 BK136 hb; have GW136 := bz_ w hg; have GE136 := GW136; replace HB := bs_ w hb; clear hb hg; replace hc136 := ce2_ BK136) | ((with_reducible refine gate_callee (f := 22) rfl ?_); refine goesA_ (some 7) Try.func22 #[.agg #[.int .i64 a0_0, .int .i64 a0_1]] ?_; (with_reducible refine (spigotref38_Check.calls a0_0 a0_1 t137 _ A3.out).mono ?_); rintro e w8 ⟨rfl, hb⟩; refine ⟨_, rfl, ?_⟩; replace BK136 := bb_ BK136 hb; replace HB := bs_ w hb; clear hb) | ((with_reducible refine gate_callee (f := 24) rfl ?_); refine goesA_ (some 12) Try.func24 #[.slice A1 l1.length c1] ?_; (with_reducible refine (spigotref38_Charges.calls k _ _ l1 t138 _ ?side1 ?side2 A5.out).mono ?_); (case side1 => exact cs_ HR1 HB); (case side2 => exact HC1.out); rintro e w' ⟨rfl, ⟨nd, rfl⟩⟩; refine ⟨_, rfl, ?_⟩))
  go_ret
  exact fi_
 ·rw [if_neg c4] at H
  have c4b0 : (t137 == 0) = false := beq_eq_false_iff_ne.mpr c4
  have c4b1 : (t137 != 0) = true := bne_iff_ne.mpr c4
  obtain rfl := Option.some.inj H
  go_enter Try.func31, Try.ntmps31
  go_wp2_with (first | ((with_reducible refine gate_dst (N := 2) rfl ?_); refine bx_ #[.int .i64 a0_0, .int .i64 a0_1] 23 ?_; intro gb136 hg w9 BK136 hb; have GW136 := bz_ w hg; have GE136 := GW136; replace HB := bs_ w hb; clear hb hg; replace hc136 := ce2_ BK136) | ((with_reducible refine gate_callee (f := 22) rfl ?_); refine goesA_ (some 7) Try.func22 #[.agg #[.int .i64 a0_0, .int .i64 a0_1]] ?_; (with_reducible refine (spigotref38_Check.calls a0_0 a0_1 t137 _ A3.out).mono ?_); rintro e w11 ⟨rfl, hb⟩; refine ⟨_, rfl, ?_⟩; replace BK136 := bb_ BK136 hb; replace HB := bs_ w hb; clear hb))
  go_ret
  exact fi_

/-! ### spigotref38_Begin: function 32 -/
def spigotref38_Begin.f (a0_0 : Int) (a0_1 : Int) (a1 : Int) : Option (Int) := if (IntKind.u64.wrap (a0_1)) = 0 then (none) else (some (IntKind.u64.wrap ((IntKind.u64.wrap (Int.tdiv a1 (IntKind.u64.wrap (a0_1)))) * (IntKind.u64.wrap (a0_1)))))
set_option maxHeartbeats 8000000 in
set_option maxRecDepth 100000 in
theorem spigotref38_Begin.calls (a0_0 : Int) (a0_1 : Int) (a1 : Int) (r : Int) (w : World) (h : spigotref38_Begin.f a0_0 a0_1 a1 = some r) :
  Calls Try.prog 32 #[.agg #[.int .i64 a0_0, .int .i64 a0_1], .int .u64 a1] w fun e w' => e = .returned (.int .u64 r) ∧ Below w.heap.size w w' := by
 have hu23 := Try.underlying23
 have HB := Aside0.mk (Below.refl w.heap.size w)
 have H : (if (IntKind.u64.wrap (a0_1)) = 0 then (none) else (some (IntKind.u64.wrap ((IntKind.u64.wrap (Int.tdiv a1 (IntKind.u64.wrap (a0_1)))) * (IntKind.u64.wrap (a0_1)))))) = some r := h
 clear h
 by_cases c3 : (IntKind.u64.wrap (a0_1)) = 0
 ·rw [if_pos c3] at H; exact absurd H (by simp)
 rw [if_neg c3] at H
 have c3b0 : ((IntKind.u64.wrap (a0_1)) == 0) = false := beq_eq_false_iff_ne.mpr c3
 have c3b1 : ((IntKind.u64.wrap (a0_1)) != 0) = true := bne_iff_ne.mpr c3
 obtain rfl := Option.some.inj H
 go_enter Try.func32, Try.ntmps32
 go_wp2_with (first | ((with_reducible refine gate_dst (N := 2) rfl ?_); refine bx_ #[.int .i64 a0_0, .int .i64 a0_1] 23 ?_; intro gb139 hg w4 BK139 hb; have GW139 := bz_ w hg; have GE139 := GW139; replace HB := bs_ w hb; clear hb hg; obtain ⟨hcz5_0, hcz5_1, hfz5_0, hfz5_1⟩ := ce2_ BK139))
 repeat (go_quiet (first | ((with_reducible refine gate_dst (N := 2) rfl ?_); refine bx_ #[.int .i64 a0_0, .int .i64 a0_1] 23 ?_; intro gb139 hg w4 BK139 hb; have GW139 := bz_ w hg; have GE139 := GW139; replace HB := bs_ w hb; clear hb hg; obtain ⟨hcz5_0, hcz5_1, hfz5_0, hfz5_1⟩ := ce2_ BK139)); try go_wp2_with (first | ((with_reducible refine gate_dst (N := 2) rfl ?_); refine bx_ #[.int .i64 a0_0, .int .i64 a0_1] 23 ?_; intro gb139 hg w4 BK139 hb; have GW139 := bz_ w hg; have GE139 := GW139; replace HB := bs_ w hb; clear hb hg; obtain ⟨hcz5_0, hcz5_1, hfz5_0, hfz5_1⟩ := ce2_ BK139)))
 go_ret
 exact fi_

end Go.Proofs.Ytjjmnafhaneflaa.X
