-- written by xprint.py, a program of this session over the kit's print
import Derived.Test.YtfdpcnkghmmobaaX0
import Derived.Test.YtfdpcnkghmmobaaX20
import Derived.Test.YtfdpcnkghmmobaaX21
namespace Go.Proofs.Ytfdpcnkghmmobaa.X
open Go.RowKit Go.Proofs.YtfdpcnkghmmobaaW.PrintWords Go.Proofs.YtfdpcnkghmmobaaW.PrintLast Go.Proofs.YtfdpcnkghmmobaaW.PrintMore
attribute [local go_sem] max2_int min2_int max_two min_two max_three min_three max_four min_four   -- for this text's walks alone
set_option linter.unusedVariables false
set_option linter.unusedSimpArgs false

/-! ### spigotref39_Both: function 33 -/
def spigotref39_Both.f (k : Nat) (l0 : List (S63)) (l1 : List Int) : Option (Int) := (spigotref04_Check.f k l0).bind fun t232 => (if t232 = 0 then ((spigotref39_Costs.f k l1).bind fun t233 => (some t233)) else (some t232))
theorem spigotref39_Both.mono : ∀ a0 a1 k, LeO (spigotref39_Both.f k a0 a1) (spigotref39_Both.f (k + 1) a0 a1) := by
  intro a0 a1 k
  unfold spigotref39_Both.f
  repeat' first
      | (with_reducible exact spigotref04_Check.mono _ _)
      | (with_reducible exact spigotref39_Costs.mono _ _)
      | (with_reducible exact LeO.refl _)
      | (with_reducible exact LeO.none _)
      | (with_reducible refine LeO.ite ?_ ?_)
      | (with_reducible refine LeO.bind ?_ (fun _ => ?_))
      | exact spigotref04_Check.mono _ _
      | exact spigotref39_Costs.mono _ _
      | exact LeO.none _
      | refine LeO.ite ?_ ?_
      | refine LeO.bind ?_ (fun _ => ?_)
set_option maxHeartbeats 8000000 in
set_option maxRecDepth 100000 in
theorem spigotref39_Both.calls (k : Nat) (A0 : Option Addr) (c0 : Nat) (l0 : List (S63)) (A1 : Option Addr) (c1 : Nat) (l1 : List Int) (r : Int) (w : World) (hr0 : Kd.C k63 w A0 l0.length l0) (hc0 : l0.length ≤ c0) (hr1 : Kd.C (Kd.int .i64) w A1 l1.length l1) (hc1 : l1.length ≤ c1) (h : spigotref39_Both.f k l0 l1 = some r) :
  Calls Try.prog 33 #[.slice A0 l0.length c0, .slice A1 l1.length c1] w fun e w' => e = .returned (.int .i64 r) ∧ Below w.heap.size w w' := by
 have HR0 := Aside0.mk hr0
 have HC0 := Aside0.mk hc0
 clear hr0 hc0
 have HR1 := Aside0.mk hr1
 have HC1 := Aside0.mk hc1
 clear hr1 hc1
 have HB := Aside0.mk (Below.refl w.heap.size w)
 have H : ((spigotref04_Check.f k l0).bind fun t232 => (if t232 = 0 then ((spigotref39_Costs.f k l1).bind fun t233 => (some t233)) else (some t232))) = some r := h
 clear h
 have H0_ := bo_ H; clear H; obtain ⟨t232, A3, H⟩ := H0_
 replace H : (if t232 = 0 then ((spigotref39_Costs.f k l1).bind fun t233 => (some t233)) else (some t232)) = some r := H
 by_cases c4 : t232 = 0
 ·rw [if_pos c4] at H
  have c4b0 : (t232 == 0) = true := beq_iff_eq.mpr c4
  have c4b1 : (t232 != 0) = false := bne_eq_false_iff_eq.mpr c4
  clear c4
  have H0_ := bo_ H; clear H; obtain ⟨t233, A5, H⟩ := H0_
  replace H : (some t233) = some r := H
  obtain rfl := Option.some.inj H
  go_enter Try.func33, Try.ntmps33
  go_wp2_with (first | ((with_reducible refine gate_callee (f := 50) rfl ?_); refine goesA_ (some 7) Try.func50 #[.slice A0 l0.length c0] ?_; (with_reducible refine (spigotref04_Check.calls k _ _ l0 t232 _ ?side1 ?side2 A3.out).mono ?_); (case side1 => exact ch_ HR0); (case side2 => exact HC0.out); rintro e w6 ⟨rfl, hb⟩; refine ⟨_, rfl, ?_⟩; replace HB := bs_ w hb; clear hb) | ((with_reducible refine gate_callee (f := 22) rfl ?_); refine goesA_ (some 12) Try.func22 #[.slice A1 l1.length c1] ?_; (with_reducible refine (spigotref39_Costs.calls k _ _ l1 t233 _ ?side1 ?side2 A5.out).mono ?_); (case side1 => exact cs_ HR1 HB); (case side2 => exact HC1.out); rintro e w' ⟨rfl, ⟨nd, rfl⟩⟩; refine ⟨_, rfl, ?_⟩))
  go_ret
  exact fi_
 ·rw [if_neg c4] at H
  have c4b0 : (t232 == 0) = false := beq_eq_false_iff_ne.mpr c4
  have c4b1 : (t232 != 0) = true := bne_iff_ne.mpr c4
  obtain rfl := Option.some.inj H
  go_enter Try.func33, Try.ntmps33
  go_wp2_with (first | ((with_reducible refine gate_callee (f := 50) rfl ?_); refine goesA_ (some 7) Try.func50 #[.slice A0 l0.length c0] ?_; (with_reducible refine (spigotref04_Check.calls k _ _ l0 t232 _ ?side1 ?side2 A3.out).mono ?_); (case side1 => exact ch_ HR0); (case side2 => exact HC0.out); rintro e w7 ⟨rfl, hb⟩; refine ⟨_, rfl, ?_⟩; replace HB := bs_ w hb; clear hb))
  go_ret
  exact fi_

/-! ### spigotref04_asked: function 51 -/
def spigotref04_asked.f (k : Nat) (l0 : List (S63)) (a1 : Int) : Option (Int) := (spigotref04_Check.f k l0).bind fun t234 => (if t234 = 0 then (if a1 < 0 then (some 2) else (some 0)) else ((spigotref04_Check.f k l0).bind fun t235 => (some t235)))
theorem spigotref04_asked.mono : ∀ a0 a1 k, LeO (spigotref04_asked.f k a0 a1) (spigotref04_asked.f (k + 1) a0 a1) := by
  intro a0 a1 k
  unfold spigotref04_asked.f
  repeat' first
      | (with_reducible exact spigotref04_Check.mono _ _)
      | (with_reducible exact LeO.refl _)
      | (with_reducible exact LeO.none _)
      | (with_reducible refine LeO.ite ?_ ?_)
      | (with_reducible refine LeO.bind ?_ (fun _ => ?_))
      | exact spigotref04_Check.mono _ _
      | exact LeO.none _
      | refine LeO.ite ?_ ?_
      | refine LeO.bind ?_ (fun _ => ?_)
set_option maxHeartbeats 8000000 in
set_option maxRecDepth 100000 in
theorem spigotref04_asked.calls (k : Nat) (A0 : Option Addr) (c0 : Nat) (l0 : List (S63)) (a1 : Int) (r : Int) (w : World) (hr0 : Kd.C k63 w A0 l0.length l0) (hc0 : l0.length ≤ c0) (h : spigotref04_asked.f k l0 a1 = some r) :
  Calls Try.prog 51 #[.slice A0 l0.length c0, .int .i64 a1] w fun e w' => e = .returned (.int .i64 r) ∧ Below w.heap.size w w' := by
 have HR0 := Aside0.mk hr0
 have HC0 := Aside0.mk hc0
 clear hr0 hc0
 have HB := Aside0.mk (Below.refl w.heap.size w)
 have H : ((spigotref04_Check.f k l0).bind fun t234 => (if t234 = 0 then (if a1 < 0 then (some 2) else (some 0)) else ((spigotref04_Check.f k l0).bind fun t235 => (some t235)))) = some r := h
 clear h
 have H0_ := bo_ H; clear H; obtain ⟨t234, A3, H⟩ := H0_
 replace H : (if t234 = 0 then (if a1 < 0 then (some 2) else (some 0)) else ((spigotref04_Check.f k l0).bind fun t235 => (some t235))) = some r := H
 by_cases c4 : t234 = 0
 ·rw [if_pos c4] at H
  have c4b0 : (t234 == 0) = true := beq_iff_eq.mpr c4
  have c4b1 : (t234 != 0) = false := bne_eq_false_iff_eq.mpr c4
  clear c4
  by_cases c5 : a1 < 0
  ·rw [if_pos c5] at H
   have c5b0 : decide (a1 < 0) = true := decide_eq_true c5
   clear c5
   obtain rfl := Option.some.inj H
   go_enter Try.func51, Try.ntmps51
   go_wp2_with (first | ((with_reducible refine gate_callee (f := 50) rfl ?_); refine goesA_ (some 6) Try.func50 #[.slice A0 l0.length c0] ?_; (with_reducible refine (spigotref04_Check.calls k _ _ l0 t234 _ ?side1 ?side2 A3.out).mono ?_); (case side1 => exact ch_ HR0); (case side2 => exact HC0.out); rintro e w6 ⟨rfl, hb⟩; refine ⟨_, rfl, ?_⟩; replace HB := bs_ w hb; clear hb))
   go_ret
   exact fi_
  ·rw [if_neg c5] at H
   have c5b0 : decide (a1 < 0) = false := decide_eq_false c5
   clear c5
   obtain rfl := Option.some.inj H
   go_enter Try.func51, Try.ntmps51
   go_wp2_with (first | ((with_reducible refine gate_callee (f := 50) rfl ?_); refine goesA_ (some 6) Try.func50 #[.slice A0 l0.length c0] ?_; (with_reducible refine (spigotref04_Check.calls k _ _ l0 t234 _ ?side1 ?side2 A3.out).mono ?_); (case side1 => exact ch_ HR0); (case side2 => exact HC0.out); rintro e w7 ⟨rfl, hb⟩; refine ⟨_, rfl, ?_⟩; replace HB := bs_ w hb; clear hb))
   go_ret
   exact fi_
 ·rw [if_neg c4] at H
  have c4b0 : (t234 == 0) = false := beq_eq_false_iff_ne.mpr c4
  have c4b1 : (t234 != 0) = true := bne_iff_ne.mpr c4
  have H0_ := bo_ H; clear H; obtain ⟨t235, A8, H⟩ := H0_
  replace H : (some t235) = some r := H
  obtain rfl := Option.some.inj H
  go_enter Try.func51, Try.ntmps51
  go_wp2_with (first | ((with_reducible refine gate_callee (f := 50) rfl ?_); refine goesA_ (some 6) Try.func50 #[.slice A0 l0.length c0] ?_; (with_reducible refine (spigotref04_Check.calls k _ _ l0 t234 _ ?side1 ?side2 A3.out).mono ?_); (case side1 => exact ch_ HR0); (case side2 => exact HC0.out); rintro e w9 ⟨rfl, hb⟩; refine ⟨_, rfl, ?_⟩; replace HB := bs_ w hb; clear hb) | ((with_reducible refine gate_callee (f := 50) rfl ?_); refine goesA_ (some 9) Try.func50 #[.slice A0 l0.length c0] ?_; (with_reducible refine (spigotref04_Check.calls k _ _ l0 t235 _ ?side1 ?side2 A8.out).mono ?_); (case side1 => exact cs_ HR0 HB); (case side2 => exact HC0.out); rintro e w10 ⟨rfl, hb⟩; refine ⟨_, rfl, ?_⟩; replace HB := bs_ w hb; clear hb))
  go_ret
  exact fi_

/-! ### spigotref01_Add: function 76 -/
def spigotref01_Add.f (a0_0 : Int) (a0_1 : Int) (a1_0 : Int) (a1_1 : Int) : Option (Int × Int × Int) := if a1_1 > (IntKind.u64.wrap (18446744073709551615 - a0_1)) then (if a1_0 > (IntKind.u64.wrap (18446744073709551615 - a0_0)) then (some (0, 0, 16)) else (if (IntKind.u64.wrap (a0_0 + a1_0)) = 18446744073709551615 then (some (0, 0, 16)) else (some (IntKind.u64.wrap ((IntKind.u64.wrap (a0_0 + a1_0)) + 1), IntKind.u64.wrap (a0_1 + a1_1), 0)))) else (if a1_0 > (IntKind.u64.wrap (18446744073709551615 - a0_0)) then (some (0, 0, 16)) else (some (IntKind.u64.wrap (IntKind.u64.wrap (a0_0 + a1_0)), IntKind.u64.wrap (a0_1 + a1_1), 0)))
set_option maxHeartbeats 8000000 in
set_option maxRecDepth 100000 in
theorem spigotref01_Add.calls (a0_0 : Int) (a0_1 : Int) (a1_0 : Int) (a1_1 : Int) (r1 : Int) (r2 : Int) (r3 : Int) (w : World) (h : spigotref01_Add.f a0_0 a0_1 a1_0 a1_1 = some (r1, r2, r3)) :
  Calls Try.prog 76 #[.agg #[.int .u64 a0_0, .int .u64 a0_1], .agg #[.int .u64 a1_0, .int .u64 a1_1]] w fun e w' => e = .returned (.tuple #[.agg #[.int .u64 r1, .int .u64 r2], .int .i64 r3]) ∧ Below w.heap.size w w' := by
 have hu97 := Try.underlying97
 have HB := Aside0.mk (Below.refl w.heap.size w)
 have H : (if a1_1 > (IntKind.u64.wrap (18446744073709551615 - a0_1)) then (if a1_0 > (IntKind.u64.wrap (18446744073709551615 - a0_0)) then (some (0, 0, 16)) else (if (IntKind.u64.wrap (a0_0 + a1_0)) = 18446744073709551615 then (some (0, 0, 16)) else (some (IntKind.u64.wrap ((IntKind.u64.wrap (a0_0 + a1_0)) + 1), IntKind.u64.wrap (a0_1 + a1_1), 0)))) else (if a1_0 > (IntKind.u64.wrap (18446744073709551615 - a0_0)) then (some (0, 0, 16)) else (some (IntKind.u64.wrap (IntKind.u64.wrap (a0_0 + a1_0)), IntKind.u64.wrap (a0_1 + a1_1), 0)))) = some (r1, r2, r3) := h
 clear h
 by_cases c3 : a1_1 > (IntKind.u64.wrap (18446744073709551615 - a0_1))
 ·rw [if_pos c3] at H
  have c3b0 : decide ((IntKind.u64.wrap (18446744073709551615 - a0_1)) < a1_1) = true := decide_eq_true c3
  clear c3
  by_cases c4 : a1_0 > (IntKind.u64.wrap (18446744073709551615 - a0_0))
  ·rw [if_pos c4] at H
   have c4b0 : decide ((IntKind.u64.wrap (18446744073709551615 - a0_0)) < a1_0) = true := decide_eq_true c4
   clear c4
   simp only [Option.some.injEq, Prod.mk.injEq] at H
   obtain ⟨rfl, rfl, rfl⟩ := H
   go_enter Try.func76, Try.ntmps76
   go_wp2_with (first | ((with_reducible refine gate_dst (N := 2) rfl ?_); (try refine ug_ (by rfl) ?_); refine bx_ #[.int .u64 a0_0, .int .u64 a0_1] 97 ?_; intro gb236 hg w5 BK236 hb; have GW236 := bz_ w hg; have GE236 := GW236; replace HB := bs_ w hb; clear hb hg) | ((with_reducible refine gate_dst (N := 3) rfl ?_); (try refine ug_ (by rfl) ?_); refine bx_ #[.int .u64 a1_0, .int .u64 a1_1] 97 ?_; intro gb237 hg w6 BK237 hb; have GW237 := bz_ w hg; have GE237 := GW237; have NB236_237 := bn_ BK236 hg; have NB237_236 := bm_ BK236 hg; replace BK236 := bb_ BK236 hb; replace HB := bs_ w hb; clear hb hg) | ((with_reducible refine gate_dst (N := 4) rfl ?_); (try refine ug_ (by rfl) ?_); refine bx_ #[.int .u64 0, .int .u64 0] 97 ?_; intro gb238 hg w7 BK238 hb; have GW238 := bz_ w hg; have GE238 := GW238; have NB236_238 := bn_ BK236 hg; have NB238_236 := bm_ BK236 hg; have NB237_238 := bn_ BK237 hg; have NB238_237 := bm_ BK237 hg; replace BK236 := bb_ BK236 hb; replace BK237 := bb_ BK237 hb; replace HB := bs_ w hb; clear hb hg; replace hn237_236 := NB237_236.out; replace hn236_237 := NB236_237.out; replace hn237_238 := NB237_238.out; replace hn238_237 := NB238_237.out; replace hc237 := ce2_ BK237; replace hn236_238 := NB236_238.out; replace hn238_236 := NB238_236.out; replace hc236 := ce2_ BK236; replace hc238 := ce2_ BK238))
   refine bodyPost_ret (results_ct rfl _ _ gb238 97 #[.int .u64 0, .int .u64 0] (0, 0) _ rfl (bp2_ (bq_ BK238)) Try.underlying97 rfl (by kernel_rfl)) rfl ?_
   exact fi_
  ·rw [if_neg c4] at H
   have c4b0 : decide ((IntKind.u64.wrap (18446744073709551615 - a0_0)) < a1_0) = false := decide_eq_false c4
   clear c4
   by_cases c14 : (IntKind.u64.wrap (a0_0 + a1_0)) = 18446744073709551615
   ·rw [if_pos c14] at H
    have c14b0 : ((IntKind.u64.wrap (a0_0 + a1_0)) == 18446744073709551615) = true := beq_iff_eq.mpr c14
    have c14b1 : ((IntKind.u64.wrap (a0_0 + a1_0)) != 18446744073709551615) = false := bne_eq_false_iff_eq.mpr c14
    clear c14
    simp only [Option.some.injEq, Prod.mk.injEq] at H
    obtain ⟨rfl, rfl, rfl⟩ := H
    go_enter Try.func76, Try.ntmps76
    go_wp2_with (first | ((with_reducible refine gate_dst (N := 2) rfl ?_); (try refine ug_ (by rfl) ?_); refine bx_ #[.int .u64 a0_0, .int .u64 a0_1] 97 ?_; intro gb236 hg w15 BK236 hb; have GW236 := bz_ w hg; have GE236 := GW236; replace HB := bs_ w hb; clear hb hg) | ((with_reducible refine gate_dst (N := 3) rfl ?_); (try refine ug_ (by rfl) ?_); refine bx_ #[.int .u64 a1_0, .int .u64 a1_1] 97 ?_; intro gb237 hg w16 BK237 hb; have GW237 := bz_ w hg; have GE237 := GW237; have NB236_237 := bn_ BK236 hg; have NB237_236 := bm_ BK236 hg; replace BK236 := bb_ BK236 hb; replace HB := bs_ w hb; clear hb hg) | ((with_reducible refine gate_dst (N := 4) rfl ?_); (try refine ug_ (by rfl) ?_); refine bx_ #[.int .u64 0, .int .u64 0] 97 ?_; intro gb238 hg w17 BK238 hb; have GW238 := bz_ w hg; have GE238 := GW238; have NB236_238 := bn_ BK236 hg; have NB238_236 := bm_ BK236 hg; have NB237_238 := bn_ BK237 hg; have NB238_237 := bm_ BK237 hg; replace BK236 := bb_ BK236 hb; replace BK237 := bb_ BK237 hb; replace HB := bs_ w hb; clear hb hg; replace hn237_236 := NB237_236.out; replace hn236_237 := NB236_237.out; replace hn237_238 := NB237_238.out; replace hn238_237 := NB238_237.out; replace hc237 := ce2_ BK237; replace hn236_238 := NB236_238.out; replace hn238_236 := NB238_236.out; replace hc236 := ce2_ BK236; replace hc238 := ce2_ BK238))
    refine bodyPost_ret (results_ct rfl _ _ gb238 97 #[.int .u64 0, .int .u64 0] (0, 0) _ rfl (bp2_ (bq_ BK238)) Try.underlying97 rfl (by kernel_rfl)) rfl ?_
    exact fi_
   ·rw [if_neg c14] at H
    have c14b0 : ((IntKind.u64.wrap (a0_0 + a1_0)) == 18446744073709551615) = false := beq_eq_false_iff_ne.mpr c14
    have c14b1 : ((IntKind.u64.wrap (a0_0 + a1_0)) != 18446744073709551615) = true := bne_iff_ne.mpr c14
    simp only [Option.some.injEq, Prod.mk.injEq] at H
    obtain ⟨rfl, rfl, rfl⟩ := H
    go_enter Try.func76, Try.ntmps76
    go_wp2_with (first | ((with_reducible refine gate_dst (N := 2) rfl ?_); (try refine ug_ (by rfl) ?_); refine bx_ #[.int .u64 a0_0, .int .u64 a0_1] 97 ?_; intro gb236 hg w24 BK236 hb; have GW236 := bz_ w hg; have GE236 := GW236; replace HB := bs_ w hb; clear hb hg) | ((with_reducible refine gate_dst (N := 3) rfl ?_); (try refine ug_ (by rfl) ?_); refine bx_ #[.int .u64 a1_0, .int .u64 a1_1] 97 ?_; intro gb237 hg w25 BK237 hb; have GW237 := bz_ w hg; have GE237 := GW237; have NB236_237 := bn_ BK236 hg; have NB237_236 := bm_ BK236 hg; replace BK236 := bb_ BK236 hb; replace HB := bs_ w hb; clear hb hg) | ((with_reducible refine gate_dst (N := 4) rfl ?_); (try refine ug_ (by rfl) ?_); refine bx_ #[.int .u64 0, .int .u64 0] 97 ?_; intro gb238 hg w26 BK238 hb; have GW238 := bz_ w hg; have GE238 := GW238; have NB236_238 := bn_ BK236 hg; have NB238_236 := bm_ BK236 hg; have NB237_238 := bn_ BK237 hg; have NB238_237 := bm_ BK237 hg; replace BK236 := bb_ BK236 hb; replace BK237 := bb_ BK237 hb; replace HB := bs_ w hb; clear hb hg; replace hn237_236 := NB237_236.out; replace hn236_237 := NB236_237.out; replace hn237_238 := NB237_238.out; replace hn238_237 := NB238_237.out; replace hc237 := ce2_ BK237; replace hn236_238 := NB236_238.out; replace hn238_236 := NB238_236.out; replace hc236 := ce2_ BK236; replace hc238 := ce2_ BK238))
    refine bodyPost_ret (results_ct rfl _ _ gb238 97 #[.int .u64 (IntKind.u64.wrap ((IntKind.u64.wrap (a0_0 + a1_0)) + 1)), .int .u64 (IntKind.u64.wrap (a0_1 + a1_1))] (0, 0) _ rfl (bp2_ (bq_ BK238)) Try.underlying97 rfl (by kernel_rfl)) rfl ?_
    exact fi_
 ·rw [if_neg c3] at H
  have c3b0 : decide ((IntKind.u64.wrap (18446744073709551615 - a0_1)) < a1_1) = false := decide_eq_false c3
  clear c3
  by_cases c33 : a1_0 > (IntKind.u64.wrap (18446744073709551615 - a0_0))
  ·rw [if_pos c33] at H
   have c33b0 : decide ((IntKind.u64.wrap (18446744073709551615 - a0_0)) < a1_0) = true := decide_eq_true c33
   clear c33
   simp only [Option.some.injEq, Prod.mk.injEq] at H
   obtain ⟨rfl, rfl, rfl⟩ := H
   go_enter Try.func76, Try.ntmps76
   go_wp2_with (first | ((with_reducible refine gate_dst (N := 2) rfl ?_); (try refine ug_ (by rfl) ?_); refine bx_ #[.int .u64 a0_0, .int .u64 a0_1] 97 ?_; intro gb236 hg w34 BK236 hb; have GW236 := bz_ w hg; have GE236 := GW236; replace HB := bs_ w hb; clear hb hg) | ((with_reducible refine gate_dst (N := 3) rfl ?_); (try refine ug_ (by rfl) ?_); refine bx_ #[.int .u64 a1_0, .int .u64 a1_1] 97 ?_; intro gb237 hg w35 BK237 hb; have GW237 := bz_ w hg; have GE237 := GW237; have NB236_237 := bn_ BK236 hg; have NB237_236 := bm_ BK236 hg; replace BK236 := bb_ BK236 hb; replace HB := bs_ w hb; clear hb hg) | ((with_reducible refine gate_dst (N := 4) rfl ?_); (try refine ug_ (by rfl) ?_); refine bx_ #[.int .u64 0, .int .u64 0] 97 ?_; intro gb238 hg w36 BK238 hb; have GW238 := bz_ w hg; have GE238 := GW238; have NB236_238 := bn_ BK236 hg; have NB238_236 := bm_ BK236 hg; have NB237_238 := bn_ BK237 hg; have NB238_237 := bm_ BK237 hg; replace BK236 := bb_ BK236 hb; replace BK237 := bb_ BK237 hb; replace HB := bs_ w hb; clear hb hg; replace hn237_236 := NB237_236.out; replace hn236_237 := NB236_237.out; replace hn237_238 := NB237_238.out; replace hn238_237 := NB238_237.out; replace hc237 := ce2_ BK237; replace hn236_238 := NB236_238.out; replace hn238_236 := NB238_236.out; replace hc236 := ce2_ BK236; replace hc238 := ce2_ BK238))
   refine bodyPost_ret (results_ct rfl _ _ gb238 97 #[.int .u64 0, .int .u64 0] (0, 0) _ rfl (bp2_ (bq_ BK238)) Try.underlying97 rfl (by kernel_rfl)) rfl ?_
   exact fi_
  ·rw [if_neg c33] at H
   have c33b0 : decide ((IntKind.u64.wrap (18446744073709551615 - a0_0)) < a1_0) = false := decide_eq_false c33
   clear c33
   simp only [Option.some.injEq, Prod.mk.injEq] at H
   obtain ⟨rfl, rfl, rfl⟩ := H
   go_enter Try.func76, Try.ntmps76
   go_wp2_with (first | ((with_reducible refine gate_dst (N := 2) rfl ?_); (try refine ug_ (by rfl) ?_); refine bx_ #[.int .u64 a0_0, .int .u64 a0_1] 97 ?_; intro gb236 hg w43 BK236 hb; have GW236 := bz_ w hg; have GE236 := GW236; replace HB := bs_ w hb; clear hb hg) | ((with_reducible refine gate_dst (N := 3) rfl ?_); (try refine ug_ (by rfl) ?_); refine bx_ #[.int .u64 a1_0, .int .u64 a1_1] 97 ?_; intro gb237 hg w44 BK237 hb; have GW237 := bz_ w hg; have GE237 := GW237; have NB236_237 := bn_ BK236 hg; have NB237_236 := bm_ BK236 hg; replace BK236 := bb_ BK236 hb; replace HB := bs_ w hb; clear hb hg) | ((with_reducible refine gate_dst (N := 4) rfl ?_); (try refine ug_ (by rfl) ?_); refine bx_ #[.int .u64 0, .int .u64 0] 97 ?_; intro gb238 hg w45 BK238 hb; have GW238 := bz_ w hg; have GE238 := GW238; have NB236_238 := bn_ BK236 hg; have NB238_236 := bm_ BK236 hg; have NB237_238 := bn_ BK237 hg; have NB238_237 := bm_ BK237 hg; replace BK236 := bb_ BK236 hb; replace BK237 := bb_ BK237 hb; replace HB := bs_ w hb; clear hb hg; replace hn237_236 := NB237_236.out; replace hn236_237 := NB236_237.out; replace hn237_238 := NB237_238.out; replace hn238_237 := NB238_237.out; replace hc237 := ce2_ BK237; replace hn236_238 := NB236_238.out; replace hn238_236 := NB238_236.out; replace hc236 := ce2_ BK236; replace hc238 := ce2_ BK238))
   refine bodyPost_ret (results_ct rfl _ _ gb238 97 #[.int .u64 (IntKind.u64.wrap (IntKind.u64.wrap (a0_0 + a1_0))), .int .u64 (IntKind.u64.wrap (a0_1 + a1_1))] (0, 0) _ rfl (bp2_ (bq_ BK238)) Try.underlying97 rfl (by kernel_rfl)) rfl ?_
   exact fi_

/-! ### spigotref01_Mul: function 77 -/
def spigotref01_Mul.f (a0 : Int) (a1 : Int) : Option (Int × Int) := some (IntKind.u64.wrap ((IntKind.u64.wrap ((IntKind.u64.wrap ((IntKind.u64.wrap ((IntKind.u64.wrap (Int.tdiv a0 4294967296)) * (IntKind.u64.wrap (Int.tdiv a1 4294967296)))) + (IntKind.u64.wrap (Int.tdiv (IntKind.u64.wrap ((IntKind.u64.wrap (Int.tdiv a0 4294967296)) * (Int.tmod a1 4294967296))) 4294967296)))) + (IntKind.u64.wrap (Int.tdiv (IntKind.u64.wrap ((Int.tmod a0 4294967296) * (IntKind.u64.wrap (Int.tdiv a1 4294967296)))) 4294967296)))) + (IntKind.u64.wrap (Int.tdiv (IntKind.u64.wrap ((IntKind.u64.wrap ((IntKind.u64.wrap (Int.tdiv (IntKind.u64.wrap ((Int.tmod a0 4294967296) * (Int.tmod a1 4294967296))) 4294967296)) + (Int.tmod (IntKind.u64.wrap ((IntKind.u64.wrap (Int.tdiv a0 4294967296)) * (Int.tmod a1 4294967296))) 4294967296))) + (Int.tmod (IntKind.u64.wrap ((Int.tmod a0 4294967296) * (IntKind.u64.wrap (Int.tdiv a1 4294967296)))) 4294967296))) 4294967296))), IntKind.u64.wrap ((IntKind.u64.wrap ((Int.tmod (IntKind.u64.wrap ((IntKind.u64.wrap ((IntKind.u64.wrap (Int.tdiv (IntKind.u64.wrap ((Int.tmod a0 4294967296) * (Int.tmod a1 4294967296))) 4294967296)) + (Int.tmod (IntKind.u64.wrap ((IntKind.u64.wrap (Int.tdiv a0 4294967296)) * (Int.tmod a1 4294967296))) 4294967296))) + (Int.tmod (IntKind.u64.wrap ((Int.tmod a0 4294967296) * (IntKind.u64.wrap (Int.tdiv a1 4294967296)))) 4294967296))) 4294967296) * 4294967296)) + (Int.tmod (IntKind.u64.wrap ((Int.tmod a0 4294967296) * (Int.tmod a1 4294967296))) 4294967296)))
set_option maxHeartbeats 8000000 in
set_option maxRecDepth 100000 in
theorem spigotref01_Mul.calls (a0 : Int) (a1 : Int) (r1 : Int) (r2 : Int) (w : World) (h : spigotref01_Mul.f a0 a1 = some (r1, r2)) :
  Calls Try.prog 77 #[.int .u64 a0, .int .u64 a1] w fun e w' => e = .returned (.agg #[.int .u64 r1, .int .u64 r2]) ∧ Below w.heap.size w w' := by
 have hu97 := Try.underlying97
 have HB := Aside0.mk (Below.refl w.heap.size w)
 have H : (some (IntKind.u64.wrap ((IntKind.u64.wrap ((IntKind.u64.wrap ((IntKind.u64.wrap ((IntKind.u64.wrap (Int.tdiv a0 4294967296)) * (IntKind.u64.wrap (Int.tdiv a1 4294967296)))) + (IntKind.u64.wrap (Int.tdiv (IntKind.u64.wrap ((IntKind.u64.wrap (Int.tdiv a0 4294967296)) * (Int.tmod a1 4294967296))) 4294967296)))) + (IntKind.u64.wrap (Int.tdiv (IntKind.u64.wrap ((Int.tmod a0 4294967296) * (IntKind.u64.wrap (Int.tdiv a1 4294967296)))) 4294967296)))) + (IntKind.u64.wrap (Int.tdiv (IntKind.u64.wrap ((IntKind.u64.wrap ((IntKind.u64.wrap (Int.tdiv (IntKind.u64.wrap ((Int.tmod a0 4294967296) * (Int.tmod a1 4294967296))) 4294967296)) + (Int.tmod (IntKind.u64.wrap ((IntKind.u64.wrap (Int.tdiv a0 4294967296)) * (Int.tmod a1 4294967296))) 4294967296))) + (Int.tmod (IntKind.u64.wrap ((Int.tmod a0 4294967296) * (IntKind.u64.wrap (Int.tdiv a1 4294967296)))) 4294967296))) 4294967296))), IntKind.u64.wrap ((IntKind.u64.wrap ((Int.tmod (IntKind.u64.wrap ((IntKind.u64.wrap ((IntKind.u64.wrap (Int.tdiv (IntKind.u64.wrap ((Int.tmod a0 4294967296) * (Int.tmod a1 4294967296))) 4294967296)) + (Int.tmod (IntKind.u64.wrap ((IntKind.u64.wrap (Int.tdiv a0 4294967296)) * (Int.tmod a1 4294967296))) 4294967296))) + (Int.tmod (IntKind.u64.wrap ((Int.tmod a0 4294967296) * (IntKind.u64.wrap (Int.tdiv a1 4294967296)))) 4294967296))) 4294967296) * 4294967296)) + (Int.tmod (IntKind.u64.wrap ((Int.tmod a0 4294967296) * (Int.tmod a1 4294967296))) 4294967296)))) = some (r1, r2) := h
 clear h
 simp only [Option.some.injEq, Prod.mk.injEq] at H
 obtain ⟨rfl, rfl⟩ := H
 go_enter Try.func77, Try.ntmps77
 go_wp2_with (first | ((with_reducible refine gate_dst (N := 4) rfl ?_); refine bx_ #[.int .u64 0, .int .u64 0] 97 ?_; intro gb239 hg w3 BK239 hb; have GW239 := bz_ w hg; replace HB := bs_ w hb; clear hb hg; replace hc239 := ce2_ BK239))
 refine bodyPost_ret (results_cell_row rfl _ _ gb239 97 #[.int .u64 (IntKind.u64.wrap ((IntKind.u64.wrap ((IntKind.u64.wrap ((IntKind.u64.wrap ((IntKind.u64.wrap (Int.tdiv a0 4294967296)) * (IntKind.u64.wrap (Int.tdiv a1 4294967296)))) + (IntKind.u64.wrap (Int.tdiv (IntKind.u64.wrap ((IntKind.u64.wrap (Int.tdiv a0 4294967296)) * (Int.tmod a1 4294967296))) 4294967296)))) + (IntKind.u64.wrap (Int.tdiv (IntKind.u64.wrap ((Int.tmod a0 4294967296) * (IntKind.u64.wrap (Int.tdiv a1 4294967296)))) 4294967296)))) + (IntKind.u64.wrap (Int.tdiv (IntKind.u64.wrap ((IntKind.u64.wrap ((IntKind.u64.wrap (Int.tdiv (IntKind.u64.wrap ((Int.tmod a0 4294967296) * (Int.tmod a1 4294967296))) 4294967296)) + (Int.tmod (IntKind.u64.wrap ((IntKind.u64.wrap (Int.tdiv a0 4294967296)) * (Int.tmod a1 4294967296))) 4294967296))) + (Int.tmod (IntKind.u64.wrap ((Int.tmod a0 4294967296) * (IntKind.u64.wrap (Int.tdiv a1 4294967296)))) 4294967296))) 4294967296)))), .int .u64 (IntKind.u64.wrap ((IntKind.u64.wrap ((Int.tmod (IntKind.u64.wrap ((IntKind.u64.wrap ((IntKind.u64.wrap (Int.tdiv (IntKind.u64.wrap ((Int.tmod a0 4294967296) * (Int.tmod a1 4294967296))) 4294967296)) + (Int.tmod (IntKind.u64.wrap ((IntKind.u64.wrap (Int.tdiv a0 4294967296)) * (Int.tmod a1 4294967296))) 4294967296))) + (Int.tmod (IntKind.u64.wrap ((Int.tmod a0 4294967296) * (IntKind.u64.wrap (Int.tdiv a1 4294967296)))) 4294967296))) 4294967296) * 4294967296)) + (Int.tmod (IntKind.u64.wrap ((Int.tmod a0 4294967296) * (Int.tmod a1 4294967296))) 4294967296)))] (0, 0) _ rfl (bp2_ (bq_ BK239)) Try.underlying97 rfl (by kernel_rfl)) rfl ?_
 exact fi_

end Go.Proofs.Ytfdpcnkghmmobaa.X
