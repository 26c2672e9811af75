-- written by xprint.py, a program of this session over the kit's print
import Derived.Test.YtjjmnafhaneflaaX0
namespace Go.Proofs.Ytjjmnafhaneflaa.X
open Go.RowKit Go.Proofs.YtjjmnafhaneflaaW.PrintWords Go.Proofs.YtjjmnafhaneflaaW.PrintLast Go.Proofs.YtjjmnafhaneflaaW.PrintMore
attribute [local go_sem] max2_int min2_int max_two min_two max_three min_three max_four min_four   -- for this text's walks alone
set_option linter.unusedVariables false
set_option linter.unusedSimpArgs false

/-! ### spigotref38_Great: function 9 -/
def spigotref38_Great.f (l0 : List (S58)) : Option (Bool) := if (l0.length : Int) > 25 then (if (l0.length : Int) ≤ 60 then (some true) else (some (decide ((l0.length : Int) > 100)))) else (some (decide ((l0.length : Int) > 100)))
set_option maxHeartbeats 8000000 in
set_option maxRecDepth 100000 in
theorem spigotref38_Great.calls (A0 : Option Addr) (c0 : Nat) (l0 : List (S58)) (r : Bool) (w : World) (hr0 : Kd.C k58 w A0 l0.length l0) (hc0 : l0.length ≤ c0) (h : spigotref38_Great.f l0 = some r) :
  Calls Try.prog 9 #[.slice A0 l0.length c0] w fun e w' => e = .returned (.bool r) ∧ Drawn0 w w' := by
 have HR0 := Aside0.mk hr0
 have HC0 := Aside0.mk hc0
 clear hr0 hc0
 have H : (if (l0.length : Int) > 25 then (if (l0.length : Int) ≤ 60 then (some true) else (some (decide ((l0.length : Int) > 100)))) else (some (decide ((l0.length : Int) > 100)))) = some r := h
 clear h
 by_cases c2 : (l0.length : Int) > 25
 ·rw [if_pos c2] at H
  have c2b0 : decide (25 < (l0.length : Int)) = true := decide_eq_true c2
  have c2b1 : decide (25 < l0.length) = true := decide_eq_true (by omega)
  clear c2
  by_cases c3 : (l0.length : Int) ≤ 60
  ·rw [if_pos c3] at H
   have c3b0 : decide ((l0.length : Int) ≤ 60) = true := decide_eq_true c3
   have c3b1 : decide (l0.length ≤ 60) = true := decide_eq_true (by omega)
   clear c3
   obtain rfl := Option.some.inj H
   go_enter Try.func9, Try.ntmps9
   go_wp2
   go_ret
   exact ⟨by first | rfl | (simp; done) | (simp [*]; done), by repeat (first | exact Drawn0.refl _ | apply Drawn0.step)⟩
  ·rw [if_neg c3] at H
   have c3b0 : decide ((l0.length : Int) ≤ 60) = false := decide_eq_false c3
   have c3b1 : decide (l0.length ≤ 60) = false := decide_eq_false (by omega)
   clear c3
   obtain rfl := Option.some.inj H
   go_enter Try.func9, Try.ntmps9
   go_wp2
   go_ret
   exact ⟨by first | rfl | (simp; done) | (simp [*]; done), by repeat (first | exact Drawn0.refl _ | apply Drawn0.step)⟩
 ·rw [if_neg c2] at H
  have c2b0 : decide (25 < (l0.length : Int)) = false := decide_eq_false c2
  have c2b1 : decide (25 < l0.length) = false := decide_eq_false (by omega)
  clear c2
  obtain rfl := Option.some.inj H
  go_enter Try.func9, Try.ntmps9
  go_wp2
  go_ret
  exact ⟨by first | rfl | (simp; done) | (simp [*]; done), by repeat (first | exact Drawn0.refl _ | apply Drawn0.step)⟩

/-! ### window_Check: function 21 -/
def window_Check.f (a0_0 : Int) (a0_1 : Int) : Option (Int) := if a0_0 < 1 then (some 8) else (if a0_0 > 1000000000 then (some 8) else (if a0_1 < 1 then (some 8) else (if a0_1 > 1000000000 then (some 8) else (some 0))))
set_option maxHeartbeats 8000000 in
set_option maxRecDepth 100000 in
theorem window_Check.calls (a0_0 : Int) (a0_1 : Int) (r : Int) (w : World) (h : window_Check.f a0_0 a0_1 = some r) :
  Calls Try.prog 21 #[.agg #[.int .i64 a0_0, .int .i64 a0_1]] w fun e w' => e = .returned (.int .i64 r) ∧ Below w.heap.size w w' := by
 have hu23 := Try.underlying23
 have HB := Aside0.mk (Below.refl w.heap.size w)
 have H : (if a0_0 < 1 then (some 8) else (if a0_0 > 1000000000 then (some 8) else (if a0_1 < 1 then (some 8) else (if a0_1 > 1000000000 then (some 8) else (some 0))))) = some r := h
 clear h
 by_cases c2 : a0_0 < 1
 ·rw [if_pos c2] at H
  have c2b0 : decide (a0_0 < 1) = true := decide_eq_true c2
  clear c2
  obtain rfl := Option.some.inj H
  go_enter Try.func21, Try.ntmps21
  go_wp2_with (first | ((with_reducible refine gate_dst (N := 1) rfl ?_); (try refine ug_ (by rfl) ?_); refine bx_ #[.int .i64 a0_0, .int .i64 a0_1] 23 ?_; intro gb101 hg w3 BK101 hb; have GW101 := bz_ w hg; have GE101 := GW101; replace HB := bs_ w hb; clear hb hg; replace hc101 := ce2_ BK101))
  go_ret
  exact fi_
 ·rw [if_neg c2] at H
  have c2b0 : decide (a0_0 < 1) = false := decide_eq_false c2
  clear c2
  by_cases c5 : a0_0 > 1000000000
  ·rw [if_pos c5] at H
   have c5b0 : decide (1000000000 < a0_0) = true := decide_eq_true c5
   clear c5
   obtain rfl := Option.some.inj H
   go_enter Try.func21, Try.ntmps21
   go_wp2_with (first | ((with_reducible refine gate_dst (N := 1) rfl ?_); (try refine ug_ (by rfl) ?_); refine bx_ #[.int .i64 a0_0, .int .i64 a0_1] 23 ?_; intro gb101 hg w6 BK101 hb; have GW101 := bz_ w hg; have GE101 := GW101; replace HB := bs_ w hb; clear hb hg; replace hc101 := ce2_ BK101))
   go_ret
   exact fi_
  ·rw [if_neg c5] at H
   have c5b0 : decide (1000000000 < a0_0) = false := decide_eq_false c5
   clear c5
   by_cases c8 : a0_1 < 1
   ·rw [if_pos c8] at H
    have c8b0 : decide (a0_1 < 1) = true := decide_eq_true c8
    clear c8
    obtain rfl := Option.some.inj H
    go_enter Try.func21, Try.ntmps21
    go_wp2_with (first | ((with_reducible refine gate_dst (N := 1) rfl ?_); (try refine ug_ (by rfl) ?_); refine bx_ #[.int .i64 a0_0, .int .i64 a0_1] 23 ?_; intro gb101 hg w9 BK101 hb; have GW101 := bz_ w hg; have GE101 := GW101; replace HB := bs_ w hb; clear hb hg; replace hc101 := ce2_ BK101))
    go_ret
    exact fi_
   ·rw [if_neg c8] at H
    have c8b0 : decide (a0_1 < 1) = false := decide_eq_false c8
    clear c8
    by_cases c11 : a0_1 > 1000000000
    ·rw [if_pos c11] at H
     have c11b0 : decide (1000000000 < a0_1) = true := decide_eq_true c11
     clear c11
     obtain rfl := Option.some.inj H
     go_enter Try.func21, Try.ntmps21
     go_wp2_with (first | ((with_reducible refine gate_dst (N := 1) rfl ?_); (try refine ug_ (by rfl) ?_); refine bx_ #[.int .i64 a0_0, .int .i64 a0_1] 23 ?_; intro gb101 hg w12 BK101 hb; have GW101 := bz_ w hg; have GE101 := GW101; replace HB := bs_ w hb; clear hb hg; replace hc101 := ce2_ BK101))
     go_ret
     exact fi_
    ·rw [if_neg c11] at H
     have c11b0 : decide (1000000000 < a0_1) = false := decide_eq_false c11
     clear c11
     obtain rfl := Option.some.inj H
     go_enter Try.func21, Try.ntmps21
     go_wp2_with (first | ((with_reducible refine gate_dst (N := 1) rfl ?_); (try refine ug_ (by rfl) ?_); refine bx_ #[.int .i64 a0_0, .int .i64 a0_1] 23 ?_; intro gb101 hg w14 BK101 hb; have GW101 := bz_ w hg; have GE101 := GW101; replace HB := bs_ w hb; clear hb hg; replace hc101 := ce2_ BK101))
     go_ret
     exact fi_

-- NOT PRINTED: function 46 (slices_IndexFunc_api_Charge)

-- NOT PRINTED: function 39 (slices_ContainsFunc_api_Charge)

/-! ### window_Charges_1: function 40 -/
def window_Charges_1.f (a0_0 : Int) (a0_1 : Int) : Option (Bool) := if a0_1 < 0 then (some true) else (some (decide (a0_1 > 1000000000)))
set_option maxHeartbeats 8000000 in
set_option maxRecDepth 100000 in
theorem window_Charges_1.calls (a0_0 : Int) (a0_1 : Int) (r : Bool) (w : World) (h : window_Charges_1.f a0_0 a0_1 = some r) :
  Calls Try.prog 40 #[.agg #[.int .u64 a0_0, .int .i64 a0_1]] w fun e w' => e = .returned (.bool r) ∧ Below w.heap.size w w' := by
 have hu58 := Try.underlying58
 have HB := Aside0.mk (Below.refl w.heap.size w)
 have H : (if a0_1 < 0 then (some true) else (some (decide (a0_1 > 1000000000)))) = some r := h
 clear h
 by_cases c2 : a0_1 < 0
 ·rw [if_pos c2] at H
  have c2b0 : decide (a0_1 < 0) = true := decide_eq_true c2
  clear c2
  obtain rfl := Option.some.inj H
  go_enter Try.func40, Try.ntmps40
  go_wp2_with (first | ((with_reducible refine gate_dst (N := 1) rfl ?_); (try refine ug_ (by rfl) ?_); refine bx_ #[.int .u64 a0_0, .int .i64 a0_1] 58 ?_; intro gb102 hg w3 BK102 hb; have GW102 := bz_ w hg; have GE102 := GW102; replace HB := bs_ w hb; clear hb hg; replace hc102 := ce2_ BK102))
  go_ret
  exact fi_
 ·rw [if_neg c2] at H
  have c2b0 : decide (a0_1 < 0) = false := decide_eq_false c2
  clear c2
  obtain rfl := Option.some.inj H
  go_enter Try.func40, Try.ntmps40
  go_wp2_with (first | ((with_reducible refine gate_dst (N := 1) rfl ?_); (try refine ug_ (by rfl) ?_); refine bx_ #[.int .u64 a0_0, .int .i64 a0_1] 58 ?_; intro gb102 hg w5 BK102 hb; have GW102 := bz_ w hg; have GE102 := GW102; replace HB := bs_ w hb; clear hb hg; replace hc102 := ce2_ BK102))
  go_ret
  exact fi_

end Go.Proofs.Ytjjmnafhaneflaa.X
