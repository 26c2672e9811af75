-- written by xprint.py, a program of this session over the kit's print
import Derived.Test.YtfdpcnkghmmobaaX0
namespace Go.Proofs.Ytfdpcnkghmmobaa.X
open Go.RowKit Go.Proofs.YtfdpcnkghmmobaaW.PrintWords Go.Proofs.YtfdpcnkghmmobaaW.PrintLast Go.Proofs.YtfdpcnkghmmobaaW.PrintMore
attribute [local go_sem] max2_int min2_int max_two min_two max_three min_three max_four min_four   -- for this text's walks alone
set_option linter.unusedVariables false
set_option linter.unusedSimpArgs false

/-! ### spigotref04_Great: function 29 -/
def spigotref04_Great.f (l0 : List (S63)) : Option (Bool) := some (decide ((l0.length : Int) > 20))
set_option maxHeartbeats 8000000 in
set_option maxRecDepth 100000 in
theorem spigotref04_Great.calls (A0 : Option Addr) (c0 : Nat) (l0 : List (S63)) (r : Bool) (w : World) (hr0 : Kd.C k63 w A0 l0.length l0) (hc0 : l0.length ≤ c0) (h : spigotref04_Great.f l0 = some r) :
  Calls Try.prog 29 #[.slice A0 l0.length c0] w fun e w' => e = .returned (.bool r) ∧ Drawn0 w w' := by
 have HR0 := Aside0.mk hr0
 have HC0 := Aside0.mk hc0
 clear hr0 hc0
 have H : (some (decide ((l0.length : Int) > 20))) = some r := h
 clear h
 obtain rfl := Option.some.inj H
 go_enter Try.func29, Try.ntmps29
 go_wp2
 go_ret
 exact ⟨by first | rfl | (simp; done) | (simp [*]; done), by repeat (first | exact Drawn0.refl _ | apply Drawn0.step)⟩

/-! ### spigotref39_Great: function 10 -/
def spigotref39_Great.f (l0 : List (S63)) (l1 : List Int) : Option (Bool) := (spigotref04_Great.f l0).bind fun t101 => (if t101 = true then (some true) else (if (l1.length : Int) > 20 then (if (l1.length : Int) ≤ 60 then (some true) else (some (decide ((l1.length : Int) > 100)))) else (some (decide ((l1.length : Int) > 100)))))
set_option maxHeartbeats 8000000 in
set_option maxRecDepth 100000 in
theorem spigotref39_Great.calls (A0 : Option Addr) (c0 : Nat) (l0 : List (S63)) (A1 : Option Addr) (c1 : Nat) (l1 : List Int) (r : Bool) (w : World) (hr0 : Kd.C k63 w A0 l0.length l0) (hc0 : l0.length ≤ c0) (hr1 : Kd.C (Kd.int .i64) w A1 l1.length l1) (hc1 : l1.length ≤ c1) (h : spigotref39_Great.f l0 l1 = some r) :
  Calls Try.prog 10 #[.slice A0 l0.length c0, .slice A1 l1.length c1] w fun e w' => e = .returned (.bool r) ∧ Drawn0 w w' := by
 have HR0 := Aside0.mk hr0
 have HC0 := Aside0.mk hc0
 clear hr0 hc0
 have HR1 := Aside0.mk hr1
 have HC1 := Aside0.mk hc1
 clear hr1 hc1
 have H : ((spigotref04_Great.f l0).bind fun t101 => (if t101 = true then (some true) else (if (l1.length : Int) > 20 then (if (l1.length : Int) ≤ 60 then (some true) else (some (decide ((l1.length : Int) > 100)))) else (some (decide ((l1.length : Int) > 100)))))) = some r := h
 clear h
 have H0_ := bo_ H; clear H; obtain ⟨t101, A3, H⟩ := H0_
 try dsimp only at H
 by_cases c4 : t101 = true
 ·subst c4
  replace H : (some true) = some r := by rw [if_pos rfl] at H; exact H
  obtain rfl := Option.some.inj H
  go_enter Try.func10, Try.ntmps10
  go_wp2_with (first | ((with_reducible refine gate_callee (f := 29) rfl ?_); (try refine ug_ (by rfl) ?_); refine goesA_ (some 6) Try.func29 #[.slice A0 l0.length c0] ?_; (with_reducible refine (spigotref04_Great.calls _ _ l0 true _ ?side1 ?side2 A3.out).mono ?_); (case side1 => exact ch_ HR0); (case side2 => exact HC0.out); rintro e w' ⟨rfl, ⟨nd, rfl⟩⟩; refine ⟨_, rfl, ?_⟩))
  go_ret
  exact ⟨by first | rfl | (simp; done) | (simp [*]; done), by repeat (first | exact Drawn0.refl _ | apply Drawn0.step)⟩
 ·replace c4 := Bool.eq_false_iff.mpr c4
  subst c4
  rw [if_neg (show ¬ (false = true) by decide)] at H
  try dsimp only at H
  by_cases c5 : (l1.length : Int) > 20
  ·rw [if_pos c5] at H
   have c5b0 : decide (20 < (l1.length : Int)) = true := decide_eq_true c5
   have c5b1 : decide (20 < l1.length) = true := decide_eq_true (by omega)
   clear c5
   by_cases c6 : (l1.length : Int) ≤ 60
   ·rw [if_pos c6] at H
    have c6b0 : decide ((l1.length : Int) ≤ 60) = true := decide_eq_true c6
    have c6b1 : decide (l1.length ≤ 60) = true := decide_eq_true (by omega)
    clear c6
    obtain rfl := Option.some.inj H
    go_enter Try.func10, Try.ntmps10
    go_wp2_with (first | ((with_reducible refine gate_callee (f := 29) rfl ?_); (try refine ug_ (by rfl) ?_); refine goesA_ (some 6) Try.func29 #[.slice A0 l0.length c0] ?_; (with_reducible refine (spigotref04_Great.calls _ _ l0 false _ ?side1 ?side2 A3.out).mono ?_); (case side1 => exact ch_ HR0); (case side2 => exact HC0.out); rintro e w' ⟨rfl, ⟨nd, rfl⟩⟩; refine ⟨_, rfl, ?_⟩))
    go_ret
    exact ⟨by first | rfl | (simp; done) | (simp [*]; done), by repeat (first | exact Drawn0.refl _ | apply Drawn0.step)⟩
   ·rw [if_neg c6] at H
    have c6b0 : decide ((l1.length : Int) ≤ 60) = false := decide_eq_false c6
    have c6b1 : decide (l1.length ≤ 60) = false := decide_eq_false (by omega)
    clear c6
    obtain rfl := Option.some.inj H
    go_enter Try.func10, Try.ntmps10
    go_wp2_with (first | ((with_reducible refine gate_callee (f := 29) rfl ?_); (try refine ug_ (by rfl) ?_); refine goesA_ (some 6) Try.func29 #[.slice A0 l0.length c0] ?_; (with_reducible refine (spigotref04_Great.calls _ _ l0 false _ ?side1 ?side2 A3.out).mono ?_); (case side1 => exact ch_ HR0); (case side2 => exact HC0.out); rintro e w' ⟨rfl, ⟨nd, rfl⟩⟩; refine ⟨_, rfl, ?_⟩))
    go_ret
    exact ⟨by first | rfl | (simp; done) | (simp [*]; done), by repeat (first | exact Drawn0.refl _ | apply Drawn0.step)⟩
  ·rw [if_neg c5] at H
   have c5b0 : decide (20 < (l1.length : Int)) = false := decide_eq_false c5
   have c5b1 : decide (20 < l1.length) = false := decide_eq_false (by omega)
   clear c5
   obtain rfl := Option.some.inj H
   go_enter Try.func10, Try.ntmps10
   go_wp2_with (first | ((with_reducible refine gate_callee (f := 29) rfl ?_); (try refine ug_ (by rfl) ?_); refine goesA_ (some 6) Try.func29 #[.slice A0 l0.length c0] ?_; (with_reducible refine (spigotref04_Great.calls _ _ l0 false _ ?side1 ?side2 A3.out).mono ?_); (case side1 => exact ch_ HR0); (case side2 => exact HC0.out); rintro e w' ⟨rfl, ⟨nd, rfl⟩⟩; refine ⟨_, rfl, ?_⟩))
   go_ret
   exact ⟨by first | rfl | (simp; done) | (simp [*]; done), by repeat (first | exact Drawn0.refl _ | apply Drawn0.step)⟩

-- NOT PRINTED: function 63 (slices_IndexFunc_int64)

-- NOT PRINTED: function 40 (slices_ContainsFunc_int64)

/-! ### bucket_CheckLimit: function 71 -/
def bucket_CheckLimit.f (a0_0 : Int) (a0_1 : Int) (a0_2 : Int) : Option (Int) := if a0_0 < 1 then (some 8) else (if a0_0 > 1000000000 then (some 8) else (if a0_1 < 0 then (some 8) else (if a0_1 > 1000000000 then (some 8) else (if a0_2 < 1 then (some 8) else (if a0_2 > 1000000000 then (some 8) else (some 0))))))
set_option maxHeartbeats 8000000 in
set_option maxRecDepth 100000 in
theorem bucket_CheckLimit.calls (a0_0 : Int) (a0_1 : Int) (a0_2 : Int) (r : Int) (w : World) (h : bucket_CheckLimit.f a0_0 a0_1 a0_2 = some r) :
  Calls Try.prog 71 #[.agg #[.int .i64 a0_0, .int .i64 a0_1, .int .i64 a0_2]] w fun e w' => e = .returned (.int .i64 r) ∧ Below w.heap.size w w' := by
 have hu61 := Try.underlying61
 have HB := Aside0.mk (Below.refl w.heap.size w)
 have H : (if a0_0 < 1 then (some 8) else (if a0_0 > 1000000000 then (some 8) else (if a0_1 < 0 then (some 8) else (if a0_1 > 1000000000 then (some 8) else (if a0_2 < 1 then (some 8) else (if a0_2 > 1000000000 then (some 8) else (some 0))))))) = some r := h
 clear h
 by_cases c2 : a0_0 < 1
 ·rw [if_pos c2] at H
  have c2b0 : decide (a0_0 < 1) = true := decide_eq_true c2
  clear c2
  obtain rfl := Option.some.inj H
  go_enter Try.func71, Try.ntmps71
  go_wp2_with (first | ((with_reducible refine gate_dst (N := 1) rfl ?_); (try refine ug_ (by rfl) ?_); refine bx_ #[.int .i64 a0_0, .int .i64 a0_1, .int .i64 a0_2] 61 ?_; intro gb102 hg w3 BK102 hb; have GW102 := bz_ w hg; have GE102 := GW102; replace HB := bs_ w hb; clear hb hg; replace hc102 := ce3_ BK102))
  go_ret
  exact fi_
 ·rw [if_neg c2] at H
  have c2b0 : decide (a0_0 < 1) = false := decide_eq_false c2
  clear c2
  by_cases c5 : a0_0 > 1000000000
  ·rw [if_pos c5] at H
   have c5b0 : decide (1000000000 < a0_0) = true := decide_eq_true c5
   clear c5
   obtain rfl := Option.some.inj H
   go_enter Try.func71, Try.ntmps71
   go_wp2_with (first | ((with_reducible refine gate_dst (N := 1) rfl ?_); (try refine ug_ (by rfl) ?_); refine bx_ #[.int .i64 a0_0, .int .i64 a0_1, .int .i64 a0_2] 61 ?_; intro gb102 hg w6 BK102 hb; have GW102 := bz_ w hg; have GE102 := GW102; replace HB := bs_ w hb; clear hb hg; replace hc102 := ce3_ BK102))
   go_ret
   exact fi_
  ·rw [if_neg c5] at H
   have c5b0 : decide (1000000000 < a0_0) = false := decide_eq_false c5
   clear c5
   by_cases c8 : a0_1 < 0
   ·rw [if_pos c8] at H
    have c8b0 : decide (a0_1 < 0) = true := decide_eq_true c8
    clear c8
    obtain rfl := Option.some.inj H
    go_enter Try.func71, Try.ntmps71
    go_wp2_with (first | ((with_reducible refine gate_dst (N := 1) rfl ?_); (try refine ug_ (by rfl) ?_); refine bx_ #[.int .i64 a0_0, .int .i64 a0_1, .int .i64 a0_2] 61 ?_; intro gb102 hg w9 BK102 hb; have GW102 := bz_ w hg; have GE102 := GW102; replace HB := bs_ w hb; clear hb hg; replace hc102 := ce3_ BK102))
    go_ret
    exact fi_
   ·rw [if_neg c8] at H
    have c8b0 : decide (a0_1 < 0) = false := decide_eq_false c8
    clear c8
    by_cases c11 : a0_1 > 1000000000
    ·rw [if_pos c11] at H
     have c11b0 : decide (1000000000 < a0_1) = true := decide_eq_true c11
     clear c11
     obtain rfl := Option.some.inj H
     go_enter Try.func71, Try.ntmps71
     go_wp2_with (first | ((with_reducible refine gate_dst (N := 1) rfl ?_); (try refine ug_ (by rfl) ?_); refine bx_ #[.int .i64 a0_0, .int .i64 a0_1, .int .i64 a0_2] 61 ?_; intro gb102 hg w12 BK102 hb; have GW102 := bz_ w hg; have GE102 := GW102; replace HB := bs_ w hb; clear hb hg; replace hc102 := ce3_ BK102))
     go_ret
     exact fi_
    ·rw [if_neg c11] at H
     have c11b0 : decide (1000000000 < a0_1) = false := decide_eq_false c11
     clear c11
     by_cases c14 : a0_2 < 1
     ·rw [if_pos c14] at H
      have c14b0 : decide (a0_2 < 1) = true := decide_eq_true c14
      clear c14
      obtain rfl := Option.some.inj H
      go_enter Try.func71, Try.ntmps71
      go_wp2_with (first | ((with_reducible refine gate_dst (N := 1) rfl ?_); (try refine ug_ (by rfl) ?_); refine bx_ #[.int .i64 a0_0, .int .i64 a0_1, .int .i64 a0_2] 61 ?_; intro gb102 hg w15 BK102 hb; have GW102 := bz_ w hg; have GE102 := GW102; replace HB := bs_ w hb; clear hb hg; replace hc102 := ce3_ BK102))
      go_ret
      exact fi_
     ·rw [if_neg c14] at H
      have c14b0 : decide (a0_2 < 1) = false := decide_eq_false c14
      clear c14
      by_cases c17 : a0_2 > 1000000000
      ·rw [if_pos c17] at H
       have c17b0 : decide (1000000000 < a0_2) = true := decide_eq_true c17
       clear c17
       obtain rfl := Option.some.inj H
       go_enter Try.func71, Try.ntmps71
       go_wp2_with (first | ((with_reducible refine gate_dst (N := 1) rfl ?_); (try refine ug_ (by rfl) ?_); refine bx_ #[.int .i64 a0_0, .int .i64 a0_1, .int .i64 a0_2] 61 ?_; intro gb102 hg w18 BK102 hb; have GW102 := bz_ w hg; have GE102 := GW102; replace HB := bs_ w hb; clear hb hg; replace hc102 := ce3_ BK102))
       go_ret
       exact fi_
      ·rw [if_neg c17] at H
       have c17b0 : decide (1000000000 < a0_2) = false := decide_eq_false c17
       clear c17
       obtain rfl := Option.some.inj H
       go_enter Try.func71, Try.ntmps71
       go_wp2_with (first | ((with_reducible refine gate_dst (N := 1) rfl ?_); (try refine ug_ (by rfl) ?_); refine bx_ #[.int .i64 a0_0, .int .i64 a0_1, .int .i64 a0_2] 61 ?_; intro gb102 hg w20 BK102 hb; have GW102 := bz_ w hg; have GE102 := GW102; replace HB := bs_ w hb; clear hb hg; replace hc102 := ce3_ BK102))
       go_ret
       exact fi_

end Go.Proofs.Ytfdpcnkghmmobaa.X
