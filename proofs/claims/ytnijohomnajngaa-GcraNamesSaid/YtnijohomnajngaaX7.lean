-- written by xprint.py, a program of this session over the kit's print
import Derived.Test.YtnijohomnajngaaX0
import Derived.Test.YtnijohomnajngaaX5
namespace Go.Proofs.Ytnijohomnajngaa.X
open Go.RowKit Go.Proofs.YtnijohomnajngaaW.PrintWords Go.Proofs.YtnijohomnajngaaW.PrintLast Go.Proofs.YtnijohomnajngaaW.PrintMore
attribute [local go_sem] max2_int min2_int max_two min_two max_three min_three max_four min_four   -- for this text's walks alone
set_option linter.unusedVariables false
set_option linter.unusedSimpArgs false

/-! ### bucket_Check: function 34 -/
def bucket_Check.f (a0_0 : Int) (a0_1 : Int) (a0_2 : Int) (a0_3 : Int) (a0_4 : Int) (a0_5 : Int) : Option (Int) := (bucket_CheckLimit.f a0_0 a0_1 a0_2).bind fun t126 => (if t126 = 0 then (if a0_3 < 0 then (some 8) else (if (wrap64 (a0_0 - a0_3)) < 0 then (some 8) else (if a0_4 < 0 then (some 8) else (if a0_4 ≥ a0_2 then (some 8) else (if (wrap64 (a0_0 - a0_3)) = 0 then (if a0_4 > 0 then (some 8) else (some 0)) else (some 0)))))) else (some t126))
set_option maxHeartbeats 8000000 in
set_option maxRecDepth 100000 in
theorem bucket_Check.calls (a0_0 : Int) (a0_1 : Int) (a0_2 : Int) (a0_3 : Int) (a0_4 : Int) (a0_5 : Int) (r : Int) (w : World) (h : bucket_Check.f a0_0 a0_1 a0_2 a0_3 a0_4 a0_5 = some r) :
  Calls Try.prog 34 #[.agg #[.int .i64 a0_0, .int .i64 a0_1, .int .i64 a0_2, .int .i64 a0_3, .int .i64 a0_4, .int .u64 a0_5]] w fun e w' => e = .returned (.int .i64 r) ∧ Below w.heap.size w w' := by
 have hu30 := Try.underlying30
 have hu23 := Try.underlying23
 have HB := Aside0.mk (Below.refl w.heap.size w)
 have H : ((bucket_CheckLimit.f a0_0 a0_1 a0_2).bind fun t126 => (if t126 = 0 then (if a0_3 < 0 then (some 8) else (if (wrap64 (a0_0 - a0_3)) < 0 then (some 8) else (if a0_4 < 0 then (some 8) else (if a0_4 ≥ a0_2 then (some 8) else (if (wrap64 (a0_0 - a0_3)) = 0 then (if a0_4 > 0 then (some 8) else (some 0)) else (some 0)))))) else (some t126))) = some r := h
 clear h
 have H0_ := bo_ H; clear H; obtain ⟨t126, A2, H⟩ := H0_
 try dsimp only at H
 by_cases c3 : t126 = 0
 ·rw [if_pos c3] at H
  have c3b0 : (t126 == 0) = true := beq_iff_eq.mpr c3
  have c3b1 : (t126 != 0) = false := bne_eq_false_iff_eq.mpr c3
  clear c3
  by_cases c4 : a0_3 < 0
  ·rw [if_pos c4] at H
   have c4b0 : decide (a0_3 < 0) = true := decide_eq_true c4
   clear c4
   obtain rfl := Option.some.inj H
   go_enter Try.func34, Try.ntmps34
   go_wp2_with (first | ((with_reducible refine gate_dst (N := 1) rfl ?_); (try refine ug_ (by rfl) ?_); refine bx_ #[.int .i64 a0_0, .int .i64 a0_1, .int .i64 a0_2, .int .i64 a0_3, .int .i64 a0_4, .int .u64 a0_5] 30 ?_; intro gb125 hg w5 BK125 hb; have GW125 := bz_ w hg; have GE125 := GW125; replace HB := bs_ w hb; clear hb hg; replace hc125 := ce6_ BK125) | ((with_reducible refine gate_callee (f := 30) rfl ?_); (try refine ug_ (by rfl) ?_); refine goesA_ (some 7) Try.func30 #[.agg #[.int .i64 a0_0, .int .i64 a0_1, .int .i64 a0_2]] ?_; (with_reducible refine (bucket_CheckLimit.calls a0_0 a0_1 a0_2 t126 _ A2.out).mono ?_); rintro e w7 ⟨rfl, hb⟩; refine ⟨_, rfl, ?_⟩; replace BK125 := bb_ BK125 hb; replace HB := bs_ w hb; clear hb; replace hc125 := ce6_ BK125))
   go_ret
   exact fi_
  ·rw [if_neg c4] at H
   have c4b0 : decide (a0_3 < 0) = false := decide_eq_false c4
   clear c4
   by_cases c9 : (wrap64 (a0_0 - a0_3)) < 0
   ·rw [if_pos c9] at H
    have c9b0 : decide ((wrap64 (a0_0 - a0_3)) < 0) = true := decide_eq_true c9
    clear c9
    obtain rfl := Option.some.inj H
    go_enter Try.func34, Try.ntmps34
    go_wp2_with (first | ((with_reducible refine gate_dst (N := 1) rfl ?_); (try refine ug_ (by rfl) ?_); refine bx_ #[.int .i64 a0_0, .int .i64 a0_1, .int .i64 a0_2, .int .i64 a0_3, .int .i64 a0_4, .int .u64 a0_5] 30 ?_; intro gb125 hg w10 BK125 hb; have GW125 := bz_ w hg; have GE125 := GW125; replace HB := bs_ w hb; clear hb hg; replace hc125 := ce6_ BK125) | ((with_reducible refine gate_callee (f := 30) rfl ?_); (try refine ug_ (by rfl) ?_); refine goesA_ (some 7) Try.func30 #[.agg #[.int .i64 a0_0, .int .i64 a0_1, .int .i64 a0_2]] ?_; (with_reducible refine (bucket_CheckLimit.calls a0_0 a0_1 a0_2 t126 _ A2.out).mono ?_); rintro e w12 ⟨rfl, hb⟩; refine ⟨_, rfl, ?_⟩; replace BK125 := bb_ BK125 hb; replace HB := bs_ w hb; clear hb; replace hc125 := ce6_ BK125))
    go_ret
    exact fi_
   ·rw [if_neg c9] at H
    have c9b0 : decide ((wrap64 (a0_0 - a0_3)) < 0) = false := decide_eq_false c9
    clear c9
    by_cases c14 : a0_4 < 0
    ·rw [if_pos c14] at H
     have c14b0 : decide (a0_4 < 0) = true := decide_eq_true c14
     clear c14
     obtain rfl := Option.some.inj H
     go_enter Try.func34, Try.ntmps34
     go_wp2_with (first | ((with_reducible refine gate_dst (N := 1) rfl ?_); (try refine ug_ (by rfl) ?_); refine bx_ #[.int .i64 a0_0, .int .i64 a0_1, .int .i64 a0_2, .int .i64 a0_3, .int .i64 a0_4, .int .u64 a0_5] 30 ?_; intro gb125 hg w15 BK125 hb; have GW125 := bz_ w hg; have GE125 := GW125; replace HB := bs_ w hb; clear hb hg; replace hc125 := ce6_ BK125) | ((with_reducible refine gate_callee (f := 30) rfl ?_); (try refine ug_ (by rfl) ?_); refine goesA_ (some 7) Try.func30 #[.agg #[.int .i64 a0_0, .int .i64 a0_1, .int .i64 a0_2]] ?_; (with_reducible refine (bucket_CheckLimit.calls a0_0 a0_1 a0_2 t126 _ A2.out).mono ?_); rintro e w17 ⟨rfl, hb⟩; refine ⟨_, rfl, ?_⟩; replace BK125 := bb_ BK125 hb; replace HB := bs_ w hb; clear hb; replace hc125 := ce6_ BK125))
     go_ret
     exact fi_
    ·rw [if_neg c14] at H
     have c14b0 : decide (a0_4 < 0) = false := decide_eq_false c14
     clear c14
     by_cases c19 : a0_4 ≥ a0_2
     ·rw [if_pos c19] at H
      have c19b0 : decide (a0_2 ≤ a0_4) = true := decide_eq_true c19
      clear c19
      obtain rfl := Option.some.inj H
      go_enter Try.func34, Try.ntmps34
      go_wp2_with (first | ((with_reducible refine gate_dst (N := 1) rfl ?_); (try refine ug_ (by rfl) ?_); refine bx_ #[.int .i64 a0_0, .int .i64 a0_1, .int .i64 a0_2, .int .i64 a0_3, .int .i64 a0_4, .int .u64 a0_5] 30 ?_; intro gb125 hg w20 BK125 hb; have GW125 := bz_ w hg; have GE125 := GW125; replace HB := bs_ w hb; clear hb hg; replace hc125 := ce6_ BK125) | ((with_reducible refine gate_callee (f := 30) rfl ?_); (try refine ug_ (by rfl) ?_); refine goesA_ (some 7) Try.func30 #[.agg #[.int .i64 a0_0, .int .i64 a0_1, .int .i64 a0_2]] ?_; (with_reducible refine (bucket_CheckLimit.calls a0_0 a0_1 a0_2 t126 _ A2.out).mono ?_); rintro e w22 ⟨rfl, hb⟩; refine ⟨_, rfl, ?_⟩; replace BK125 := bb_ BK125 hb; replace HB := bs_ w hb; clear hb; replace hc125 := ce6_ BK125))
      go_ret
      exact fi_
     ·rw [if_neg c19] at H
      have c19b0 : decide (a0_2 ≤ a0_4) = false := decide_eq_false c19
      clear c19
      by_cases c24 : (wrap64 (a0_0 - a0_3)) = 0
      ·rw [if_pos c24] at H
       have c24b0 : ((wrap64 (a0_0 - a0_3)) == 0) = true := beq_iff_eq.mpr c24
       have c24b1 : ((wrap64 (a0_0 - a0_3)) != 0) = false := bne_eq_false_iff_eq.mpr c24
       clear c24
       by_cases c25 : a0_4 > 0
       ·rw [if_pos c25] at H
        have c25b0 : decide (0 < a0_4) = true := decide_eq_true c25
        clear c25
        obtain rfl := Option.some.inj H
        go_enter Try.func34, Try.ntmps34
        go_wp2_with (first | ((with_reducible refine gate_dst (N := 1) rfl ?_); (try refine ug_ (by rfl) ?_); refine bx_ #[.int .i64 a0_0, .int .i64 a0_1, .int .i64 a0_2, .int .i64 a0_3, .int .i64 a0_4, .int .u64 a0_5] 30 ?_; intro gb125 hg w26 BK125 hb; have GW125 := bz_ w hg; have GE125 := GW125; replace HB := bs_ w hb; clear hb hg; replace hc125 := ce6_ BK125) | ((with_reducible refine gate_callee (f := 30) rfl ?_); (try refine ug_ (by rfl) ?_); refine goesA_ (some 7) Try.func30 #[.agg #[.int .i64 a0_0, .int .i64 a0_1, .int .i64 a0_2]] ?_; (with_reducible refine (bucket_CheckLimit.calls a0_0 a0_1 a0_2 t126 _ A2.out).mono ?_); rintro e w28 ⟨rfl, hb⟩; refine ⟨_, rfl, ?_⟩; replace BK125 := bb_ BK125 hb; replace HB := bs_ w hb; clear hb; replace hc125 := ce6_ BK125))
        go_ret
        exact fi_
       ·rw [if_neg c25] at H
        have c25b0 : decide (0 < a0_4) = false := decide_eq_false c25
        clear c25
        obtain rfl := Option.some.inj H
        go_enter Try.func34, Try.ntmps34
        go_wp2_with (first | ((with_reducible refine gate_dst (N := 1) rfl ?_); (try refine ug_ (by rfl) ?_); refine bx_ #[.int .i64 a0_0, .int .i64 a0_1, .int .i64 a0_2, .int .i64 a0_3, .int .i64 a0_4, .int .u64 a0_5] 30 ?_; intro gb125 hg w30 BK125 hb; have GW125 := bz_ w hg; have GE125 := GW125; replace HB := bs_ w hb; clear hb hg; replace hc125 := ce6_ BK125) | ((with_reducible refine gate_callee (f := 30) rfl ?_); (try refine ug_ (by rfl) ?_); refine goesA_ (some 7) Try.func30 #[.agg #[.int .i64 a0_0, .int .i64 a0_1, .int .i64 a0_2]] ?_; (with_reducible refine (bucket_CheckLimit.calls a0_0 a0_1 a0_2 t126 _ A2.out).mono ?_); rintro e w32 ⟨rfl, hb⟩; refine ⟨_, rfl, ?_⟩; replace BK125 := bb_ BK125 hb; replace HB := bs_ w hb; clear hb; replace hc125 := ce6_ BK125))
        go_ret
        exact fi_
      ·rw [if_neg c24] at H
       have c24b0 : ((wrap64 (a0_0 - a0_3)) == 0) = false := beq_eq_false_iff_ne.mpr c24
       have c24b1 : ((wrap64 (a0_0 - a0_3)) != 0) = true := bne_iff_ne.mpr c24
       obtain rfl := Option.some.inj H
       go_enter Try.func34, Try.ntmps34
       go_wp2_with (first | ((with_reducible refine gate_dst (N := 1) rfl ?_); (try refine ug_ (by rfl) ?_); refine bx_ #[.int .i64 a0_0, .int .i64 a0_1, .int .i64 a0_2, .int .i64 a0_3, .int .i64 a0_4, .int .u64 a0_5] 30 ?_; intro gb125 hg w34 BK125 hb; have GW125 := bz_ w hg; have GE125 := GW125; replace HB := bs_ w hb; clear hb hg; replace hc125 := ce6_ BK125) | ((with_reducible refine gate_callee (f := 30) rfl ?_); (try refine ug_ (by rfl) ?_); refine goesA_ (some 7) Try.func30 #[.agg #[.int .i64 a0_0, .int .i64 a0_1, .int .i64 a0_2]] ?_; (with_reducible refine (bucket_CheckLimit.calls a0_0 a0_1 a0_2 t126 _ A2.out).mono ?_); rintro e w36 ⟨rfl, hb⟩; refine ⟨_, rfl, ?_⟩; replace BK125 := bb_ BK125 hb; replace HB := bs_ w hb; clear hb; replace hc125 := ce6_ BK125))
       go_ret
       exact fi_
 ·rw [if_neg c3] at H
  have c3b0 : (t126 == 0) = false := beq_eq_false_iff_ne.mpr c3
  have c3b1 : (t126 != 0) = true := bne_iff_ne.mpr c3
  obtain rfl := Option.some.inj H
  go_enter Try.func34, Try.ntmps34
  go_wp2_with (first | ((with_reducible refine gate_dst (N := 1) rfl ?_); (try refine ug_ (by rfl) ?_); refine bx_ #[.int .i64 a0_0, .int .i64 a0_1, .int .i64 a0_2, .int .i64 a0_3, .int .i64 a0_4, .int .u64 a0_5] 30 ?_; intro gb125 hg w38 BK125 hb; have GW125 := bz_ w hg; have GE125 := GW125; replace HB := bs_ w hb; clear hb hg; replace hc125 := ce6_ BK125) | ((with_reducible refine gate_callee (f := 30) rfl ?_); (try refine ug_ (by rfl) ?_); refine goesA_ (some 7) Try.func30 #[.agg #[.int .i64 a0_0, .int .i64 a0_1, .int .i64 a0_2]] ?_; (with_reducible refine (bucket_CheckLimit.calls a0_0 a0_1 a0_2 t126 _ A2.out).mono ?_); rintro e w40 ⟨rfl, hb⟩; refine ⟨_, rfl, ?_⟩; replace BK125 := bb_ BK125 hb; replace HB := bs_ w hb; clear hb))
  go_ret
  exact fi_

/-! ### gcra_tokens: function 36 -/
def gcra_tokens.f (a0_0 : Int) (a0_1 : Int) (a0_2 : Int) (a1 : Int) : Option (Int × Int) := (wide_Mul.f (IntKind.u64.wrap (a1)) (IntKind.u64.wrap (a0_2))).bind fun bt129 => (some (bt129.1, bt129.2))
set_option maxHeartbeats 8000000 in
set_option maxRecDepth 100000 in
theorem gcra_tokens.calls (a0_0 : Int) (a0_1 : Int) (a0_2 : Int) (a1 : Int) (r1 : Int) (r2 : Int) (w : World) (h : gcra_tokens.f a0_0 a0_1 a0_2 a1 = some (r1, r2)) :
  Calls Try.prog 36 #[.agg #[.int .i64 a0_0, .int .i64 a0_1, .int .i64 a0_2], .int .i64 a1] w fun e w' => e = .returned (.agg #[.int .u64 r1, .int .u64 r2]) ∧ Below w.heap.size w w' := by
 have hu23 := Try.underlying23
 have hu26 := Try.underlying26
 have HB := Aside0.mk (Below.refl w.heap.size w)
 have H : ((wide_Mul.f (IntKind.u64.wrap (a1)) (IntKind.u64.wrap (a0_2))).bind fun bt129 => (some (bt129.1, bt129.2))) = some (r1, r2) := h
 clear h
 have H0_ := bo_ H; clear H; obtain ⟨⟨t129, t130⟩, A3, H⟩ := H0_
 replace H : (some (t129, t130)) = some (r1, r2) := H
 simp only [Option.some.injEq, Prod.mk.injEq] at H
 obtain ⟨rfl, rfl⟩ := H
 go_enter Try.func36, Try.ntmps36
 go_wp2_with (first | ((with_reducible refine gate_dst (N := 2) rfl ?_); refine bx_ #[.int .i64 a0_0, .int .i64 a0_1, .int .i64 a0_2] 23 ?_; intro gb127 hg w4 BK127 hb; have GW127 := bz_ w hg; replace HB := bs_ w hb; clear hb hg) | ((with_reducible refine gate_dst (N := 4) rfl ?_); refine bx_ #[.int .u64 0, .int .u64 0] 26 ?_; intro gb128 hg w5 BK128 hb; have GW128 := bz_ w hg; have NB127_128 := bn_ BK127 hg; have NB128_127 := bm_ BK127 hg; replace BK127 := bb_ BK127 hb; replace HB := bs_ w hb; clear hb hg; replace hn127_128 := NB127_128.out; replace hn128_127 := NB128_127.out; replace hc127 := ce3_ BK127) | ((with_reducible refine gate_callee (f := 54) rfl ?_); refine goesA_ (some 10) Try.func54 #[.int .u64 (IntKind.u64.wrap (a1)), .int .u64 (IntKind.u64.wrap (a0_2))] ?_; (with_reducible refine (wide_Mul.calls (IntKind.u64.wrap (a1)) (IntKind.u64.wrap (a0_2)) t129 t130 _ A3.out).mono ?_); rintro e w8 ⟨rfl, hb⟩; refine ⟨_, rfl, ?_⟩; replace BK127 := bb_ BK127 hb; replace BK128 := bb_ BK128 hb; replace HB := bs_ w hb; clear hb; replace hc128 := ce2_ BK128))
 refine bodyPost_ret (results_cell_row rfl _ _ gb128 26 #[.int .u64 t129, .int .u64 t130] (0, 0) _ rfl (bp2_ (bq_ BK128)) Try.underlying26 rfl (by kernel_rfl)) rfl ?_
 exact fi_

/-! ### bits_Add64: function 63 -/
def bits_Add64.f (a0 : Int) (a1 : Int) (a2 : Int) : Option (Int × Int) := if 0 ≤ a0 ∧ 0 ≤ a1 ∧ 0 ≤ a2 ∧ a2 ≤ 1 then some ((a0 + a1 + a2) % 18446744073709551616, (a0 + a1 + a2) / 18446744073709551616) else none
theorem bits_Add64.calls (a0 : Int) (a1 : Int) (a2 : Int) (r1 : Int) (r2 : Int) (w : World) (h : bits_Add64.f a0 a1 a2 = some (r1, r2)) :
    CallsX Try.prog 63 #[.int .u64 a0, .int .u64 a1, .int .u64 a2] w fun e w' => e = .returned (.tuple #[.int .u64 r1, .int .u64 r2]) ∧ Drawn0 w w' := by
  unfold bits_Add64.f at h
  split at h
  case isFalse => cases h
  rename_i hu
  obtain ⟨h0, h1, h2, h3⟩ := hu
  simp only [Option.some.injEq, Prod.mk.injEq] at h
  obtain ⟨rfl, rfl⟩ := h
  refine ⟨_, w, ?_, rfl, Drawn0.refl _⟩
  rw [run_callFunc_extern Try.func63 (by kernel_rfl) (by kernel_rfl) (by kernel_rfl) (e := add64Entry) (by kernel_rfl), run_add64 a0 a1 a2 h0 h1 h2 h3]
  rfl

/-! ### wide_Add: function 48 -/
def wide_Add.f (a0_0 : Int) (a0_1 : Int) (a1_0 : Int) (a1_1 : Int) : Option (Int × Int × Int) := (bits_Add64.f a0_1 a1_1 0).bind fun bt134 => ((bits_Add64.f a0_0 a1_0 bt134.2).bind fun bt136 => (if bt136.2 = 0 then (some (bt136.1, bt134.1, 0)) else (some (0, 0, 16))))
set_option maxHeartbeats 8000000 in
set_option maxRecDepth 100000 in
theorem wide_Add.calls (a0_0 : Int) (a0_1 : Int) (a1_0 : Int) (a1_1 : Int) (r1 : Int) (r2 : Int) (r3 : Int) (w : World) (h : wide_Add.f a0_0 a0_1 a1_0 a1_1 = some (r1, r2, r3)) :
  Calls Try.prog 48 #[.agg #[.int .u64 a0_0, .int .u64 a0_1], .agg #[.int .u64 a1_0, .int .u64 a1_1]] w fun e w' => e = .returned (.tuple #[.agg #[.int .u64 r1, .int .u64 r2], .int .i64 r3]) ∧ Below w.heap.size w w' := by
 have hu26 := Try.underlying26
 have HB := Aside0.mk (Below.refl w.heap.size w)
 have H : ((bits_Add64.f a0_1 a1_1 0).bind fun bt134 => ((bits_Add64.f a0_0 a1_0 bt134.2).bind fun bt136 => (if bt136.2 = 0 then (some (bt136.1, bt134.1, 0)) else (some (0, 0, 16))))) = some (r1, r2, r3) := h
 clear h
 have H0_ := bo_ H; clear H; obtain ⟨⟨t134, t135⟩, A3, H⟩ := H0_
 replace H : ((bits_Add64.f a0_0 a1_0 t135).bind fun bt136 => (if bt136.2 = 0 then (some (bt136.1, t134, 0)) else (some (0, 0, 16)))) = some (r1, r2, r3) := H
 have H0_ := bo_ H; clear H; obtain ⟨⟨t136, t137⟩, A4, H⟩ := H0_
 replace H : (if t137 = 0 then (some (t136, t134, 0)) else (some (0, 0, 16))) = some (r1, r2, r3) := H
 by_cases c5 : t137 = 0
 ·rw [if_pos c5] at H
  have c5b0 : (t137 == 0) = true := beq_iff_eq.mpr c5
  have c5b1 : (t137 != 0) = false := bne_eq_false_iff_eq.mpr c5
  clear c5
  simp only [Option.some.injEq, Prod.mk.injEq] at H
  obtain ⟨rfl, rfl, rfl⟩ := H
  go_enter Try.func48, Try.ntmps48
  go_wp2_with (first | ((with_reducible refine gate_dst (N := 2) rfl ?_); refine bx_ #[.int .u64 a0_0, .int .u64 a0_1] 26 ?_; intro gb131 hg w6 BK131 hb; have GW131 := bz_ w hg; have GE131 := GW131; replace HB := bs_ w hb; clear hb hg) | ((with_reducible refine gate_dst (N := 3) rfl ?_); refine bx_ #[.int .u64 a1_0, .int .u64 a1_1] 26 ?_; intro gb132 hg w7 BK132 hb; have GW132 := bz_ w hg; have GE132 := GW132; have NB131_132 := bn_ BK131 hg; have NB132_131 := bm_ BK131 hg; replace BK131 := bb_ BK131 hb; replace HB := bs_ w hb; clear hb hg) | ((with_reducible refine gate_dst (N := 4) rfl ?_); refine bx_ #[.int .u64 0, .int .u64 0] 26 ?_; intro gb133 hg w8 BK133 hb; have GW133 := bz_ w hg; have GE133 := GW133; have NB131_133 := bn_ BK131 hg; have NB133_131 := bm_ BK131 hg; have NB132_133 := bn_ BK132 hg; have NB133_132 := bm_ BK132 hg; replace BK131 := bb_ BK131 hb; replace BK132 := bb_ BK132 hb; replace HB := bs_ w hb; clear hb hg; replace hn131_132 := NB131_132.out; replace hn132_131 := NB132_131.out; replace hn131_133 := NB131_133.out; replace hn133_131 := NB133_131.out; replace hc131 := ce2_ BK131; replace hn132_133 := NB132_133.out; replace hn133_132 := NB133_132.out; replace hc132 := ce2_ BK132) | ((with_reducible refine gate_callee (f := 63) rfl ?_); refine goesXL_ (some 15) rfl rfl #[.int .u64 a0_1, .int .u64 a1_1, .int .u64 0] rfl (by (try simp only [List.map_toArray, List.map_cons, List.map_nil]); first | done | rfl | (simp only [List.length_drop, List.length_take]; rfl)) ?_; (with_reducible refine (bits_Add64.calls a0_1 a1_1 0 t134 t135 _ A3.out).mono ?_); rintro e w' ⟨rfl, ⟨nd, rfl⟩⟩; refine ⟨_, rfl, ?_⟩; (try ((first | generalize hq_ : World.drewN w8 _ = w8 | (rw [drewN_self w8]; generalize hq_ : World.drewN w8 _ = w8)); replace BK131 : Aside0 (w8.heap[gb131]? = some (.cells #[.int .u64 a0_0, .int .u64 a0_1] 26 (0, 0))) := ⟨by rw [← hq_]; exact (bq_ BK131)⟩; replace BK132 : Aside0 (w8.heap[gb132]? = some (.cells #[.int .u64 a1_0, .int .u64 a1_1] 26 (0, 0))) := ⟨by rw [← hq_]; exact (bq_ BK132)⟩; replace BK133 : Aside0 (w8.heap[gb133]? = some (.cells #[.int .u64 0, .int .u64 0] 26 (0, 0))) := ⟨by rw [← hq_]; exact (bq_ BK133)⟩; replace HB : Aside0 (Below w.heap.size w w8) := ⟨by rw [← hq_]; exact bh_⟩; clear hq_)); replace hc131 := ce2_ BK131; replace hc132 := ce2_ BK132) | ((with_reducible refine gate_callee (f := 63) rfl ?_); refine goesXL_ (some 24) rfl rfl #[.int .u64 a0_0, .int .u64 a1_0, .int .u64 t135] rfl (by (try simp only [List.map_toArray, List.map_cons, List.map_nil]); first | done | rfl | (simp only [List.length_drop, List.length_take]; rfl)) ?_; (with_reducible refine (bits_Add64.calls a0_0 a1_0 t135 t136 t137 _ A4.out).mono ?_); rintro e w' ⟨rfl, ⟨nd, rfl⟩⟩; refine ⟨_, rfl, ?_⟩; (try ((first | generalize hq_ : World.drewN w8 _ = w8 | (rw [drewN_self w8]; generalize hq_ : World.drewN w8 _ = w8)); replace BK131 : Aside0 (w8.heap[gb131]? = some (.cells #[.int .u64 a0_0, .int .u64 a0_1] 26 (0, 0))) := ⟨by rw [← hq_]; exact (bq_ BK131)⟩; replace BK132 : Aside0 (w8.heap[gb132]? = some (.cells #[.int .u64 a1_0, .int .u64 a1_1] 26 (0, 0))) := ⟨by rw [← hq_]; exact (bq_ BK132)⟩; replace BK133 : Aside0 (w8.heap[gb133]? = some (.cells #[.int .u64 0, .int .u64 0] 26 (0, 0))) := ⟨by rw [← hq_]; exact (bq_ BK133)⟩; replace HB : Aside0 (Below w.heap.size w w8) := ⟨by rw [← hq_]; exact bh_⟩; clear hq_)); replace hc133 := ce2_ BK133))
  refine bodyPost_ret (results_ct rfl _ _ gb133 26 #[.int .u64 t136, .int .u64 t134] (0, 0) _ rfl (bp2_ (bq_ BK133)) Try.underlying26 rfl (by kernel_rfl)) rfl ?_
  exact fi_
 ·rw [if_neg c5] at H
  have c5b0 : (t137 == 0) = false := beq_eq_false_iff_ne.mpr c5
  have c5b1 : (t137 != 0) = true := bne_iff_ne.mpr c5
  simp only [Option.some.injEq, Prod.mk.injEq] at H
  obtain ⟨rfl, rfl, rfl⟩ := H
  go_enter Try.func48, Try.ntmps48
  go_wp2_with (first | ((with_reducible refine gate_dst (N := 2) rfl ?_); refine bx_ #[.int .u64 a0_0, .int .u64 a0_1] 26 ?_; intro gb131 hg w17 BK131 hb; have GW131 := bz_ w hg; have GE131 := GW131; replace HB := bs_ w hb; clear hb hg) | ((with_reducible refine gate_dst (N := 3) rfl ?_); refine bx_ #[.int .u64 a1_0, .int .u64 a1_1] 26 ?_; intro gb132 hg w18 BK132 hb; have GW132 := bz_ w hg; have GE132 := GW132; have NB131_132 := bn_ BK131 hg; have NB132_131 := bm_ BK131 hg; replace BK131 := bb_ BK131 hb; replace HB := bs_ w hb; clear hb hg) | ((with_reducible refine gate_dst (N := 4) rfl ?_); refine bx_ #[.int .u64 0, .int .u64 0] 26 ?_; intro gb133 hg w19 BK133 hb; have GW133 := bz_ w hg; have GE133 := GW133; have NB131_133 := bn_ BK131 hg; have NB133_131 := bm_ BK131 hg; have NB132_133 := bn_ BK132 hg; have NB133_132 := bm_ BK132 hg; replace BK131 := bb_ BK131 hb; replace BK132 := bb_ BK132 hb; replace HB := bs_ w hb; clear hb hg; replace hn131_132 := NB131_132.out; replace hn132_131 := NB132_131.out; replace hn131_133 := NB131_133.out; replace hn133_131 := NB133_131.out; replace hc131 := ce2_ BK131; replace hn132_133 := NB132_133.out; replace hn133_132 := NB133_132.out; replace hc132 := ce2_ BK132) | ((with_reducible refine gate_callee (f := 63) rfl ?_); refine goesXL_ (some 15) rfl rfl #[.int .u64 a0_1, .int .u64 a1_1, .int .u64 0] rfl (by (try simp only [List.map_toArray, List.map_cons, List.map_nil]); first | done | rfl | (simp only [List.length_drop, List.length_take]; rfl)) ?_; (with_reducible refine (bits_Add64.calls a0_1 a1_1 0 t134 t135 _ A3.out).mono ?_); rintro e w' ⟨rfl, ⟨nd, rfl⟩⟩; refine ⟨_, rfl, ?_⟩; (try ((first | generalize hq_ : World.drewN w19 _ = w19 | (rw [drewN_self w19]; generalize hq_ : World.drewN w19 _ = w19)); replace BK131 : Aside0 (w19.heap[gb131]? = some (.cells #[.int .u64 a0_0, .int .u64 a0_1] 26 (0, 0))) := ⟨by rw [← hq_]; exact (bq_ BK131)⟩; replace BK132 : Aside0 (w19.heap[gb132]? = some (.cells #[.int .u64 a1_0, .int .u64 a1_1] 26 (0, 0))) := ⟨by rw [← hq_]; exact (bq_ BK132)⟩; replace BK133 : Aside0 (w19.heap[gb133]? = some (.cells #[.int .u64 0, .int .u64 0] 26 (0, 0))) := ⟨by rw [← hq_]; exact (bq_ BK133)⟩; replace HB : Aside0 (Below w.heap.size w w19) := ⟨by rw [← hq_]; exact bh_⟩; clear hq_)); replace hc131 := ce2_ BK131; replace hc132 := ce2_ BK132) | ((with_reducible refine gate_callee (f := 63) rfl ?_); refine goesXL_ (some 24) rfl rfl #[.int .u64 a0_0, .int .u64 a1_0, .int .u64 t135] rfl (by (try simp only [List.map_toArray, List.map_cons, List.map_nil]); first | done | rfl | (simp only [List.length_drop, List.length_take]; rfl)) ?_; (with_reducible refine (bits_Add64.calls a0_0 a1_0 t135 t136 t137 _ A4.out).mono ?_); rintro e w' ⟨rfl, ⟨nd, rfl⟩⟩; refine ⟨_, rfl, ?_⟩; (try ((first | generalize hq_ : World.drewN w19 _ = w19 | (rw [drewN_self w19]; generalize hq_ : World.drewN w19 _ = w19)); replace BK131 : Aside0 (w19.heap[gb131]? = some (.cells #[.int .u64 a0_0, .int .u64 a0_1] 26 (0, 0))) := ⟨by rw [← hq_]; exact (bq_ BK131)⟩; replace BK132 : Aside0 (w19.heap[gb132]? = some (.cells #[.int .u64 a1_0, .int .u64 a1_1] 26 (0, 0))) := ⟨by rw [← hq_]; exact (bq_ BK132)⟩; replace BK133 : Aside0 (w19.heap[gb133]? = some (.cells #[.int .u64 0, .int .u64 0] 26 (0, 0))) := ⟨by rw [← hq_]; exact (bq_ BK133)⟩; replace HB : Aside0 (Below w.heap.size w w19) := ⟨by rw [← hq_]; exact bh_⟩; clear hq_)); replace hc133 := ce2_ BK133))
  refine bodyPost_ret (results_ct rfl _ _ gb133 26 #[.int .u64 0, .int .u64 0] (0, 0) _ rfl (bp2_ (bq_ BK133)) Try.underlying26 rfl (by kernel_rfl)) rfl ?_
  exact fi_

end Go.Proofs.Ytnijohomnajngaa.X
