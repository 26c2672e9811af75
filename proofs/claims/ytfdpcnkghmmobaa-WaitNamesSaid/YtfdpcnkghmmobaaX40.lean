-- written by xprint.py, a program of this session over the kit's print
import Derived.Test.YtfdpcnkghmmobaaX0
import Derived.Test.YtfdpcnkghmmobaaX25
namespace Go.Proofs.Ytfdpcnkghmmobaa.X
open Go.RowKit Go.Proofs.YtfdpcnkghmmobaaW.PrintWords Go.Proofs.YtfdpcnkghmmobaaW.PrintLast Go.Proofs.YtfdpcnkghmmobaaW.PrintMore
attribute [local go_sem] max2_int min2_int max_two min_two max_three min_three max_four min_four   -- for this text's walks alone
set_option linter.unusedVariables false
set_option linter.unusedSimpArgs false

/-! ### spigotref03_Waited: function 62 -/
theorem fld_62_63_1 (c0 c1 c2 c3 c4 c5 : Value) (w : World) : Sem.run Try.prog (Instr.field 63 (.agg #[c0, c1, c2, c3, c4, c5]) 1) w = .ok (c3) w := by kernel_rfl
attribute [local go_sem] fld_62_63_1
def spigotref03_Waited.l0 : Nat → Int → Int → Int → Int → Int → Int → Int → Int → Int → Option (Int)
  | 0, _, _, _, _, _, _, _, _, _ => none
  | k + 1, x1, x5, x6, x498000, x498001, x498002, x498003, x498004, x498005 => if x5 < x6 then ((spigotref03_Filled.f k x498000 x498001 x498002 x498003 x498004 x498005 (IntKind.u64.wrap (x498005 + (IntKind.u64.wrap (x5 + (IntKind.u64.wrap (Int.tdiv (IntKind.u64.wrap (x6 - x5)) 2))))))).bind fun bt504 => (if bt504.2.2.2.1 ≥ x1 then (spigotref03_Waited.l0 k x1 x5 (IntKind.u64.wrap (x5 + (IntKind.u64.wrap (Int.tdiv (IntKind.u64.wrap (x6 - x5)) 2)))) x498000 x498001 x498002 x498003 x498004 x498005) else (spigotref03_Waited.l0 k x1 (IntKind.u64.wrap ((IntKind.u64.wrap (x5 + (IntKind.u64.wrap (Int.tdiv (IntKind.u64.wrap (x6 - x5)) 2)))) + 1)) x6 x498000 x498001 x498002 x498003 x498004 x498005))) else (some x5)
def spigotref03_Waited.f (k : Nat) (a0_0 : Int) (a0_1 : Int) (a0_2 : Int) (a0_3 : Int) (a0_4 : Int) (a0_5 : Int) (a1 : Int) : Option (Int) := (spigotref03_Filled.f k a0_0 a0_1 a0_2 a0_3 a0_4 a0_5 18446744073709551615).bind fun bt498 => (if bt498.2.2.2.1 < a1 then (some 18446744073709551615) else (spigotref03_Waited.l0 k a1 0 (IntKind.u64.wrap (18446744073709551615 - a0_5)) a0_0 a0_1 a0_2 a0_3 a0_4 a0_5))
theorem spigotref03_Waited.mono_l : ∀ k, (∀ y0 y1 y2 y3 y4 y5 y6 y7 y8, LeO (spigotref03_Waited.l0 k y0 y1 y2 y3 y4 y5 y6 y7 y8) (spigotref03_Waited.l0 (k + 1) y0 y1 y2 y3 y4 y5 y6 y7 y8))
  | 0 => fun _ _ _ _ _ _ _ _ _ r h => by simp [spigotref03_Waited.l0] at h
  | k + 1 => by
    have ih0 := spigotref03_Waited.mono_l k
    · intro y0 y1 y2 y3 y4 y5 y6 y7 y8
      unfold spigotref03_Waited.l0
      repeat' first
      | (with_reducible exact ih0 _ _ _ _ _ _ _ _ _)
      | (with_reducible exact spigotref03_Filled.mono _ _ _ _ _ _ _ _)
      | (with_reducible exact LeO.refl _)
      | (with_reducible exact LeO.none _)
      | (with_reducible refine LeO.ite ?_ ?_)
      | (with_reducible refine LeO.bind ?_ (fun _ => ?_))
      | exact ih0 _ _ _ _ _ _ _ _ _
      | exact spigotref03_Filled.mono _ _ _ _ _ _ _ _
      | exact LeO.none _
      | refine LeO.ite ?_ ?_
      | refine LeO.bind ?_ (fun _ => ?_)
theorem spigotref03_Waited.mono : ∀ a0 a1 a2 a3 a4 a5 a6 k, LeO (spigotref03_Waited.f k a0 a1 a2 a3 a4 a5 a6) (spigotref03_Waited.f (k + 1) a0 a1 a2 a3 a4 a5 a6) := by
  intro a0 a1 a2 a3 a4 a5 a6 k
  have ih0 := spigotref03_Waited.mono_l k
  unfold spigotref03_Waited.f
  repeat' first
      | (with_reducible exact ih0 _ _ _ _ _ _ _ _ _)
      | (with_reducible exact spigotref03_Filled.mono _ _ _ _ _ _ _ _)
      | (with_reducible exact LeO.refl _)
      | (with_reducible exact LeO.none _)
      | (with_reducible refine LeO.ite ?_ ?_)
      | (with_reducible refine LeO.bind ?_ (fun _ => ?_))
      | exact ih0 _ _ _ _ _ _ _ _ _
      | exact spigotref03_Filled.mono _ _ _ _ _ _ _ _
      | exact LeO.none _
      | refine LeO.ite ?_ ?_
      | refine LeO.bind ?_ (fun _ => ?_)
set_option maxHeartbeats 8000000 in
set_option maxRecDepth 100000 in
theorem spigotref03_Waited.calls (k : Nat) (a0_0 : Int) (a0_1 : Int) (a0_2 : Int) (a0_3 : Int) (a0_4 : Int) (a0_5 : Int) (a1 : Int) (r : Int) (w : World) (h : spigotref03_Waited.f k a0_0 a0_1 a0_2 a0_3 a0_4 a0_5 a1 = some r) :
  Calls Try.prog 62 #[.agg #[.int .i64 a0_0, .int .i64 a0_1, .int .i64 a0_2, .int .i64 a0_3, .int .i64 a0_4, .int .u64 a0_5], .int .i64 a1] w fun e w' => e = .returned (.int .u64 r) ∧ Below w.heap.size w w' := by
 have hu63 := Try.underlying63
 have HB := Aside0.mk (Below.refl w.heap.size w)
 have H : ((spigotref03_Filled.f k a0_0 a0_1 a0_2 a0_3 a0_4 a0_5 18446744073709551615).bind fun bt498 => (if bt498.2.2.2.1 < a1 then (some 18446744073709551615) else (spigotref03_Waited.l0 k a1 0 (IntKind.u64.wrap (18446744073709551615 - a0_5)) a0_0 a0_1 a0_2 a0_3 a0_4 a0_5))) = some r := h
 clear h
 have H0_ := bo_ H; clear H; obtain ⟨⟨t498, t499, t500, t501, t502, t503⟩, A3, H⟩ := H0_
 try dsimp only at H
 by_cases c4 : t501 < a1
 ·rw [if_pos c4] at H
  have c4b0 : decide (t501 < a1) = true := decide_eq_true c4
  clear c4
  obtain rfl := Option.some.inj H
  go_enter Try.func62, Try.ntmps62
  go_wp2_with (first | ((with_reducible refine gate_dst (N := 2) rfl ?_); refine bx_ #[.int .i64 a0_0, .int .i64 a0_1, .int .i64 a0_2, .int .i64 a0_3, .int .i64 a0_4, .int .u64 a0_5] 63 ?_; intro gb497 hg w5 BK497 hb; have GW497 := bz_ w hg; have GE497 := GW497; replace HB := bs_ w hb; clear hb hg; obtain ⟨hcz6_0, hcz6_1, hcz6_2, hcz6_3, hcz6_4, hcz6_5, hfz6_0, hfz6_1, hfz6_2, hfz6_3, hfz6_4, hfz6_5⟩ := ce6_ BK497) | (go_at_call 61; (with_reducible refine (spigotref03_Filled.calls k a0_0 a0_1 a0_2 a0_3 a0_4 a0_5 18446744073709551615 t498 t499 t500 t501 t502 t503 _ A3.out).mono ?_); rintro e w7 ⟨rfl, hb⟩; replace BK497 := bb_ BK497 hb; replace HB := bs_ w hb; clear hb))
  repeat (go_quiet (first | ((with_reducible refine gate_dst (N := 2) rfl ?_); refine bx_ #[.int .i64 a0_0, .int .i64 a0_1, .int .i64 a0_2, .int .i64 a0_3, .int .i64 a0_4, .int .u64 a0_5] 63 ?_; intro gb497 hg w5 BK497 hb; have GW497 := bz_ w hg; have GE497 := GW497; replace HB := bs_ w hb; clear hb hg; obtain ⟨hcz6_0, hcz6_1, hcz6_2, hcz6_3, hcz6_4, hcz6_5, hfz6_0, hfz6_1, hfz6_2, hfz6_3, hfz6_4, hfz6_5⟩ := ce6_ BK497) | (go_at_call 61; (with_reducible refine (spigotref03_Filled.calls k a0_0 a0_1 a0_2 a0_3 a0_4 a0_5 18446744073709551615 t498 t499 t500 t501 t502 t503 _ A3.out).mono ?_); rintro e w7 ⟨rfl, hb⟩; replace BK497 := bb_ BK497 hb; replace HB := bs_ w hb; clear hb)); try go_wp2_with (first | ((with_reducible refine gate_dst (N := 2) rfl ?_); refine bx_ #[.int .i64 a0_0, .int .i64 a0_1, .int .i64 a0_2, .int .i64 a0_3, .int .i64 a0_4, .int .u64 a0_5] 63 ?_; intro gb497 hg w5 BK497 hb; have GW497 := bz_ w hg; have GE497 := GW497; replace HB := bs_ w hb; clear hb hg; obtain ⟨hcz6_0, hcz6_1, hcz6_2, hcz6_3, hcz6_4, hcz6_5, hfz6_0, hfz6_1, hfz6_2, hfz6_3, hfz6_4, hfz6_5⟩ := ce6_ BK497) | (go_at_call 61; (with_reducible refine (spigotref03_Filled.calls k a0_0 a0_1 a0_2 a0_3 a0_4 a0_5 18446744073709551615 t498 t499 t500 t501 t502 t503 _ A3.out).mono ?_); rintro e w7 ⟨rfl, hb⟩; replace BK497 := bb_ BK497 hb; replace HB := bs_ w hb; clear hb)))
  go_ret
  exact fi_
 ·rw [if_neg c4] at H
  have c4b0 : decide (t501 < a1) = false := decide_eq_false c4
  clear c4
  have H' := Aside0.mk H
  clear H
  go_enter Try.func62, Try.ntmps62
  go_wp2_with (first | ((with_reducible refine gate_dst (N := 2) rfl ?_); refine bx_ #[.int .i64 a0_0, .int .i64 a0_1, .int .i64 a0_2, .int .i64 a0_3, .int .i64 a0_4, .int .u64 a0_5] 63 ?_; intro gb497 hg w8 BK497 hb; have GW497 := bz_ w hg; have GE497 := GW497; replace HB := bs_ w hb; clear hb hg; obtain ⟨hcz9_0, hcz9_1, hcz9_2, hcz9_3, hcz9_4, hcz9_5, hfz9_0, hfz9_1, hfz9_2, hfz9_3, hfz9_4, hfz9_5⟩ := ce6_ BK497) | (go_at_call 61; (with_reducible refine (spigotref03_Filled.calls k a0_0 a0_1 a0_2 a0_3 a0_4 a0_5 18446744073709551615 t498 t499 t500 t501 t502 t503 _ A3.out).mono ?_); rintro e w10 ⟨rfl, hb⟩; replace BK497 := bb_ BK497 hb; replace HB := bs_ w hb; clear hb))
  repeat (go_quiet (first | ((with_reducible refine gate_dst (N := 2) rfl ?_); refine bx_ #[.int .i64 a0_0, .int .i64 a0_1, .int .i64 a0_2, .int .i64 a0_3, .int .i64 a0_4, .int .u64 a0_5] 63 ?_; intro gb497 hg w8 BK497 hb; have GW497 := bz_ w hg; have GE497 := GW497; replace HB := bs_ w hb; clear hb hg; obtain ⟨hcz9_0, hcz9_1, hcz9_2, hcz9_3, hcz9_4, hcz9_5, hfz9_0, hfz9_1, hfz9_2, hfz9_3, hfz9_4, hfz9_5⟩ := ce6_ BK497) | (go_at_call 61; (with_reducible refine (spigotref03_Filled.calls k a0_0 a0_1 a0_2 a0_3 a0_4 a0_5 18446744073709551615 t498 t499 t500 t501 t502 t503 _ A3.out).mono ?_); rintro e w10 ⟨rfl, hb⟩; replace BK497 := bb_ BK497 hb; replace HB := bs_ w hb; clear hb)); try go_wp2_with (first | ((with_reducible refine gate_dst (N := 2) rfl ?_); refine bx_ #[.int .i64 a0_0, .int .i64 a0_1, .int .i64 a0_2, .int .i64 a0_3, .int .i64 a0_4, .int .u64 a0_5] 63 ?_; intro gb497 hg w8 BK497 hb; have GW497 := bz_ w hg; have GE497 := GW497; replace HB := bs_ w hb; clear hb hg; obtain ⟨hcz9_0, hcz9_1, hcz9_2, hcz9_3, hcz9_4, hcz9_5, hfz9_0, hfz9_1, hfz9_2, hfz9_3, hfz9_4, hfz9_5⟩ := ce6_ BK497) | (go_at_call 61; (with_reducible refine (spigotref03_Filled.calls k a0_0 a0_1 a0_2 a0_3 a0_4 a0_5 18446744073709551615 t498 t499 t500 t501 t502 t503 _ A3.out).mono ?_); rintro e w10 ⟨rfl, hb⟩; replace BK497 := bb_ BK497 hb; replace HB := bs_ w hb; clear hb)))
  go_loopg [5, 6] k (fun kq v5 v6 w' => ∃ (x5_1 : Int) (x6_1 : Int), v5 = .int .u64 x5_1 ∧ v6 = .int .u64 x6_1 ∧ Aside0 (spigotref03_Waited.l0 kq a1 x5_1 x6_1 a0_0 a0_1 a0_2 a0_3 a0_4 a0_5 = some r) ∧ Aside0 (kq ≤ k) ∧ Aside0 (w'.heap[gb497]? = some (.cells #[.int .i64 a0_0, .int .i64 a0_1, .int .i64 a0_2, .int .i64 a0_3, .int .i64 a0_4, .int .u64 a0_5] 63 (0, 0))) ∧ Aside0 (Below w.heap.size w w'))
  case atStart => exact ⟨(0), (IntKind.u64.wrap (18446744073709551615 - a0_5)), rf_, rf_, H', ⟨Nat.le_refl _⟩, ⟨bq_ BK497⟩, bw_⟩
  case round =>
   clear H'
   try clear c4
   try clear c4b0
   try clear hcz9_0
   try clear hcz9_1
   try clear hcz9_2
   try clear hcz9_3
   try clear hcz9_4
   try clear hcz9_5
   try clear hfz9_0
   try clear hfz9_1
   try clear hfz9_2
   try clear hfz9_3
   try clear hfz9_4
   try clear hfz9_5
   obtain ⟨x5_1, x6_1, rfl, rfl, HA, HK1, BK497, HB⟩ := hrel
   cases gk with
   | zero => exact absurd HA.out (by simp [spigotref03_Waited.l0])
   | succ k1 =>
    have H := HA.out
    clear HA
    simp only [spigotref03_Waited.l0] at H
    by_cases c11 : x5_1 < x6_1
    ·rw [if_pos c11] at H
     have c11b0 : decide (x5_1 < x6_1) = true := decide_eq_true c11
     clear c11
     have H0_ := bo_ H; clear H; obtain ⟨⟨t504, t505, t506, t507, t508, t509⟩, A12, H⟩ := H0_
     try dsimp only at H
     by_cases c13 : t507 ≥ a1
     ·rw [if_pos c13] at H
      have c13b0 : decide (a1 ≤ t507) = true := decide_eq_true c13
      clear c13
      have H' := Aside0.mk H
      clear H
      replace hc497 := ce6_ BK497
      go_wp2_with (first | (go_at_call 61; (with_reducible refine (spigotref03_Filled.calls k1 a0_0 a0_1 a0_2 a0_3 a0_4 a0_5 (IntKind.u64.wrap (a0_5 + (IntKind.u64.wrap (x5_1 + (IntKind.u64.wrap (Int.tdiv (IntKind.u64.wrap (x6_1 - x5_1)) 2)))))) t504 t505 t506 t507 t508 t509 _ A12.out).mono ?_); rintro e w15 ⟨rfl, hb⟩; replace BK497 := bb_ BK497 hb; replace HB := bs_ w hb; clear hb))
      repeat (go_quiet (first | (go_at_call 61; (with_reducible refine (spigotref03_Filled.calls k1 a0_0 a0_1 a0_2 a0_3 a0_4 a0_5 (IntKind.u64.wrap (a0_5 + (IntKind.u64.wrap (x5_1 + (IntKind.u64.wrap (Int.tdiv (IntKind.u64.wrap (x6_1 - x5_1)) 2)))))) t504 t505 t506 t507 t508 t509 _ A12.out).mono ?_); rintro e w15 ⟨rfl, hb⟩; replace BK497 := bb_ BK497 hb; replace HB := bs_ w hb; clear hb)); try go_wp2_with (first | (go_at_call 61; (with_reducible refine (spigotref03_Filled.calls k1 a0_0 a0_1 a0_2 a0_3 a0_4 a0_5 (IntKind.u64.wrap (a0_5 + (IntKind.u64.wrap (x5_1 + (IntKind.u64.wrap (Int.tdiv (IntKind.u64.wrap (x6_1 - x5_1)) 2)))))) t504 t505 t506 t507 t508 t509 _ A12.out).mono ?_); rintro e w15 ⟨rfl, hb⟩; replace BK497 := bb_ BK497 hb; replace HB := bs_ w hb; clear hb)))
      go_roundg k1
      case measure => have := HK1.out; omega
      case rel => exact ⟨(x5_1), (IntKind.u64.wrap (x5_1 + (IntKind.u64.wrap (Int.tdiv (IntKind.u64.wrap (x6_1 - x5_1)) 2)))), rf_, rf_, H', ⟨by have := HK1.out; omega⟩, ⟨bq_ BK497⟩, bw_⟩
     ·rw [if_neg c13] at H
      have c13b0 : decide (a1 ≤ t507) = false := decide_eq_false c13
      clear c13
      have H' := Aside0.mk H
      clear H
      replace hc497 := ce6_ BK497
      go_wp2_with (first | (go_at_call 61; (with_reducible refine (spigotref03_Filled.calls k1 a0_0 a0_1 a0_2 a0_3 a0_4 a0_5 (IntKind.u64.wrap (a0_5 + (IntKind.u64.wrap (x5_1 + (IntKind.u64.wrap (Int.tdiv (IntKind.u64.wrap (x6_1 - x5_1)) 2)))))) t504 t505 t506 t507 t508 t509 _ A12.out).mono ?_); rintro e w17 ⟨rfl, hb⟩; replace BK497 := bb_ BK497 hb; replace HB := bs_ w hb; clear hb))
      repeat (go_quiet (first | (go_at_call 61; (with_reducible refine (spigotref03_Filled.calls k1 a0_0 a0_1 a0_2 a0_3 a0_4 a0_5 (IntKind.u64.wrap (a0_5 + (IntKind.u64.wrap (x5_1 + (IntKind.u64.wrap (Int.tdiv (IntKind.u64.wrap (x6_1 - x5_1)) 2)))))) t504 t505 t506 t507 t508 t509 _ A12.out).mono ?_); rintro e w17 ⟨rfl, hb⟩; replace BK497 := bb_ BK497 hb; replace HB := bs_ w hb; clear hb)); try go_wp2_with (first | (go_at_call 61; (with_reducible refine (spigotref03_Filled.calls k1 a0_0 a0_1 a0_2 a0_3 a0_4 a0_5 (IntKind.u64.wrap (a0_5 + (IntKind.u64.wrap (x5_1 + (IntKind.u64.wrap (Int.tdiv (IntKind.u64.wrap (x6_1 - x5_1)) 2)))))) t504 t505 t506 t507 t508 t509 _ A12.out).mono ?_); rintro e w17 ⟨rfl, hb⟩; replace BK497 := bb_ BK497 hb; replace HB := bs_ w hb; clear hb)))
      go_roundg k1
      case measure => have := HK1.out; omega
      case rel => exact ⟨(IntKind.u64.wrap ((IntKind.u64.wrap (x5_1 + (IntKind.u64.wrap (Int.tdiv (IntKind.u64.wrap (x6_1 - x5_1)) 2)))) + 1)), (x6_1), rf_, rf_, H', ⟨by have := HK1.out; omega⟩, ⟨bq_ BK497⟩, bw_⟩
    ·rw [if_neg c11] at H
     have c11b0 : decide (x5_1 < x6_1) = false := decide_eq_false c11
     clear c11
     obtain rfl := Option.some.inj H
     go_wp2
     repeat (go_quiet (fail); try go_wp2)
     go_ret
     exact fi_

end Go.Proofs.Ytfdpcnkghmmobaa.X
