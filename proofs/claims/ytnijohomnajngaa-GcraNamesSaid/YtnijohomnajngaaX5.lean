-- written by xprint.py, a program of this session over the kit's print
import Derived.Test.YtnijohomnajngaaX0
namespace Go.Proofs.Ytnijohomnajngaa.X
open Go.RowKit Go.Proofs.YtnijohomnajngaaW.PrintWords Go.Proofs.YtnijohomnajngaaW.PrintLast Go.Proofs.YtnijohomnajngaaW.PrintMore
attribute [local go_sem] max2_int min2_int max_two min_two max_three min_three max_four min_four   -- for this text's walks alone
set_option linter.unusedVariables false
set_option linter.unusedSimpArgs false

/-! ### bucket_CheckLimit: function 30 -/
def bucket_CheckLimit.f (a0_0 : Int) (a0_1 : Int) (a0_2 : Int) : Option (Int) := if a0_0 < 1 then (some 8) else (if a0_0 > 1000000000 then (some 8) else (if a0_1 < 0 then (some 8) else (if a0_1 > 1000000000 then (some 8) else (if a0_2 < 1 then (some 8) else (if a0_2 > 1000000000 then (some 8) else (some 0))))))
set_option maxHeartbeats 8000000 in
set_option maxRecDepth 100000 in
theorem bucket_CheckLimit.calls (a0_0 : Int) (a0_1 : Int) (a0_2 : Int) (r : Int) (w : World) (h : bucket_CheckLimit.f a0_0 a0_1 a0_2 = some r) :
  Calls Try.prog 30 #[.agg #[.int .i64 a0_0, .int .i64 a0_1, .int .i64 a0_2]] w fun e w' => e = .returned (.int .i64 r) ∧ Below w.heap.size w w' := by
 have hu23 := Try.underlying23
 have HB := Aside0.mk (Below.refl w.heap.size w)
 have H : (if a0_0 < 1 then (some 8) else (if a0_0 > 1000000000 then (some 8) else (if a0_1 < 0 then (some 8) else (if a0_1 > 1000000000 then (some 8) else (if a0_2 < 1 then (some 8) else (if a0_2 > 1000000000 then (some 8) else (some 0))))))) = some r := h
 clear h
 by_cases c2 : a0_0 < 1
 ·rw [if_pos c2] at H
  have c2b0 : decide (a0_0 < 1) = true := decide_eq_true c2
  clear c2
  obtain rfl := Option.some.inj H
  go_enter Try.func30, Try.ntmps30
  go_wp2_with (first | ((with_reducible refine gate_dst (N := 1) rfl ?_); (try refine ug_ (by rfl) ?_); refine bx_ #[.int .i64 a0_0, .int .i64 a0_1, .int .i64 a0_2] 23 ?_; intro gb101 hg w3 BK101 hb; have GW101 := bz_ w hg; have GE101 := GW101; replace HB := bs_ w hb; clear hb hg; replace hc101 := ce3_ BK101))
  go_ret
  exact fi_
 ·rw [if_neg c2] at H
  have c2b0 : decide (a0_0 < 1) = false := decide_eq_false c2
  clear c2
  by_cases c5 : a0_0 > 1000000000
  ·rw [if_pos c5] at H
   have c5b0 : decide (1000000000 < a0_0) = true := decide_eq_true c5
   clear c5
   obtain rfl := Option.some.inj H
   go_enter Try.func30, Try.ntmps30
   go_wp2_with (first | ((with_reducible refine gate_dst (N := 1) rfl ?_); (try refine ug_ (by rfl) ?_); refine bx_ #[.int .i64 a0_0, .int .i64 a0_1, .int .i64 a0_2] 23 ?_; intro gb101 hg w6 BK101 hb; have GW101 := bz_ w hg; have GE101 := GW101; replace HB := bs_ w hb; clear hb hg; replace hc101 := ce3_ BK101))
   go_ret
   exact fi_
  ·rw [if_neg c5] at H
   have c5b0 : decide (1000000000 < a0_0) = false := decide_eq_false c5
   clear c5
   by_cases c8 : a0_1 < 0
   ·rw [if_pos c8] at H
    have c8b0 : decide (a0_1 < 0) = true := decide_eq_true c8
    clear c8
    obtain rfl := Option.some.inj H
    go_enter Try.func30, Try.ntmps30
    go_wp2_with (first | ((with_reducible refine gate_dst (N := 1) rfl ?_); (try refine ug_ (by rfl) ?_); refine bx_ #[.int .i64 a0_0, .int .i64 a0_1, .int .i64 a0_2] 23 ?_; intro gb101 hg w9 BK101 hb; have GW101 := bz_ w hg; have GE101 := GW101; replace HB := bs_ w hb; clear hb hg; replace hc101 := ce3_ BK101))
    go_ret
    exact fi_
   ·rw [if_neg c8] at H
    have c8b0 : decide (a0_1 < 0) = false := decide_eq_false c8
    clear c8
    by_cases c11 : a0_1 > 1000000000
    ·rw [if_pos c11] at H
     have c11b0 : decide (1000000000 < a0_1) = true := decide_eq_true c11
     clear c11
     obtain rfl := Option.some.inj H
     go_enter Try.func30, Try.ntmps30
     go_wp2_with (first | ((with_reducible refine gate_dst (N := 1) rfl ?_); (try refine ug_ (by rfl) ?_); refine bx_ #[.int .i64 a0_0, .int .i64 a0_1, .int .i64 a0_2] 23 ?_; intro gb101 hg w12 BK101 hb; have GW101 := bz_ w hg; have GE101 := GW101; replace HB := bs_ w hb; clear hb hg; replace hc101 := ce3_ BK101))
     go_ret
     exact fi_
    ·rw [if_neg c11] at H
     have c11b0 : decide (1000000000 < a0_1) = false := decide_eq_false c11
     clear c11
     by_cases c14 : a0_2 < 1
     ·rw [if_pos c14] at H
      have c14b0 : decide (a0_2 < 1) = true := decide_eq_true c14
      clear c14
      obtain rfl := Option.some.inj H
      go_enter Try.func30, Try.ntmps30
      go_wp2_with (first | ((with_reducible refine gate_dst (N := 1) rfl ?_); (try refine ug_ (by rfl) ?_); refine bx_ #[.int .i64 a0_0, .int .i64 a0_1, .int .i64 a0_2] 23 ?_; intro gb101 hg w15 BK101 hb; have GW101 := bz_ w hg; have GE101 := GW101; replace HB := bs_ w hb; clear hb hg; replace hc101 := ce3_ BK101))
      go_ret
      exact fi_
     ·rw [if_neg c14] at H
      have c14b0 : decide (a0_2 < 1) = false := decide_eq_false c14
      clear c14
      by_cases c17 : a0_2 > 1000000000
      ·rw [if_pos c17] at H
       have c17b0 : decide (1000000000 < a0_2) = true := decide_eq_true c17
       clear c17
       obtain rfl := Option.some.inj H
       go_enter Try.func30, Try.ntmps30
       go_wp2_with (first | ((with_reducible refine gate_dst (N := 1) rfl ?_); (try refine ug_ (by rfl) ?_); refine bx_ #[.int .i64 a0_0, .int .i64 a0_1, .int .i64 a0_2] 23 ?_; intro gb101 hg w18 BK101 hb; have GW101 := bz_ w hg; have GE101 := GW101; replace HB := bs_ w hb; clear hb hg; replace hc101 := ce3_ BK101))
       go_ret
       exact fi_
      ·rw [if_neg c17] at H
       have c17b0 : decide (1000000000 < a0_2) = false := decide_eq_false c17
       clear c17
       obtain rfl := Option.some.inj H
       go_enter Try.func30, Try.ntmps30
       go_wp2_with (first | ((with_reducible refine gate_dst (N := 1) rfl ?_); (try refine ug_ (by rfl) ?_); refine bx_ #[.int .i64 a0_0, .int .i64 a0_1, .int .i64 a0_2] 23 ?_; intro gb101 hg w20 BK101 hb; have GW101 := bz_ w hg; have GE101 := GW101; replace HB := bs_ w hb; clear hb hg; replace hc101 := ce3_ BK101))
       go_ret
       exact fi_

/-! ### bits_Mul64: function 64 -/
def bits_Mul64.f (a0 : Int) (a1 : Int) : Option (Int × Int) := some (IntKind.u64.wrap ((IntKind.u64.wrap ((IntKind.u64.wrap ((a0 / 4294967296) * (a1 / 4294967296))) + ((IntKind.u64.wrap ((IntKind.u64.wrap ((a0 / 4294967296) * (Go.bits .and .u64 a1 4294967295))) + ((IntKind.u64.wrap ((Go.bits .and .u64 a0 4294967295) * (Go.bits .and .u64 a1 4294967295))) / 4294967296))) / 4294967296))) + ((IntKind.u64.wrap ((Go.bits .and .u64 (IntKind.u64.wrap ((IntKind.u64.wrap ((a0 / 4294967296) * (Go.bits .and .u64 a1 4294967295))) + ((IntKind.u64.wrap ((Go.bits .and .u64 a0 4294967295) * (Go.bits .and .u64 a1 4294967295))) / 4294967296))) 4294967295) + (IntKind.u64.wrap ((Go.bits .and .u64 a0 4294967295) * (a1 / 4294967296))))) / 4294967296)), IntKind.u64.wrap (a0 * a1))
set_option maxHeartbeats 8000000 in
set_option maxRecDepth 100000 in
theorem bits_Mul64.calls (a0 : Int) (a1 : Int) (r1 : Int) (r2 : Int) (w : World) (h : bits_Mul64.f a0 a1 = some (r1, r2)) :
  Calls Try.prog 64 #[.int .u64 a0, .int .u64 a1] w fun e w' => e = .returned (.tuple #[.int .u64 r1, .int .u64 r2]) ∧ Drawn0 w w' := by
 have H : (some (IntKind.u64.wrap ((IntKind.u64.wrap ((IntKind.u64.wrap ((a0 / 4294967296) * (a1 / 4294967296))) + ((IntKind.u64.wrap ((IntKind.u64.wrap ((a0 / 4294967296) * (Go.bits .and .u64 a1 4294967295))) + ((IntKind.u64.wrap ((Go.bits .and .u64 a0 4294967295) * (Go.bits .and .u64 a1 4294967295))) / 4294967296))) / 4294967296))) + ((IntKind.u64.wrap ((Go.bits .and .u64 (IntKind.u64.wrap ((IntKind.u64.wrap ((a0 / 4294967296) * (Go.bits .and .u64 a1 4294967295))) + ((IntKind.u64.wrap ((Go.bits .and .u64 a0 4294967295) * (Go.bits .and .u64 a1 4294967295))) / 4294967296))) 4294967295) + (IntKind.u64.wrap ((Go.bits .and .u64 a0 4294967295) * (a1 / 4294967296))))) / 4294967296)), IntKind.u64.wrap (a0 * a1))) = some (r1, r2) := h
 clear h
 simp only [Option.some.injEq, Prod.mk.injEq] at H
 obtain ⟨rfl, rfl⟩ := H
 go_enter Try.func64, Try.ntmps64
 go_wp2
 go_ret2
 exact ⟨by first | rfl | (simp; done) | (simp [*]; done), by repeat (first | exact Drawn0.refl _ | apply Drawn0.step)⟩

/-! ### wide_Mul: function 54 -/
def wide_Mul.f (a0 : Int) (a1 : Int) : Option (Int × Int) := (bits_Mul64.f a0 a1).bind fun bt103 => (some (bt103.1, bt103.2))
set_option maxHeartbeats 8000000 in
set_option maxRecDepth 100000 in
theorem wide_Mul.calls (a0 : Int) (a1 : Int) (r1 : Int) (r2 : Int) (w : World) (h : wide_Mul.f a0 a1 = some (r1, r2)) :
  Calls Try.prog 54 #[.int .u64 a0, .int .u64 a1] w fun e w' => e = .returned (.agg #[.int .u64 r1, .int .u64 r2]) ∧ Below w.heap.size w w' := by
 have hu26 := Try.underlying26
 have HB := Aside0.mk (Below.refl w.heap.size w)
 have H : ((bits_Mul64.f a0 a1).bind fun bt103 => (some (bt103.1, bt103.2))) = some (r1, r2) := h
 clear h
 have H0_ := bo_ H; clear H; obtain ⟨⟨t103, t104⟩, A3, H⟩ := H0_
 replace H : (some (t103, t104)) = some (r1, r2) := H
 simp only [Option.some.injEq, Prod.mk.injEq] at H
 obtain ⟨rfl, rfl⟩ := H
 go_enter Try.func54, Try.ntmps54
 go_wp2_with (first | ((with_reducible refine gate_dst (N := 4) rfl ?_); refine bx_ #[.int .u64 0, .int .u64 0] 26 ?_; intro gb102 hg w4 BK102 hb; have GW102 := bz_ w hg; replace HB := bs_ w hb; clear hb hg) | ((with_reducible refine gate_callee (f := 64) rfl ?_); refine goesA_ (some 10) Try.func64 #[.int .u64 a0, .int .u64 a1] ?_; (with_reducible refine (bits_Mul64.calls a0 a1 t103 t104 _ A3.out).mono ?_); rintro e w' ⟨rfl, ⟨nd, rfl⟩⟩; refine ⟨_, rfl, ?_⟩; (try ((first | generalize hq_ : World.drewN w4 _ = w4 | (rw [drewN_self w4]; generalize hq_ : World.drewN w4 _ = w4)); replace BK102 : Aside0 (w4.heap[gb102]? = some (.cells #[.int .u64 0, .int .u64 0] 26 (0, 0))) := ⟨by rw [← hq_]; exact (bq_ BK102)⟩; replace HB : Aside0 (Below w.heap.size w w4) := ⟨by rw [← hq_]; exact bh_⟩; clear hq_)); replace hc102 := ce2_ BK102))
 refine bodyPost_ret (results_cell_row rfl _ _ gb102 26 #[.int .u64 t103, .int .u64 t104] (0, 0) _ rfl (bp2_ (bq_ BK102)) Try.underlying26 rfl (by kernel_rfl)) rfl ?_
 exact fi_

/-! ### gcra_at: function 31 -/
def gcra_at.f (a0_0 : Int) (a0_1 : Int) (a0_2 : Int) (a1 : Int) : Option (Int × Int) := (wide_Mul.f a1 (IntKind.u64.wrap (a0_1))).bind fun bt107 => (some (bt107.1, bt107.2))
set_option maxHeartbeats 8000000 in
set_option maxRecDepth 100000 in
theorem gcra_at.calls (a0_0 : Int) (a0_1 : Int) (a0_2 : Int) (a1 : Int) (r1 : Int) (r2 : Int) (w : World) (h : gcra_at.f a0_0 a0_1 a0_2 a1 = some (r1, r2)) :
  Calls Try.prog 31 #[.agg #[.int .i64 a0_0, .int .i64 a0_1, .int .i64 a0_2], .int .u64 a1] w fun e w' => e = .returned (.agg #[.int .u64 r1, .int .u64 r2]) ∧ Below w.heap.size w w' := by
 have hu23 := Try.underlying23
 have hu26 := Try.underlying26
 have HB := Aside0.mk (Below.refl w.heap.size w)
 have H : ((wide_Mul.f a1 (IntKind.u64.wrap (a0_1))).bind fun bt107 => (some (bt107.1, bt107.2))) = some (r1, r2) := h
 clear h
 have H0_ := bo_ H; clear H; obtain ⟨⟨t107, t108⟩, A3, H⟩ := H0_
 replace H : (some (t107, t108)) = some (r1, r2) := H
 simp only [Option.some.injEq, Prod.mk.injEq] at H
 obtain ⟨rfl, rfl⟩ := H
 go_enter Try.func31, Try.ntmps31
 go_wp2_with (first | ((with_reducible refine gate_dst (N := 2) rfl ?_); refine bx_ #[.int .i64 a0_0, .int .i64 a0_1, .int .i64 a0_2] 23 ?_; intro gb105 hg w4 BK105 hb; have GW105 := bz_ w hg; replace HB := bs_ w hb; clear hb hg) | ((with_reducible refine gate_dst (N := 4) rfl ?_); refine bx_ #[.int .u64 0, .int .u64 0] 26 ?_; intro gb106 hg w5 BK106 hb; have GW106 := bz_ w hg; have NB105_106 := bn_ BK105 hg; have NB106_105 := bm_ BK105 hg; replace BK105 := bb_ BK105 hb; replace HB := bs_ w hb; clear hb hg; replace hn105_106 := NB105_106.out; replace hn106_105 := NB106_105.out; replace hc105 := ce3_ BK105) | ((with_reducible refine gate_callee (f := 54) rfl ?_); refine goesA_ (some 9) Try.func54 #[.int .u64 a1, .int .u64 (IntKind.u64.wrap (a0_1))] ?_; (with_reducible refine (wide_Mul.calls a1 (IntKind.u64.wrap (a0_1)) t107 t108 _ A3.out).mono ?_); rintro e w8 ⟨rfl, hb⟩; refine ⟨_, rfl, ?_⟩; replace BK105 := bb_ BK105 hb; replace BK106 := bb_ BK106 hb; replace HB := bs_ w hb; clear hb; replace hc106 := ce2_ BK106))
 refine bodyPost_ret (results_cell_row rfl _ _ gb106 26 #[.int .u64 t107, .int .u64 t108] (0, 0) _ rfl (bp2_ (bq_ BK106)) Try.underlying26 rfl (by kernel_rfl)) rfl ?_
 exact fi_

/-! ### gcra_New: function 9 -/
def gcra_New.f (a0_0 : Int) (a0_1 : Int) (a0_2 : Int) (a1 : Int) : Option (Int × Int × Int × Int × Int × Int × Int) := (bucket_CheckLimit.f a0_0 a0_1 a0_2).bind fun t111 => (if t111 = 0 then ((gcra_at.f a0_0 a0_1 a0_2 a1).bind fun bt112 => (some (a0_0, a0_1, a0_2, bt112.1, bt112.2, a1, 0))) else (some (0, 0, 0, 0, 0, 0, t111)))
def gcra_New.T4 : Bool × List (List Nat × List Nat) := (true, [([], []), ([], []), ([], []), ([1, 2], [1, 2]), ([], []), ([0, 3, 4], [0, 3, 4]), ([5, 3, 0, 1, 2, 3, 4, 5], [5]), ([6, 0, 1, 2, 3, 4, 5, 6], [])])
def gcra_New.B4 : List Nat := [0, 0, 0, 6, 0, 31, 63, 127]
theorem gcra_New.tab4 : rtab .any (opsOf Try.f9 4) = gcra_New.T4 := by kernel_rfl
theorem gcra_New.bits4 : waitsOk gcra_New.T4.2 gcra_New.B4 = true := by kernel_rfl
set_option maxHeartbeats 8000000 in
set_option maxRecDepth 100000 in
theorem gcra_New.calls (a0_0 : Int) (a0_1 : Int) (a0_2 : Int) (a1 : Int) (r1 : Int) (r2 : Int) (r3 : Int) (r4 : Int) (r5 : Int) (r6 : Int) (r7 : Int) (w : World) (h : gcra_New.f a0_0 a0_1 a0_2 a1 = some (r1, r2, r3, r4, r5, r6, r7)) :
  Calls Try.prog 9 #[.agg #[.int .i64 a0_0, .int .i64 a0_1, .int .i64 a0_2], .int .u64 a1] w fun e w' => e = .returned (.tuple #[.agg #[.int .i64 r1, .int .i64 r2, .int .i64 r3, .int .u64 r4, .int .u64 r5, .int .u64 r6], .int .i64 r7]) ∧ Below w.heap.size w w' := by
 have hu23 := Try.underlying23
 have hu28 := Try.underlying28
 have HB := Aside0.mk (Below.refl w.heap.size w)
 have H : ((bucket_CheckLimit.f a0_0 a0_1 a0_2).bind fun t111 => (if t111 = 0 then ((gcra_at.f a0_0 a0_1 a0_2 a1).bind fun bt112 => (some (a0_0, a0_1, a0_2, bt112.1, bt112.2, a1, 0))) else (some (0, 0, 0, 0, 0, 0, t111)))) = some (r1, r2, r3, r4, r5, r6, r7) := h
 clear h
 have H0_ := bo_ H; clear H; obtain ⟨t111, A3, H⟩ := H0_
 try dsimp only at H
 by_cases c4 : t111 = 0
 ·rw [if_pos c4] at H
  have c4b0 : (t111 == 0) = true := beq_iff_eq.mpr c4
  have c4b1 : (t111 != 0) = false := bne_eq_false_iff_eq.mpr c4
  clear c4
  have H0_ := bo_ H; clear H; obtain ⟨⟨t112, t113⟩, A5, H⟩ := H0_
  replace H : (some (a0_0, a0_1, a0_2, t112, t113, a1, 0)) = some (r1, r2, r3, r4, r5, r6, r7) := H
  simp only [Option.some.injEq, Prod.mk.injEq] at H
  obtain ⟨rfl, rfl, rfl, rfl, rfl, rfl, rfl⟩ := H
  go_enter Try.func9, Try.ntmps9
  try go_wp2_with (first | ((with_reducible refine gate_dst (N := 2) rfl ?_); refine bx_ #[.int .i64 a0_0, .int .i64 a0_1, .int .i64 a0_2] 23 ?_; intro gb109 hg w6 BK109 hb; have GW109 := bz_ w hg; have GE109 := GW109; replace HB := bs_ w hb; clear hb hg) | ((with_reducible refine gate_dst (N := 4) rfl ?_); refine bx_ #[.int .i64 0, .int .i64 0, .int .i64 0, .int .u64 0, .int .u64 0, .int .u64 0] 28 ?_; intro gb110 hg w7 BK110 hb; have GW110 := bz_ w hg; have GE110 := GW110; have NB109_110 := bn_ BK109 hg; have NB110_109 := bm_ BK109 hg; replace BK109 := bb_ BK109 hb; replace HB := bs_ w hb; clear hb hg; replace hn109_110 := NB109_110.out; replace hn110_109 := NB110_109.out; replace hc109 := ce3_ BK109) | ((with_reducible refine gate_callee (f := 30) rfl ?_); refine goesA_ (some 8) Try.func30 #[.agg #[.int .i64 a0_0, .int .i64 a0_1, .int .i64 a0_2]] ?_; (with_reducible refine (bucket_CheckLimit.calls a0_0 a0_1 a0_2 t111 _ A3.out).mono ?_); rintro e w10 ⟨rfl, hb⟩; refine ⟨_, rfl, ?_⟩; replace BK109 := bb_ BK109 hb; replace BK110 := bb_ BK110 hb; replace HB := bs_ w hb; clear hb))
  replace BK109 := Aside0.mk (blk_drew BK109.out)
  replace BK110 := Aside0.mk (blk_drew BK110.out)
  replace HB := Aside0.mk (below_drew1 HB.out)
  refine start_ (n := 8) (S := fun w' => w'.cell? ⟨gb109, 0, none⟩ = some (.int .i64 a0_0) ∧ w'.cell? ⟨gb109, 1, none⟩ = some (.int .i64 a0_1) ∧ w'.cell? ⟨gb109, 2, none⟩ = some (.int .i64 a0_2)) (ds := []) (bl_ 8 0) (by kernel_rfl) rfl (by kernel_rfl) (cc3_ BK109) (fun hHeld => ?_); refine with_tabW gcra_New.tab4 gcra_New.bits4 (fun HT_ HW_ => ?_)
  generalize w10.drew = w11 at BK109 BK110 HB hHeld ⊢
  refine pa_ 2 (some 15) (bl_ 8 4) HT_ ?_
  refine pa_ 4 (some 17) (bl_ 8 20) HT_ ?_
  refine ta_ 0 (some 13) (bl_ 8 21) HT_ HW_ hHeld ?_
  refine ta_ 1 (some 14) (bl_ 8 23) HT_ HW_ hHeld ?_
  refine oa_ 3 (some 16) (bl_ 8 31) HT_ fun K hK => ?_
  refine goesB_ Try.func31 #[.agg #[.int .i64 a0_0, .int .i64 a0_1, .int .i64 a0_2], .int .u64 a1] ?_
  with_reducible refine (gcra_at.calls a0_0 a0_1 a0_2 a1 t112 t113 _ A5.out).mono ?_
  rintro e w12 ⟨rfl, hb⟩
  refine ⟨_, rfl, ?_⟩
  replace BK109 := bb_ BK109 hb
  replace BK110 := bb_ BK110 hb
  replace HB := bs_ w hb
  clear hb
  refine hK.out _ _ (cc3_ BK109) (fun hHeld => ?_)
  clear hK K
  refine nm_ (some 16) ?_
  refine pa_ 5 (some 18) (bl_ 8 63) HT_ ?_
  refine oa_ 6 none (bl_ 8 127) HT_ fun K hK => ?_
  have hs13 : w12.cell? ⟨gb110, 0, none⟩ = some (.int .i64 0) := (blk_cell BK110.out 0).trans rfl
  have hfs13 := blk_frozen BK110.out 0
  have hns13_0 := NB109_110.out
  have hms13_0 := NB110_109.out
  have hs14 : w12.cell? ⟨gb110, 1, none⟩ = some (.int .i64 0) := (blk_cell BK110.out 1).trans rfl
  have hfs14 := blk_frozen BK110.out 1
  have hns14_0 := NB109_110.out
  have hms14_0 := NB110_109.out
  have hs15 : w12.cell? ⟨gb110, 2, none⟩ = some (.int .i64 0) := (blk_cell BK110.out 2).trans rfl
  have hfs15 := blk_frozen BK110.out 2
  have hns15_0 := NB109_110.out
  have hms15_0 := NB110_109.out
  have hs16 : w12.cell? ⟨gb110, 3, none⟩ = some (.int .u64 0) := (blk_cell BK110.out 3).trans rfl
  have hfs16 := blk_frozen BK110.out 3
  have hns16_0 := NB109_110.out
  have hms16_0 := NB110_109.out
  have hs17 : w12.cell? ⟨gb110, 4, none⟩ = some (.int .u64 0) := (blk_cell BK110.out 4).trans rfl
  have hfs17 := blk_frozen BK110.out 4
  have hns17_0 := NB109_110.out
  have hms17_0 := NB110_109.out
  have hs18 : w12.cell? ⟨gb110, 5, none⟩ = some (.int .u64 0) := (blk_cell BK110.out 5).trans rfl
  have hfs18 := blk_frozen BK110.out 5
  have hns18_0 := NB109_110.out
  have hms18_0 := NB110_109.out
  refine sk_ ?_
  refine hK.out _ _ (cf3_ hHeld) (fun hHeld => ?_)
  clear hK K
  refine pa_ 7 (some 5) (bl_ 8 255) HT_ ?_
  refine done_ (done_of HT_.out (by kernel_rfl)) ?_
  try go_wp2
  refine bodyPost_ret (results_ct rfl _ _ gb110 28 #[.int .i64 a0_0, .int .i64 a0_1, .int .i64 a0_2, .int .u64 t112, .int .u64 t113, .int .u64 a1] (0, 0) _ rfl (bp6_ (bq_ BK110)) Try.underlying28 rfl (by kernel_rfl)) rfl ?_
  exact fi_
 ·rw [if_neg c4] at H
  have c4b0 : (t111 == 0) = false := beq_eq_false_iff_ne.mpr c4
  have c4b1 : (t111 != 0) = true := bne_iff_ne.mpr c4
  simp only [Option.some.injEq, Prod.mk.injEq] at H
  obtain ⟨rfl, rfl, rfl, rfl, rfl, rfl, rfl⟩ := H
  go_enter Try.func9, Try.ntmps9
  go_wp2_with (first | ((with_reducible refine gate_dst (N := 2) rfl ?_); refine bx_ #[.int .i64 a0_0, .int .i64 a0_1, .int .i64 a0_2] 23 ?_; intro gb109 hg w19 BK109 hb; have GW109 := bz_ w hg; have GE109 := GW109; replace HB := bs_ w hb; clear hb hg) | ((with_reducible refine gate_dst (N := 4) rfl ?_); refine bx_ #[.int .i64 0, .int .i64 0, .int .i64 0, .int .u64 0, .int .u64 0, .int .u64 0] 28 ?_; intro gb110 hg w20 BK110 hb; have GW110 := bz_ w hg; have GE110 := GW110; have NB109_110 := bn_ BK109 hg; have NB110_109 := bm_ BK109 hg; replace BK109 := bb_ BK109 hb; replace HB := bs_ w hb; clear hb hg; replace hn109_110 := NB109_110.out; replace hn110_109 := NB110_109.out; replace hc109 := ce3_ BK109) | ((with_reducible refine gate_callee (f := 30) rfl ?_); refine goesA_ (some 8) Try.func30 #[.agg #[.int .i64 a0_0, .int .i64 a0_1, .int .i64 a0_2]] ?_; (with_reducible refine (bucket_CheckLimit.calls a0_0 a0_1 a0_2 t111 _ A3.out).mono ?_); rintro e w23 ⟨rfl, hb⟩; refine ⟨_, rfl, ?_⟩; replace BK109 := bb_ BK109 hb; replace BK110 := bb_ BK110 hb; replace HB := bs_ w hb; clear hb; replace hc110 := ce6_ BK110))
  refine bodyPost_ret (results_ct rfl _ _ gb110 28 #[.int .i64 0, .int .i64 0, .int .i64 0, .int .u64 0, .int .u64 0, .int .u64 0] (0, 0) _ rfl (bp6_ (bq_ BK110)) Try.underlying28 rfl (by kernel_rfl)) rfl ?_
  exact fi_

end Go.Proofs.Ytnijohomnajngaa.X
