-- written by xprint.py, a program of this session over the kit's print
import Derived.Test.YtfdpcnkghmmobaaX0
namespace Go.Proofs.Ytfdpcnkghmmobaa.X
open Go.RowKit Go.Proofs.YtfdpcnkghmmobaaW.PrintWords Go.Proofs.YtfdpcnkghmmobaaW.PrintLast Go.Proofs.YtfdpcnkghmmobaaW.PrintMore
attribute [local go_sem] max2_int min2_int max_two min_two max_three min_three max_four min_four   -- for this text's walks alone
set_option linter.unusedVariables false
set_option linter.unusedSimpArgs false

/-! ### bits_Mul64: function 75 -/
def bits_Mul64.f (a0 : Int) (a1 : Int) : Option (Int × Int) := some (IntKind.u64.wrap ((IntKind.u64.wrap ((IntKind.u64.wrap ((a0 / 4294967296) * (a1 / 4294967296))) + ((IntKind.u64.wrap ((IntKind.u64.wrap ((a0 / 4294967296) * (Go.bits .and .u64 a1 4294967295))) + ((IntKind.u64.wrap ((Go.bits .and .u64 a0 4294967295) * (Go.bits .and .u64 a1 4294967295))) / 4294967296))) / 4294967296))) + ((IntKind.u64.wrap ((Go.bits .and .u64 (IntKind.u64.wrap ((IntKind.u64.wrap ((a0 / 4294967296) * (Go.bits .and .u64 a1 4294967295))) + ((IntKind.u64.wrap ((Go.bits .and .u64 a0 4294967295) * (Go.bits .and .u64 a1 4294967295))) / 4294967296))) 4294967295) + (IntKind.u64.wrap ((Go.bits .and .u64 a0 4294967295) * (a1 / 4294967296))))) / 4294967296)), IntKind.u64.wrap (a0 * a1))
set_option maxHeartbeats 8000000 in
set_option maxRecDepth 100000 in
theorem bits_Mul64.calls (a0 : Int) (a1 : Int) (r1 : Int) (r2 : Int) (w : World) (h : bits_Mul64.f a0 a1 = some (r1, r2)) :
  Calls Try.prog 75 #[.int .u64 a0, .int .u64 a1] w fun e w' => e = .returned (.tuple #[.int .u64 r1, .int .u64 r2]) ∧ Drawn0 w w' := by
 have H : (some (IntKind.u64.wrap ((IntKind.u64.wrap ((IntKind.u64.wrap ((a0 / 4294967296) * (a1 / 4294967296))) + ((IntKind.u64.wrap ((IntKind.u64.wrap ((a0 / 4294967296) * (Go.bits .and .u64 a1 4294967295))) + ((IntKind.u64.wrap ((Go.bits .and .u64 a0 4294967295) * (Go.bits .and .u64 a1 4294967295))) / 4294967296))) / 4294967296))) + ((IntKind.u64.wrap ((Go.bits .and .u64 (IntKind.u64.wrap ((IntKind.u64.wrap ((a0 / 4294967296) * (Go.bits .and .u64 a1 4294967295))) + ((IntKind.u64.wrap ((Go.bits .and .u64 a0 4294967295) * (Go.bits .and .u64 a1 4294967295))) / 4294967296))) 4294967295) + (IntKind.u64.wrap ((Go.bits .and .u64 a0 4294967295) * (a1 / 4294967296))))) / 4294967296)), IntKind.u64.wrap (a0 * a1))) = some (r1, r2) := h
 clear h
 simp only [Option.some.injEq, Prod.mk.injEq] at H
 obtain ⟨rfl, rfl⟩ := H
 go_enter Try.func75, Try.ntmps75
 go_wp2
 go_ret2
 exact ⟨by first | rfl | (simp; done) | (simp [*]; done), by repeat (first | exact Drawn0.refl _ | apply Drawn0.step)⟩

/-! ### wide_Mul: function 57 -/
def wide_Mul.f (a0 : Int) (a1 : Int) : Option (Int × Int) := (bits_Mul64.f a0 a1).bind fun bt118 => (some (bt118.1, bt118.2))
set_option maxHeartbeats 8000000 in
set_option maxRecDepth 100000 in
theorem wide_Mul.calls (a0 : Int) (a1 : Int) (r1 : Int) (r2 : Int) (w : World) (h : wide_Mul.f a0 a1 = some (r1, r2)) :
  Calls Try.prog 57 #[.int .u64 a0, .int .u64 a1] w fun e w' => e = .returned (.agg #[.int .u64 r1, .int .u64 r2]) ∧ Below w.heap.size w w' := by
 have hu97 := Try.underlying97
 have HB := Aside0.mk (Below.refl w.heap.size w)
 have H : ((bits_Mul64.f a0 a1).bind fun bt118 => (some (bt118.1, bt118.2))) = some (r1, r2) := h
 clear h
 have H0_ := bo_ H; clear H; obtain ⟨⟨t118, t119⟩, A3, H⟩ := H0_
 replace H : (some (t118, t119)) = some (r1, r2) := H
 simp only [Option.some.injEq, Prod.mk.injEq] at H
 obtain ⟨rfl, rfl⟩ := H
 go_enter Try.func57, Try.ntmps57
 go_wp2_with (first | ((with_reducible refine gate_dst (N := 4) rfl ?_); refine bx_ #[.int .u64 0, .int .u64 0] 97 ?_; intro gb117 hg w4 BK117 hb; have GW117 := bz_ w hg; replace HB := bs_ w hb; clear hb hg) | ((with_reducible refine gate_callee (f := 75) rfl ?_); refine goesA_ (some 10) Try.func75 #[.int .u64 a0, .int .u64 a1] ?_; (with_reducible refine (bits_Mul64.calls a0 a1 t118 t119 _ A3.out).mono ?_); rintro e w' ⟨rfl, ⟨nd, rfl⟩⟩; refine ⟨_, rfl, ?_⟩; (try ((first | generalize hq_ : World.drewN w4 _ = w4 | (rw [drewN_self w4]; generalize hq_ : World.drewN w4 _ = w4)); replace BK117 : Aside0 (w4.heap[gb117]? = some (.cells #[.int .u64 0, .int .u64 0] 97 (0, 0))) := ⟨by rw [← hq_]; exact (bq_ BK117)⟩; replace HB : Aside0 (Below w.heap.size w w4) := ⟨by rw [← hq_]; exact bh_⟩; clear hq_)); replace hc117 := ce2_ BK117))
 refine bodyPost_ret (results_cell_row rfl _ _ gb117 97 #[.int .u64 t118, .int .u64 t119] (0, 0) _ rfl (bp2_ (bq_ BK117)) Try.underlying97 rfl (by kernel_rfl)) rfl ?_
 exact fi_

/-! ### wide_Of: function 58 -/
def wide_Of.f (a0 : Int) : Option (Int × Int) := some (0, a0)
set_option maxHeartbeats 8000000 in
set_option maxRecDepth 100000 in
theorem wide_Of.calls (a0 : Int) (r1 : Int) (r2 : Int) (w : World) (h : wide_Of.f a0 = some (r1, r2)) :
  Calls Try.prog 58 #[.int .u64 a0] w fun e w' => e = .returned (.agg #[.int .u64 r1, .int .u64 r2]) ∧ Below w.heap.size w w' := by
 have hu97 := Try.underlying97
 have HB := Aside0.mk (Below.refl w.heap.size w)
 have H : (some (0, a0)) = some (r1, r2) := h
 clear h
 simp only [Option.some.injEq, Prod.mk.injEq] at H
 obtain ⟨rfl, rfl⟩ := H
 go_enter Try.func58, Try.ntmps58
 go_wp2_with (first | ((with_reducible refine gate_dst (N := 2) rfl ?_); refine bx_ #[.int .u64 0, .int .u64 0] 97 ?_; intro gb120 hg w2 BK120 hb; have GW120 := bz_ w hg; replace HB := bs_ w hb; clear hb hg; replace hc120 := ce2_ BK120))
 refine bodyPost_ret (results_cell_row rfl _ _ gb120 97 #[.int .u64 0, .int .u64 a0] (0, 0) _ rfl (bp2_ (bq_ BK120)) Try.underlying97 rfl (by kernel_rfl)) rfl ?_
 exact fi_

/-! ### wide_Small: function 60 -/
def wide_Small.f (a0_0 : Int) (a0_1 : Int) : Option (Int × Int) := if a0_0 = 0 then (some (a0_1, 0)) else (some (0, 16))
set_option maxHeartbeats 8000000 in
set_option maxRecDepth 100000 in
theorem wide_Small.calls (a0_0 : Int) (a0_1 : Int) (r1 : Int) (r2 : Int) (w : World) (h : wide_Small.f a0_0 a0_1 = some (r1, r2)) :
  Calls Try.prog 60 #[.agg #[.int .u64 a0_0, .int .u64 a0_1]] w fun e w' => e = .returned (.tuple #[.int .u64 r1, .int .i64 r2]) ∧ Below w.heap.size w w' := by
 have hu97 := Try.underlying97
 have HB := Aside0.mk (Below.refl w.heap.size w)
 have H : (if a0_0 = 0 then (some (a0_1, 0)) else (some (0, 16))) = some (r1, r2) := h
 clear h
 by_cases c2 : a0_0 = 0
 ·rw [if_pos c2] at H
  have c2b0 : (a0_0 == 0) = true := beq_iff_eq.mpr c2
  have c2b1 : (a0_0 != 0) = false := bne_eq_false_iff_eq.mpr c2
  clear c2
  simp only [Option.some.injEq, Prod.mk.injEq] at H
  obtain ⟨rfl, rfl⟩ := H
  go_enter Try.func60, Try.ntmps60
  go_wp2_with (first | ((with_reducible refine gate_dst (N := 1) rfl ?_); refine bx_ #[.int .u64 a0_0, .int .u64 a0_1] 97 ?_; intro gb121 hg w3 BK121 hb; have GW121 := bz_ w hg; have GE121 := GW121; replace HB := bs_ w hb; clear hb hg; replace hc121 := ce2_ BK121))
  go_ret2
  exact fi_
 ·rw [if_neg c2] at H
  have c2b0 : (a0_0 == 0) = false := beq_eq_false_iff_ne.mpr c2
  have c2b1 : (a0_0 != 0) = true := bne_iff_ne.mpr c2
  simp only [Option.some.injEq, Prod.mk.injEq] at H
  obtain ⟨rfl, rfl⟩ := H
  go_enter Try.func60, Try.ntmps60
  go_wp2_with (first | ((with_reducible refine gate_dst (N := 1) rfl ?_); refine bx_ #[.int .u64 a0_0, .int .u64 a0_1] 97 ?_; intro gb121 hg w5 BK121 hb; have GW121 := bz_ w hg; have GE121 := GW121; replace HB := bs_ w hb; clear hb hg; replace hc121 := ce2_ BK121))
  go_ret2
  exact fi_

/-! ### bits_Add64: function 82 -/
def bits_Add64.f (a0 : Int) (a1 : Int) (a2 : Int) : Option (Int × Int) := if 0 ≤ a0 ∧ 0 ≤ a1 ∧ 0 ≤ a2 ∧ a2 ≤ 1 then some ((a0 + a1 + a2) % 18446744073709551616, (a0 + a1 + a2) / 18446744073709551616) else none
theorem bits_Add64.calls (a0 : Int) (a1 : Int) (a2 : Int) (r1 : Int) (r2 : Int) (w : World) (h : bits_Add64.f a0 a1 a2 = some (r1, r2)) :
    CallsX Try.prog 82 #[.int .u64 a0, .int .u64 a1, .int .u64 a2] w fun e w' => e = .returned (.tuple #[.int .u64 r1, .int .u64 r2]) ∧ Drawn0 w w' := by
  unfold bits_Add64.f at h
  split at h
  case isFalse => cases h
  rename_i hu
  obtain ⟨h0, h1, h2, h3⟩ := hu
  simp only [Option.some.injEq, Prod.mk.injEq] at h
  obtain ⟨rfl, rfl⟩ := h
  refine ⟨_, w, ?_, rfl, Drawn0.refl _⟩
  rw [run_callFunc_extern Try.func82 (by kernel_rfl) (by kernel_rfl) (by kernel_rfl) (e := add64Entry) (by kernel_rfl), run_add64 a0 a1 a2 h0 h1 h2 h3]
  rfl

/-! ### wide_Add: function 72 -/
def wide_Add.f (a0_0 : Int) (a0_1 : Int) (a1_0 : Int) (a1_1 : Int) : Option (Int × Int × Int) := (bits_Add64.f a0_1 a1_1 0).bind fun bt125 => ((bits_Add64.f a0_0 a1_0 bt125.2).bind fun bt127 => (if bt127.2 = 0 then (some (bt127.1, bt125.1, 0)) else (some (0, 0, 16))))
set_option maxHeartbeats 8000000 in
set_option maxRecDepth 100000 in
theorem wide_Add.calls (a0_0 : Int) (a0_1 : Int) (a1_0 : Int) (a1_1 : Int) (r1 : Int) (r2 : Int) (r3 : Int) (w : World) (h : wide_Add.f a0_0 a0_1 a1_0 a1_1 = some (r1, r2, r3)) :
  Calls Try.prog 72 #[.agg #[.int .u64 a0_0, .int .u64 a0_1], .agg #[.int .u64 a1_0, .int .u64 a1_1]] w fun e w' => e = .returned (.tuple #[.agg #[.int .u64 r1, .int .u64 r2], .int .i64 r3]) ∧ Below w.heap.size w w' := by
 have hu97 := Try.underlying97
 have HB := Aside0.mk (Below.refl w.heap.size w)
 have H : ((bits_Add64.f a0_1 a1_1 0).bind fun bt125 => ((bits_Add64.f a0_0 a1_0 bt125.2).bind fun bt127 => (if bt127.2 = 0 then (some (bt127.1, bt125.1, 0)) else (some (0, 0, 16))))) = some (r1, r2, r3) := h
 clear h
 have H0_ := bo_ H; clear H; obtain ⟨⟨t125, t126⟩, A3, H⟩ := H0_
 replace H : ((bits_Add64.f a0_0 a1_0 t126).bind fun bt127 => (if bt127.2 = 0 then (some (bt127.1, t125, 0)) else (some (0, 0, 16)))) = some (r1, r2, r3) := H
 have H0_ := bo_ H; clear H; obtain ⟨⟨t127, t128⟩, A4, H⟩ := H0_
 replace H : (if t128 = 0 then (some (t127, t125, 0)) else (some (0, 0, 16))) = some (r1, r2, r3) := H
 by_cases c5 : t128 = 0
 ·rw [if_pos c5] at H
  have c5b0 : (t128 == 0) = true := beq_iff_eq.mpr c5
  have c5b1 : (t128 != 0) = false := bne_eq_false_iff_eq.mpr c5
  clear c5
  simp only [Option.some.injEq, Prod.mk.injEq] at H
  obtain ⟨rfl, rfl, rfl⟩ := H
  go_enter Try.func72, Try.ntmps72
  go_wp2_with (first | ((with_reducible refine gate_dst (N := 2) rfl ?_); refine bx_ #[.int .u64 a0_0, .int .u64 a0_1] 97 ?_; intro gb122 hg w6 BK122 hb; have GW122 := bz_ w hg; have GE122 := GW122; replace HB := bs_ w hb; clear hb hg) | ((with_reducible refine gate_dst (N := 3) rfl ?_); refine bx_ #[.int .u64 a1_0, .int .u64 a1_1] 97 ?_; intro gb123 hg w7 BK123 hb; have GW123 := bz_ w hg; have GE123 := GW123; have NB122_123 := bn_ BK122 hg; have NB123_122 := bm_ BK122 hg; replace BK122 := bb_ BK122 hb; replace HB := bs_ w hb; clear hb hg) | ((with_reducible refine gate_dst (N := 4) rfl ?_); refine bx_ #[.int .u64 0, .int .u64 0] 97 ?_; intro gb124 hg w8 BK124 hb; have GW124 := bz_ w hg; have GE124 := GW124; have NB122_124 := bn_ BK122 hg; have NB124_122 := bm_ BK122 hg; have NB123_124 := bn_ BK123 hg; have NB124_123 := bm_ BK123 hg; replace BK122 := bb_ BK122 hb; replace BK123 := bb_ BK123 hb; replace HB := bs_ w hb; clear hb hg; replace hn122_123 := NB122_123.out; replace hn123_122 := NB123_122.out; replace hn122_124 := NB122_124.out; replace hn124_122 := NB124_122.out; replace hc122 := ce2_ BK122; replace hn123_124 := NB123_124.out; replace hn124_123 := NB124_123.out; replace hc123 := ce2_ BK123) | ((with_reducible refine gate_callee (f := 82) rfl ?_); refine goesXL_ (some 15) rfl rfl #[.int .u64 a0_1, .int .u64 a1_1, .int .u64 0] rfl (by (try simp only [List.map_toArray, List.map_cons, List.map_nil]); first | done | rfl | (simp only [List.length_drop, List.length_take]; rfl)) ?_; (with_reducible refine (bits_Add64.calls a0_1 a1_1 0 t125 t126 _ A3.out).mono ?_); rintro e w' ⟨rfl, ⟨nd, rfl⟩⟩; refine ⟨_, rfl, ?_⟩; (try ((first | generalize hq_ : World.drewN w8 _ = w8 | (rw [drewN_self w8]; generalize hq_ : World.drewN w8 _ = w8)); replace BK122 : Aside0 (w8.heap[gb122]? = some (.cells #[.int .u64 a0_0, .int .u64 a0_1] 97 (0, 0))) := ⟨by rw [← hq_]; exact (bq_ BK122)⟩; replace BK123 : Aside0 (w8.heap[gb123]? = some (.cells #[.int .u64 a1_0, .int .u64 a1_1] 97 (0, 0))) := ⟨by rw [← hq_]; exact (bq_ BK123)⟩; replace BK124 : Aside0 (w8.heap[gb124]? = some (.cells #[.int .u64 0, .int .u64 0] 97 (0, 0))) := ⟨by rw [← hq_]; exact (bq_ BK124)⟩; replace HB : Aside0 (Below w.heap.size w w8) := ⟨by rw [← hq_]; exact bh_⟩; clear hq_)); replace hc122 := ce2_ BK122; replace hc123 := ce2_ BK123) | ((with_reducible refine gate_callee (f := 82) rfl ?_); refine goesXL_ (some 24) rfl rfl #[.int .u64 a0_0, .int .u64 a1_0, .int .u64 t126] rfl (by (try simp only [List.map_toArray, List.map_cons, List.map_nil]); first | done | rfl | (simp only [List.length_drop, List.length_take]; rfl)) ?_; (with_reducible refine (bits_Add64.calls a0_0 a1_0 t126 t127 t128 _ A4.out).mono ?_); rintro e w' ⟨rfl, ⟨nd, rfl⟩⟩; refine ⟨_, rfl, ?_⟩; (try ((first | generalize hq_ : World.drewN w8 _ = w8 | (rw [drewN_self w8]; generalize hq_ : World.drewN w8 _ = w8)); replace BK122 : Aside0 (w8.heap[gb122]? = some (.cells #[.int .u64 a0_0, .int .u64 a0_1] 97 (0, 0))) := ⟨by rw [← hq_]; exact (bq_ BK122)⟩; replace BK123 : Aside0 (w8.heap[gb123]? = some (.cells #[.int .u64 a1_0, .int .u64 a1_1] 97 (0, 0))) := ⟨by rw [← hq_]; exact (bq_ BK123)⟩; replace BK124 : Aside0 (w8.heap[gb124]? = some (.cells #[.int .u64 0, .int .u64 0] 97 (0, 0))) := ⟨by rw [← hq_]; exact (bq_ BK124)⟩; replace HB : Aside0 (Below w.heap.size w w8) := ⟨by rw [← hq_]; exact bh_⟩; clear hq_)); replace hc124 := ce2_ BK124))
  refine bodyPost_ret (results_ct rfl _ _ gb124 97 #[.int .u64 t127, .int .u64 t125] (0, 0) _ rfl (bp2_ (bq_ BK124)) Try.underlying97 rfl (by kernel_rfl)) rfl ?_
  exact fi_
 ·rw [if_neg c5] at H
  have c5b0 : (t128 == 0) = false := beq_eq_false_iff_ne.mpr c5
  have c5b1 : (t128 != 0) = true := bne_iff_ne.mpr c5
  simp only [Option.some.injEq, Prod.mk.injEq] at H
  obtain ⟨rfl, rfl, rfl⟩ := H
  go_enter Try.func72, Try.ntmps72
  go_wp2_with (first | ((with_reducible refine gate_dst (N := 2) rfl ?_); refine bx_ #[.int .u64 a0_0, .int .u64 a0_1] 97 ?_; intro gb122 hg w17 BK122 hb; have GW122 := bz_ w hg; have GE122 := GW122; replace HB := bs_ w hb; clear hb hg) | ((with_reducible refine gate_dst (N := 3) rfl ?_); refine bx_ #[.int .u64 a1_0, .int .u64 a1_1] 97 ?_; intro gb123 hg w18 BK123 hb; have GW123 := bz_ w hg; have GE123 := GW123; have NB122_123 := bn_ BK122 hg; have NB123_122 := bm_ BK122 hg; replace BK122 := bb_ BK122 hb; replace HB := bs_ w hb; clear hb hg) | ((with_reducible refine gate_dst (N := 4) rfl ?_); refine bx_ #[.int .u64 0, .int .u64 0] 97 ?_; intro gb124 hg w19 BK124 hb; have GW124 := bz_ w hg; have GE124 := GW124; have NB122_124 := bn_ BK122 hg; have NB124_122 := bm_ BK122 hg; have NB123_124 := bn_ BK123 hg; have NB124_123 := bm_ BK123 hg; replace BK122 := bb_ BK122 hb; replace BK123 := bb_ BK123 hb; replace HB := bs_ w hb; clear hb hg; replace hn122_123 := NB122_123.out; replace hn123_122 := NB123_122.out; replace hn122_124 := NB122_124.out; replace hn124_122 := NB124_122.out; replace hc122 := ce2_ BK122; replace hn123_124 := NB123_124.out; replace hn124_123 := NB124_123.out; replace hc123 := ce2_ BK123) | ((with_reducible refine gate_callee (f := 82) rfl ?_); refine goesXL_ (some 15) rfl rfl #[.int .u64 a0_1, .int .u64 a1_1, .int .u64 0] rfl (by (try simp only [List.map_toArray, List.map_cons, List.map_nil]); first | done | rfl | (simp only [List.length_drop, List.length_take]; rfl)) ?_; (with_reducible refine (bits_Add64.calls a0_1 a1_1 0 t125 t126 _ A3.out).mono ?_); rintro e w' ⟨rfl, ⟨nd, rfl⟩⟩; refine ⟨_, rfl, ?_⟩; (try ((first | generalize hq_ : World.drewN w19 _ = w19 | (rw [drewN_self w19]; generalize hq_ : World.drewN w19 _ = w19)); replace BK122 : Aside0 (w19.heap[gb122]? = some (.cells #[.int .u64 a0_0, .int .u64 a0_1] 97 (0, 0))) := ⟨by rw [← hq_]; exact (bq_ BK122)⟩; replace BK123 : Aside0 (w19.heap[gb123]? = some (.cells #[.int .u64 a1_0, .int .u64 a1_1] 97 (0, 0))) := ⟨by rw [← hq_]; exact (bq_ BK123)⟩; replace BK124 : Aside0 (w19.heap[gb124]? = some (.cells #[.int .u64 0, .int .u64 0] 97 (0, 0))) := ⟨by rw [← hq_]; exact (bq_ BK124)⟩; replace HB : Aside0 (Below w.heap.size w w19) := ⟨by rw [← hq_]; exact bh_⟩; clear hq_)); replace hc122 := ce2_ BK122; replace hc123 := ce2_ BK123) | ((with_reducible refine gate_callee (f := 82) rfl ?_); refine goesXL_ (some 24) rfl rfl #[.int .u64 a0_0, .int .u64 a1_0, .int .u64 t126] rfl (by (try simp only [List.map_toArray, List.map_cons, List.map_nil]); first | done | rfl | (simp only [List.length_drop, List.length_take]; rfl)) ?_; (with_reducible refine (bits_Add64.calls a0_0 a1_0 t126 t127 t128 _ A4.out).mono ?_); rintro e w' ⟨rfl, ⟨nd, rfl⟩⟩; refine ⟨_, rfl, ?_⟩; (try ((first | generalize hq_ : World.drewN w19 _ = w19 | (rw [drewN_self w19]; generalize hq_ : World.drewN w19 _ = w19)); replace BK122 : Aside0 (w19.heap[gb122]? = some (.cells #[.int .u64 a0_0, .int .u64 a0_1] 97 (0, 0))) := ⟨by rw [← hq_]; exact (bq_ BK122)⟩; replace BK123 : Aside0 (w19.heap[gb123]? = some (.cells #[.int .u64 a1_0, .int .u64 a1_1] 97 (0, 0))) := ⟨by rw [← hq_]; exact (bq_ BK123)⟩; replace BK124 : Aside0 (w19.heap[gb124]? = some (.cells #[.int .u64 0, .int .u64 0] 97 (0, 0))) := ⟨by rw [← hq_]; exact (bq_ BK124)⟩; replace HB : Aside0 (Below w.heap.size w w19) := ⟨by rw [← hq_]; exact bh_⟩; clear hq_)); replace hc124 := ce2_ BK124))
  refine bodyPost_ret (results_ct rfl _ _ gb124 97 #[.int .u64 0, .int .u64 0] (0, 0) _ rfl (bp2_ (bq_ BK124)) Try.underlying97 rfl (by kernel_rfl)) rfl ?_
  exact fi_

end Go.Proofs.Ytfdpcnkghmmobaa.X
