-- written by xprint.py, a program of this session over the kit's print
import Derived.Test.YtiifhbaabnpkeaaX0
namespace Go.Proofs.Ytiifhbaabnpkeaa.X
open Go.RowKit Go.Proofs.YtiifhbaabnpkeaaW.PrintWords Go.Proofs.YtiifhbaabnpkeaaW.PrintLast Go.Proofs.YtiifhbaabnpkeaaW.PrintMore
attribute [local go_sem] max2_int min2_int max_two min_two max_three min_three max_four min_four   -- for this text's walks alone
set_option linter.unusedVariables false
set_option linter.unusedSimpArgs false

/-! ### bits_Mul64: function 36 -/
def bits_Mul64.f (a0 : Int) (a1 : Int) : Option (Int × Int) := some (IntKind.u64.wrap ((IntKind.u64.wrap ((IntKind.u64.wrap ((a0 / 4294967296) * (a1 / 4294967296))) + ((IntKind.u64.wrap ((IntKind.u64.wrap ((a0 / 4294967296) * (Go.bits .and .u64 a1 4294967295))) + ((IntKind.u64.wrap ((Go.bits .and .u64 a0 4294967295) * (Go.bits .and .u64 a1 4294967295))) / 4294967296))) / 4294967296))) + ((IntKind.u64.wrap ((Go.bits .and .u64 (IntKind.u64.wrap ((IntKind.u64.wrap ((a0 / 4294967296) * (Go.bits .and .u64 a1 4294967295))) + ((IntKind.u64.wrap ((Go.bits .and .u64 a0 4294967295) * (Go.bits .and .u64 a1 4294967295))) / 4294967296))) 4294967295) + (IntKind.u64.wrap ((Go.bits .and .u64 a0 4294967295) * (a1 / 4294967296))))) / 4294967296)), IntKind.u64.wrap (a0 * a1))
set_option maxHeartbeats 8000000 in
set_option maxRecDepth 100000 in
theorem bits_Mul64.calls (a0 : Int) (a1 : Int) (r1 : Int) (r2 : Int) (w : World) (h : bits_Mul64.f a0 a1 = some (r1, r2)) :
  Calls Try.prog 36 #[.int .u64 a0, .int .u64 a1] w fun e w' => e = .returned (.tuple #[.int .u64 r1, .int .u64 r2]) ∧ Drawn0 w w' := by
 have H : (some (IntKind.u64.wrap ((IntKind.u64.wrap ((IntKind.u64.wrap ((a0 / 4294967296) * (a1 / 4294967296))) + ((IntKind.u64.wrap ((IntKind.u64.wrap ((a0 / 4294967296) * (Go.bits .and .u64 a1 4294967295))) + ((IntKind.u64.wrap ((Go.bits .and .u64 a0 4294967295) * (Go.bits .and .u64 a1 4294967295))) / 4294967296))) / 4294967296))) + ((IntKind.u64.wrap ((Go.bits .and .u64 (IntKind.u64.wrap ((IntKind.u64.wrap ((a0 / 4294967296) * (Go.bits .and .u64 a1 4294967295))) + ((IntKind.u64.wrap ((Go.bits .and .u64 a0 4294967295) * (Go.bits .and .u64 a1 4294967295))) / 4294967296))) 4294967295) + (IntKind.u64.wrap ((Go.bits .and .u64 a0 4294967295) * (a1 / 4294967296))))) / 4294967296)), IntKind.u64.wrap (a0 * a1))) = some (r1, r2) := h
 clear h
 simp only [Option.some.injEq, Prod.mk.injEq] at H
 obtain ⟨rfl, rfl⟩ := H
 go_enter Try.func36, Try.ntmps36
 go_wp2
 go_ret2
 exact ⟨by first | rfl | (simp; done) | (simp [*]; done), by repeat (first | exact Drawn0.refl _ | apply Drawn0.step)⟩

/-! ### wide_Mul: function 21 -/
def wide_Mul.f (a0 : Int) (a1 : Int) : Option (Int × Int) := (bits_Mul64.f a0 a1).bind fun bt121 => (some (bt121.1, bt121.2))
set_option maxHeartbeats 8000000 in
set_option maxRecDepth 100000 in
theorem wide_Mul.calls (a0 : Int) (a1 : Int) (r1 : Int) (r2 : Int) (w : World) (h : wide_Mul.f a0 a1 = some (r1, r2)) :
  Calls Try.prog 21 #[.int .u64 a0, .int .u64 a1] w fun e w' => e = .returned (.agg #[.int .u64 r1, .int .u64 r2]) ∧ Below w.heap.size w w' := by
 have hu59 := Try.underlying59
 have HB := Aside0.mk (Below.refl w.heap.size w)
 have H : ((bits_Mul64.f a0 a1).bind fun bt121 => (some (bt121.1, bt121.2))) = some (r1, r2) := h
 clear h
 have H0_ := bo_ H; clear H; obtain ⟨⟨t121, t122⟩, A3, H⟩ := H0_
 replace H : (some (t121, t122)) = some (r1, r2) := H
 simp only [Option.some.injEq, Prod.mk.injEq] at H
 obtain ⟨rfl, rfl⟩ := H
 go_enter Try.func21, Try.ntmps21
 go_wp2_with (first | ((with_reducible refine gate_dst (N := 4) rfl ?_); refine bx_ #[.int .u64 0, .int .u64 0] 59 ?_; intro gb120 hg w4 BK120 hb; have GW120 := bz_ w hg; replace HB := bs_ w hb; clear hb hg) | ((with_reducible refine gate_callee (f := 36) rfl ?_); refine goesA_ (some 10) Try.func36 #[.int .u64 a0, .int .u64 a1] ?_; (with_reducible refine (bits_Mul64.calls a0 a1 t121 t122 _ A3.out).mono ?_); rintro e w' ⟨rfl, ⟨nd, rfl⟩⟩; refine ⟨_, rfl, ?_⟩; (try ((first | generalize hq_ : World.drewN w4 _ = w4 | (rw [drewN_self w4]; generalize hq_ : World.drewN w4 _ = w4)); replace BK120 : Aside0 (w4.heap[gb120]? = some (.cells #[.int .u64 0, .int .u64 0] 59 (0, 0))) := ⟨by rw [← hq_]; exact (bq_ BK120)⟩; replace HB : Aside0 (Below w.heap.size w w4) := ⟨by rw [← hq_]; exact bh_⟩; clear hq_)); replace hc120 := ce2_ BK120))
 refine bodyPost_ret (results_cell_row rfl _ _ gb120 59 #[.int .u64 t121, .int .u64 t122] (0, 0) _ rfl (bp2_ (bq_ BK120)) Try.underlying59 rfl (by kernel_rfl)) rfl ?_
 exact fi_

/-! ### bits_Add64: function 37 -/
def bits_Add64.f (a0 : Int) (a1 : Int) (a2 : Int) : Option (Int × Int) := if 0 ≤ a0 ∧ 0 ≤ a1 ∧ 0 ≤ a2 ∧ a2 ≤ 1 then some ((a0 + a1 + a2) % 18446744073709551616, (a0 + a1 + a2) / 18446744073709551616) else none
theorem bits_Add64.calls (a0 : Int) (a1 : Int) (a2 : Int) (r1 : Int) (r2 : Int) (w : World) (h : bits_Add64.f a0 a1 a2 = some (r1, r2)) :
    CallsX Try.prog 37 #[.int .u64 a0, .int .u64 a1, .int .u64 a2] w fun e w' => e = .returned (.tuple #[.int .u64 r1, .int .u64 r2]) ∧ Drawn0 w w' := by
  unfold bits_Add64.f at h
  split at h
  case isFalse => cases h
  rename_i hu
  obtain ⟨h0, h1, h2, h3⟩ := hu
  simp only [Option.some.injEq, Prod.mk.injEq] at h
  obtain ⟨rfl, rfl⟩ := h
  refine ⟨_, w, ?_, rfl, Drawn0.refl _⟩
  rw [run_callFunc_extern Try.func37 (by kernel_rfl) (by kernel_rfl) (by kernel_rfl) (e := add64Entry) (by kernel_rfl), run_add64 a0 a1 a2 h0 h1 h2 h3]
  rfl

/-! ### wide_Add: function 22 -/
def wide_Add.f (a0_0 : Int) (a0_1 : Int) (a1_0 : Int) (a1_1 : Int) : Option (Int × Int × Int) := (bits_Add64.f a0_1 a1_1 0).bind fun bt126 => ((bits_Add64.f a0_0 a1_0 bt126.2).bind fun bt128 => (if bt128.2 = 0 then (some (bt128.1, bt126.1, 0)) else (some (0, 0, 16))))
set_option maxHeartbeats 8000000 in
set_option maxRecDepth 100000 in
theorem wide_Add.calls (a0_0 : Int) (a0_1 : Int) (a1_0 : Int) (a1_1 : Int) (r1 : Int) (r2 : Int) (r3 : Int) (w : World) (h : wide_Add.f a0_0 a0_1 a1_0 a1_1 = some (r1, r2, r3)) :
  Calls Try.prog 22 #[.agg #[.int .u64 a0_0, .int .u64 a0_1], .agg #[.int .u64 a1_0, .int .u64 a1_1]] w fun e w' => e = .returned (.tuple #[.agg #[.int .u64 r1, .int .u64 r2], .int .i64 r3]) ∧ Below w.heap.size w w' := by
 have hu59 := Try.underlying59
 have HB := Aside0.mk (Below.refl w.heap.size w)
 have H : ((bits_Add64.f a0_1 a1_1 0).bind fun bt126 => ((bits_Add64.f a0_0 a1_0 bt126.2).bind fun bt128 => (if bt128.2 = 0 then (some (bt128.1, bt126.1, 0)) else (some (0, 0, 16))))) = some (r1, r2, r3) := h
 clear h
 have H0_ := bo_ H; clear H; obtain ⟨⟨t126, t127⟩, A3, H⟩ := H0_
 replace H : ((bits_Add64.f a0_0 a1_0 t127).bind fun bt128 => (if bt128.2 = 0 then (some (bt128.1, t126, 0)) else (some (0, 0, 16)))) = some (r1, r2, r3) := H
 have H0_ := bo_ H; clear H; obtain ⟨⟨t128, t129⟩, A4, H⟩ := H0_
 replace H : (if t129 = 0 then (some (t128, t126, 0)) else (some (0, 0, 16))) = some (r1, r2, r3) := H
 by_cases c5 : t129 = 0
 ·rw [if_pos c5] at H
  have c5b0 : (t129 == 0) = true := beq_iff_eq.mpr c5
  have c5b1 : (t129 != 0) = false := bne_eq_false_iff_eq.mpr c5
  clear c5
  simp only [Option.some.injEq, Prod.mk.injEq] at H
  obtain ⟨rfl, rfl, rfl⟩ := H
  go_enter Try.func22, Try.ntmps22
  go_wp2_with (first | ((with_reducible refine gate_dst (N := 2) rfl ?_); refine bx_ #[.int .u64 a0_0, .int .u64 a0_1] 59 ?_; intro gb123 hg w6 BK123 hb; have GW123 := bz_ w hg; have GE123 := GW123; replace HB := bs_ w hb; clear hb hg) | ((with_reducible refine gate_dst (N := 3) rfl ?_); refine bx_ #[.int .u64 a1_0, .int .u64 a1_1] 59 ?_; intro gb124 hg w7 BK124 hb; have GW124 := bz_ w hg; have GE124 := GW124; have NB123_124 := bn_ BK123 hg; have NB124_123 := bm_ BK123 hg; replace BK123 := bb_ BK123 hb; replace HB := bs_ w hb; clear hb hg) | ((with_reducible refine gate_dst (N := 4) rfl ?_); refine bx_ #[.int .u64 0, .int .u64 0] 59 ?_; intro gb125 hg w8 BK125 hb; have GW125 := bz_ w hg; have GE125 := GW125; have NB123_125 := bn_ BK123 hg; have NB125_123 := bm_ BK123 hg; have NB124_125 := bn_ BK124 hg; have NB125_124 := bm_ BK124 hg; replace BK123 := bb_ BK123 hb; replace BK124 := bb_ BK124 hb; replace HB := bs_ w hb; clear hb hg; replace hn123_124 := NB123_124.out; replace hn124_123 := NB124_123.out; replace hn123_125 := NB123_125.out; replace hn125_123 := NB125_123.out; replace hc123 := ce2_ BK123; replace hn124_125 := NB124_125.out; replace hn125_124 := NB125_124.out; replace hc124 := ce2_ BK124) | ((with_reducible refine gate_callee (f := 37) rfl ?_); refine goesXL_ (some 15) rfl rfl #[.int .u64 a0_1, .int .u64 a1_1, .int .u64 0] rfl (by (try simp only [List.map_toArray, List.map_cons, List.map_nil]); first | done | rfl | (simp only [List.length_drop, List.length_take]; rfl)) ?_; (with_reducible refine (bits_Add64.calls a0_1 a1_1 0 t126 t127 _ A3.out).mono ?_); rintro e w' ⟨rfl, ⟨nd, rfl⟩⟩; refine ⟨_, rfl, ?_⟩; (try ((first | generalize hq_ : World.drewN w8 _ = w8 | (rw [drewN_self w8]; generalize hq_ : World.drewN w8 _ = w8)); replace BK123 : Aside0 (w8.heap[gb123]? = some (.cells #[.int .u64 a0_0, .int .u64 a0_1] 59 (0, 0))) := ⟨by rw [← hq_]; exact (bq_ BK123)⟩; replace BK124 : Aside0 (w8.heap[gb124]? = some (.cells #[.int .u64 a1_0, .int .u64 a1_1] 59 (0, 0))) := ⟨by rw [← hq_]; exact (bq_ BK124)⟩; replace BK125 : Aside0 (w8.heap[gb125]? = some (.cells #[.int .u64 0, .int .u64 0] 59 (0, 0))) := ⟨by rw [← hq_]; exact (bq_ BK125)⟩; replace HB : Aside0 (Below w.heap.size w w8) := ⟨by rw [← hq_]; exact bh_⟩; clear hq_)); replace hc123 := ce2_ BK123; replace hc124 := ce2_ BK124) | ((with_reducible refine gate_callee (f := 37) rfl ?_); refine goesXL_ (some 24) rfl rfl #[.int .u64 a0_0, .int .u64 a1_0, .int .u64 t127] rfl (by (try simp only [List.map_toArray, List.map_cons, List.map_nil]); first | done | rfl | (simp only [List.length_drop, List.length_take]; rfl)) ?_; (with_reducible refine (bits_Add64.calls a0_0 a1_0 t127 t128 t129 _ A4.out).mono ?_); rintro e w' ⟨rfl, ⟨nd, rfl⟩⟩; refine ⟨_, rfl, ?_⟩; (try ((first | generalize hq_ : World.drewN w8 _ = w8 | (rw [drewN_self w8]; generalize hq_ : World.drewN w8 _ = w8)); replace BK123 : Aside0 (w8.heap[gb123]? = some (.cells #[.int .u64 a0_0, .int .u64 a0_1] 59 (0, 0))) := ⟨by rw [← hq_]; exact (bq_ BK123)⟩; replace BK124 : Aside0 (w8.heap[gb124]? = some (.cells #[.int .u64 a1_0, .int .u64 a1_1] 59 (0, 0))) := ⟨by rw [← hq_]; exact (bq_ BK124)⟩; replace BK125 : Aside0 (w8.heap[gb125]? = some (.cells #[.int .u64 0, .int .u64 0] 59 (0, 0))) := ⟨by rw [← hq_]; exact (bq_ BK125)⟩; replace HB : Aside0 (Below w.heap.size w w8) := ⟨by rw [← hq_]; exact bh_⟩; clear hq_)); replace hc125 := ce2_ BK125))
  refine bodyPost_ret (results_ct rfl _ _ gb125 59 #[.int .u64 t128, .int .u64 t126] (0, 0) _ rfl (bp2_ (bq_ BK125)) Try.underlying59 rfl (by kernel_rfl)) rfl ?_
  exact fi_
 ·rw [if_neg c5] at H
  have c5b0 : (t129 == 0) = false := beq_eq_false_iff_ne.mpr c5
  have c5b1 : (t129 != 0) = true := bne_iff_ne.mpr c5
  simp only [Option.some.injEq, Prod.mk.injEq] at H
  obtain ⟨rfl, rfl, rfl⟩ := H
  go_enter Try.func22, Try.ntmps22
  go_wp2_with (first | ((with_reducible refine gate_dst (N := 2) rfl ?_); refine bx_ #[.int .u64 a0_0, .int .u64 a0_1] 59 ?_; intro gb123 hg w17 BK123 hb; have GW123 := bz_ w hg; have GE123 := GW123; replace HB := bs_ w hb; clear hb hg) | ((with_reducible refine gate_dst (N := 3) rfl ?_); refine bx_ #[.int .u64 a1_0, .int .u64 a1_1] 59 ?_; intro gb124 hg w18 BK124 hb; have GW124 := bz_ w hg; have GE124 := GW124; have NB123_124 := bn_ BK123 hg; have NB124_123 := bm_ BK123 hg; replace BK123 := bb_ BK123 hb; replace HB := bs_ w hb; clear hb hg) | ((with_reducible refine gate_dst (N := 4) rfl ?_); refine bx_ #[.int .u64 0, .int .u64 0] 59 ?_; intro gb125 hg w19 BK125 hb; have GW125 := bz_ w hg; have GE125 := GW125; have NB123_125 := bn_ BK123 hg; have NB125_123 := bm_ BK123 hg; have NB124_125 := bn_ BK124 hg; have NB125_124 := bm_ BK124 hg; replace BK123 := bb_ BK123 hb; replace BK124 := bb_ BK124 hb; replace HB := bs_ w hb; clear hb hg; replace hn123_124 := NB123_124.out; replace hn124_123 := NB124_123.out; replace hn123_125 := NB123_125.out; replace hn125_123 := NB125_123.out; replace hc123 := ce2_ BK123; replace hn124_125 := NB124_125.out; replace hn125_124 := NB125_124.out; replace hc124 := ce2_ BK124) | ((with_reducible refine gate_callee (f := 37) rfl ?_); refine goesXL_ (some 15) rfl rfl #[.int .u64 a0_1, .int .u64 a1_1, .int .u64 0] rfl (by (try simp only [List.map_toArray, List.map_cons, List.map_nil]); first | done | rfl | (simp only [List.length_drop, List.length_take]; rfl)) ?_; (with_reducible refine (bits_Add64.calls a0_1 a1_1 0 t126 t127 _ A3.out).mono ?_); rintro e w' ⟨rfl, ⟨nd, rfl⟩⟩; refine ⟨_, rfl, ?_⟩; (try ((first | generalize hq_ : World.drewN w19 _ = w19 | (rw [drewN_self w19]; generalize hq_ : World.drewN w19 _ = w19)); replace BK123 : Aside0 (w19.heap[gb123]? = some (.cells #[.int .u64 a0_0, .int .u64 a0_1] 59 (0, 0))) := ⟨by rw [← hq_]; exact (bq_ BK123)⟩; replace BK124 : Aside0 (w19.heap[gb124]? = some (.cells #[.int .u64 a1_0, .int .u64 a1_1] 59 (0, 0))) := ⟨by rw [← hq_]; exact (bq_ BK124)⟩; replace BK125 : Aside0 (w19.heap[gb125]? = some (.cells #[.int .u64 0, .int .u64 0] 59 (0, 0))) := ⟨by rw [← hq_]; exact (bq_ BK125)⟩; replace HB : Aside0 (Below w.heap.size w w19) := ⟨by rw [← hq_]; exact bh_⟩; clear hq_)); replace hc123 := ce2_ BK123; replace hc124 := ce2_ BK124) | ((with_reducible refine gate_callee (f := 37) rfl ?_); refine goesXL_ (some 24) rfl rfl #[.int .u64 a0_0, .int .u64 a1_0, .int .u64 t127] rfl (by (try simp only [List.map_toArray, List.map_cons, List.map_nil]); first | done | rfl | (simp only [List.length_drop, List.length_take]; rfl)) ?_; (with_reducible refine (bits_Add64.calls a0_0 a1_0 t127 t128 t129 _ A4.out).mono ?_); rintro e w' ⟨rfl, ⟨nd, rfl⟩⟩; refine ⟨_, rfl, ?_⟩; (try ((first | generalize hq_ : World.drewN w19 _ = w19 | (rw [drewN_self w19]; generalize hq_ : World.drewN w19 _ = w19)); replace BK123 : Aside0 (w19.heap[gb123]? = some (.cells #[.int .u64 a0_0, .int .u64 a0_1] 59 (0, 0))) := ⟨by rw [← hq_]; exact (bq_ BK123)⟩; replace BK124 : Aside0 (w19.heap[gb124]? = some (.cells #[.int .u64 a1_0, .int .u64 a1_1] 59 (0, 0))) := ⟨by rw [← hq_]; exact (bq_ BK124)⟩; replace BK125 : Aside0 (w19.heap[gb125]? = some (.cells #[.int .u64 0, .int .u64 0] 59 (0, 0))) := ⟨by rw [← hq_]; exact (bq_ BK125)⟩; replace HB : Aside0 (Below w.heap.size w w19) := ⟨by rw [← hq_]; exact bh_⟩; clear hq_)); replace hc125 := ce2_ BK125))
  refine bodyPost_ret (results_ct rfl _ _ gb125 59 #[.int .u64 0, .int .u64 0] (0, 0) _ rfl (bp2_ (bq_ BK125)) Try.underlying59 rfl (by kernel_rfl)) rfl ?_
  exact fi_

/-! ### wide_Of: function 23 -/
def wide_Of.f (a0 : Int) : Option (Int × Int) := some (0, a0)
set_option maxHeartbeats 8000000 in
set_option maxRecDepth 100000 in
theorem wide_Of.calls (a0 : Int) (r1 : Int) (r2 : Int) (w : World) (h : wide_Of.f a0 = some (r1, r2)) :
  Calls Try.prog 23 #[.int .u64 a0] w fun e w' => e = .returned (.agg #[.int .u64 r1, .int .u64 r2]) ∧ Below w.heap.size w w' := by
 have hu59 := Try.underlying59
 have HB := Aside0.mk (Below.refl w.heap.size w)
 have H : (some (0, a0)) = some (r1, r2) := h
 clear h
 simp only [Option.some.injEq, Prod.mk.injEq] at H
 obtain ⟨rfl, rfl⟩ := H
 go_enter Try.func23, Try.ntmps23
 go_wp2_with (first | ((with_reducible refine gate_dst (N := 2) rfl ?_); refine bx_ #[.int .u64 0, .int .u64 0] 59 ?_; intro gb130 hg w2 BK130 hb; have GW130 := bz_ w hg; replace HB := bs_ w hb; clear hb hg; replace hc130 := ce2_ BK130))
 refine bodyPost_ret (results_cell_row rfl _ _ gb130 59 #[.int .u64 0, .int .u64 a0] (0, 0) _ rfl (bp2_ (bq_ BK130)) Try.underlying59 rfl (by kernel_rfl)) rfl ?_
 exact fi_

/-! ### wide_Small: function 48 -/
def wide_Small.f (a0_0 : Int) (a0_1 : Int) : Option (Int × Int) := if a0_0 = 0 then (some (a0_1, 0)) else (some (0, 16))
set_option maxHeartbeats 8000000 in
set_option maxRecDepth 100000 in
theorem wide_Small.calls (a0_0 : Int) (a0_1 : Int) (r1 : Int) (r2 : Int) (w : World) (h : wide_Small.f a0_0 a0_1 = some (r1, r2)) :
  Calls Try.prog 48 #[.agg #[.int .u64 a0_0, .int .u64 a0_1]] w fun e w' => e = .returned (.tuple #[.int .u64 r1, .int .i64 r2]) ∧ Below w.heap.size w w' := by
 have hu59 := Try.underlying59
 have HB := Aside0.mk (Below.refl w.heap.size w)
 have H : (if a0_0 = 0 then (some (a0_1, 0)) else (some (0, 16))) = some (r1, r2) := h
 clear h
 by_cases c2 : a0_0 = 0
 ·rw [if_pos c2] at H
  have c2b0 : (a0_0 == 0) = true := beq_iff_eq.mpr c2
  have c2b1 : (a0_0 != 0) = false := bne_eq_false_iff_eq.mpr c2
  clear c2
  simp only [Option.some.injEq, Prod.mk.injEq] at H
  obtain ⟨rfl, rfl⟩ := H
  go_enter Try.func48, Try.ntmps48
  go_wp2_with (first | ((with_reducible refine gate_dst (N := 1) rfl ?_); refine bx_ #[.int .u64 a0_0, .int .u64 a0_1] 59 ?_; intro gb131 hg w3 BK131 hb; have GW131 := bz_ w hg; have GE131 := GW131; replace HB := bs_ w hb; clear hb hg; replace hc131 := ce2_ BK131))
  go_ret2
  exact fi_
 ·rw [if_neg c2] at H
  have c2b0 : (a0_0 == 0) = false := beq_eq_false_iff_ne.mpr c2
  have c2b1 : (a0_0 != 0) = true := bne_iff_ne.mpr c2
  simp only [Option.some.injEq, Prod.mk.injEq] at H
  obtain ⟨rfl, rfl⟩ := H
  go_enter Try.func48, Try.ntmps48
  go_wp2_with (first | ((with_reducible refine gate_dst (N := 1) rfl ?_); refine bx_ #[.int .u64 a0_0, .int .u64 a0_1] 59 ?_; intro gb131 hg w5 BK131 hb; have GW131 := bz_ w hg; have GE131 := GW131; replace HB := bs_ w hb; clear hb hg; replace hc131 := ce2_ BK131))
  go_ret2
  exact fi_

end Go.Proofs.Ytiifhbaabnpkeaa.X
