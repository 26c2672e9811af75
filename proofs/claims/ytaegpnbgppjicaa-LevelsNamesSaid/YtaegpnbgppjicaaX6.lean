-- written by xprint.py, a program of this session over the kit's print
import Derived.Test.YtaegpnbgppjicaaX0
namespace Go.Proofs.Ytaegpnbgppjicaa.X
open Go.RowKit Go.Proofs.YtaegpnbgppjicaaW.PrintWords Go.Proofs.YtaegpnbgppjicaaW.PrintLast Go.Proofs.YtaegpnbgppjicaaW.PrintMore
attribute [local go_sem] max2_int min2_int max_two min_two max_three min_three max_four min_four   -- for this text's walks alone
set_option linter.unusedVariables false
set_option linter.unusedSimpArgs false

/-! ### bits_Mul64: function 62 -/
def bits_Mul64.f (a0 : Int) (a1 : Int) : Option (Int × Int) := some (IntKind.u64.wrap ((IntKind.u64.wrap ((IntKind.u64.wrap ((a0 / 4294967296) * (a1 / 4294967296))) + ((IntKind.u64.wrap ((IntKind.u64.wrap ((a0 / 4294967296) * (Go.bits .and .u64 a1 4294967295))) + ((IntKind.u64.wrap ((Go.bits .and .u64 a0 4294967295) * (Go.bits .and .u64 a1 4294967295))) / 4294967296))) / 4294967296))) + ((IntKind.u64.wrap ((Go.bits .and .u64 (IntKind.u64.wrap ((IntKind.u64.wrap ((a0 / 4294967296) * (Go.bits .and .u64 a1 4294967295))) + ((IntKind.u64.wrap ((Go.bits .and .u64 a0 4294967295) * (Go.bits .and .u64 a1 4294967295))) / 4294967296))) 4294967295) + (IntKind.u64.wrap ((Go.bits .and .u64 a0 4294967295) * (a1 / 4294967296))))) / 4294967296)), IntKind.u64.wrap (a0 * a1))
set_option maxHeartbeats 8000000 in
set_option maxRecDepth 100000 in
theorem bits_Mul64.calls (a0 : Int) (a1 : Int) (r1 : Int) (r2 : Int) (w : World) (h : bits_Mul64.f a0 a1 = some (r1, r2)) :
  Calls Try.prog 62 #[.int .u64 a0, .int .u64 a1] w fun e w' => e = .returned (.tuple #[.int .u64 r1, .int .u64 r2]) ∧ Drawn0 w w' := by
 have H : (some (IntKind.u64.wrap ((IntKind.u64.wrap ((IntKind.u64.wrap ((a0 / 4294967296) * (a1 / 4294967296))) + ((IntKind.u64.wrap ((IntKind.u64.wrap ((a0 / 4294967296) * (Go.bits .and .u64 a1 4294967295))) + ((IntKind.u64.wrap ((Go.bits .and .u64 a0 4294967295) * (Go.bits .and .u64 a1 4294967295))) / 4294967296))) / 4294967296))) + ((IntKind.u64.wrap ((Go.bits .and .u64 (IntKind.u64.wrap ((IntKind.u64.wrap ((a0 / 4294967296) * (Go.bits .and .u64 a1 4294967295))) + ((IntKind.u64.wrap ((Go.bits .and .u64 a0 4294967295) * (Go.bits .and .u64 a1 4294967295))) / 4294967296))) 4294967295) + (IntKind.u64.wrap ((Go.bits .and .u64 a0 4294967295) * (a1 / 4294967296))))) / 4294967296)), IntKind.u64.wrap (a0 * a1))) = some (r1, r2) := h
 clear h
 simp only [Option.some.injEq, Prod.mk.injEq] at H
 obtain ⟨rfl, rfl⟩ := H
 go_enter Try.func62, Try.ntmps62
 go_wp2
 go_ret2
 exact ⟨by first | rfl | (simp; done) | (simp [*]; done), by repeat (first | exact Drawn0.refl _ | apply Drawn0.step)⟩

/-! ### wide_Mul: function 50 -/
def wide_Mul.f (a0 : Int) (a1 : Int) : Option (Int × Int) := (bits_Mul64.f a0 a1).bind fun bt117 => (some (bt117.1, bt117.2))
set_option maxHeartbeats 8000000 in
set_option maxRecDepth 100000 in
theorem wide_Mul.calls (a0 : Int) (a1 : Int) (r1 : Int) (r2 : Int) (w : World) (h : wide_Mul.f a0 a1 = some (r1, r2)) :
  Calls Try.prog 50 #[.int .u64 a0, .int .u64 a1] w fun e w' => e = .returned (.agg #[.int .u64 r1, .int .u64 r2]) ∧ Below w.heap.size w w' := by
 have hu83 := Try.underlying83
 have HB := Aside0.mk (Below.refl w.heap.size w)
 have H : ((bits_Mul64.f a0 a1).bind fun bt117 => (some (bt117.1, bt117.2))) = some (r1, r2) := h
 clear h
 have H0_ := bo_ H; clear H; obtain ⟨⟨t117, t118⟩, A3, H⟩ := H0_
 replace H : (some (t117, t118)) = some (r1, r2) := H
 simp only [Option.some.injEq, Prod.mk.injEq] at H
 obtain ⟨rfl, rfl⟩ := H
 go_enter Try.func50, Try.ntmps50
 go_wp2_with (first | ((with_reducible refine gate_dst (N := 4) rfl ?_); refine bx_ #[.int .u64 0, .int .u64 0] 83 ?_; intro gb116 hg w4 BK116 hb; have GW116 := bz_ w hg; replace HB := bs_ w hb; clear hb hg) | ((with_reducible refine gate_callee (f := 62) rfl ?_); refine goesA_ (some 10) Try.func62 #[.int .u64 a0, .int .u64 a1] ?_; (with_reducible refine (bits_Mul64.calls a0 a1 t117 t118 _ A3.out).mono ?_); rintro e w' ⟨rfl, ⟨nd, rfl⟩⟩; refine ⟨_, rfl, ?_⟩; (try ((first | generalize hq_ : World.drewN w4 _ = w4 | (rw [drewN_self w4]; generalize hq_ : World.drewN w4 _ = w4)); replace BK116 : Aside0 (w4.heap[gb116]? = some (.cells #[.int .u64 0, .int .u64 0] 83 (0, 0))) := ⟨by rw [← hq_]; exact (bq_ BK116)⟩; replace HB : Aside0 (Below w.heap.size w w4) := ⟨by rw [← hq_]; exact bh_⟩; clear hq_)); replace hc116 := ce2_ BK116))
 refine bodyPost_ret (results_cell_row rfl _ _ gb116 83 #[.int .u64 t117, .int .u64 t118] (0, 0) _ rfl (bp2_ (bq_ BK116)) Try.underlying83 rfl (by kernel_rfl)) rfl ?_
 exact fi_

/-! ### wide_Of: function 51 -/
def wide_Of.f (a0 : Int) : Option (Int × Int) := some (0, a0)
set_option maxHeartbeats 8000000 in
set_option maxRecDepth 100000 in
theorem wide_Of.calls (a0 : Int) (r1 : Int) (r2 : Int) (w : World) (h : wide_Of.f a0 = some (r1, r2)) :
  Calls Try.prog 51 #[.int .u64 a0] w fun e w' => e = .returned (.agg #[.int .u64 r1, .int .u64 r2]) ∧ Below w.heap.size w w' := by
 have hu83 := Try.underlying83
 have HB := Aside0.mk (Below.refl w.heap.size w)
 have H : (some (0, a0)) = some (r1, r2) := h
 clear h
 simp only [Option.some.injEq, Prod.mk.injEq] at H
 obtain ⟨rfl, rfl⟩ := H
 go_enter Try.func51, Try.ntmps51
 go_wp2_with (first | ((with_reducible refine gate_dst (N := 2) rfl ?_); refine bx_ #[.int .u64 0, .int .u64 0] 83 ?_; intro gb119 hg w2 BK119 hb; have GW119 := bz_ w hg; replace HB := bs_ w hb; clear hb hg; replace hc119 := ce2_ BK119))
 refine bodyPost_ret (results_cell_row rfl _ _ gb119 83 #[.int .u64 0, .int .u64 a0] (0, 0) _ rfl (bp2_ (bq_ BK119)) Try.underlying83 rfl (by kernel_rfl)) rfl ?_
 exact fi_

/-! ### wide_Small: function 53 -/
def wide_Small.f (a0_0 : Int) (a0_1 : Int) : Option (Int × Int) := if a0_0 = 0 then (some (a0_1, 0)) else (some (0, 16))
set_option maxHeartbeats 8000000 in
set_option maxRecDepth 100000 in
theorem wide_Small.calls (a0_0 : Int) (a0_1 : Int) (r1 : Int) (r2 : Int) (w : World) (h : wide_Small.f a0_0 a0_1 = some (r1, r2)) :
  Calls Try.prog 53 #[.agg #[.int .u64 a0_0, .int .u64 a0_1]] w fun e w' => e = .returned (.tuple #[.int .u64 r1, .int .i64 r2]) ∧ Below w.heap.size w w' := by
 have hu83 := Try.underlying83
 have HB := Aside0.mk (Below.refl w.heap.size w)
 have H : (if a0_0 = 0 then (some (a0_1, 0)) else (some (0, 16))) = some (r1, r2) := h
 clear h
 by_cases c2 : a0_0 = 0
 ·rw [if_pos c2] at H
  have c2b0 : (a0_0 == 0) = true := beq_iff_eq.mpr c2
  have c2b1 : (a0_0 != 0) = false := bne_eq_false_iff_eq.mpr c2
  clear c2
  simp only [Option.some.injEq, Prod.mk.injEq] at H
  obtain ⟨rfl, rfl⟩ := H
  go_enter Try.func53, Try.ntmps53
  go_wp2_with (first | ((with_reducible refine gate_dst (N := 1) rfl ?_); refine bx_ #[.int .u64 a0_0, .int .u64 a0_1] 83 ?_; intro gb120 hg w3 BK120 hb; have GW120 := bz_ w hg; have GE120 := GW120; replace HB := bs_ w hb; clear hb hg; replace hc120 := ce2_ BK120))
  go_ret2
  exact fi_
 ·rw [if_neg c2] at H
  have c2b0 : (a0_0 == 0) = false := beq_eq_false_iff_ne.mpr c2
  have c2b1 : (a0_0 != 0) = true := bne_iff_ne.mpr c2
  simp only [Option.some.injEq, Prod.mk.injEq] at H
  obtain ⟨rfl, rfl⟩ := H
  go_enter Try.func53, Try.ntmps53
  go_wp2_with (first | ((with_reducible refine gate_dst (N := 1) rfl ?_); refine bx_ #[.int .u64 a0_0, .int .u64 a0_1] 83 ?_; intro gb120 hg w5 BK120 hb; have GW120 := bz_ w hg; have GE120 := GW120; replace HB := bs_ w hb; clear hb hg; replace hc120 := ce2_ BK120))
  go_ret2
  exact fi_

/-! ### bits_Add64: function 68 -/
def bits_Add64.f (a0 : Int) (a1 : Int) (a2 : Int) : Option (Int × Int) := if 0 ≤ a0 ∧ 0 ≤ a1 ∧ 0 ≤ a2 ∧ a2 ≤ 1 then some ((a0 + a1 + a2) % 18446744073709551616, (a0 + a1 + a2) / 18446744073709551616) else none
theorem bits_Add64.calls (a0 : Int) (a1 : Int) (a2 : Int) (r1 : Int) (r2 : Int) (w : World) (h : bits_Add64.f a0 a1 a2 = some (r1, r2)) :
    CallsX Try.prog 68 #[.int .u64 a0, .int .u64 a1, .int .u64 a2] w fun e w' => e = .returned (.tuple #[.int .u64 r1, .int .u64 r2]) ∧ Drawn0 w w' := by
  unfold bits_Add64.f at h
  split at h
  case isFalse => cases h
  rename_i hu
  obtain ⟨h0, h1, h2, h3⟩ := hu
  simp only [Option.some.injEq, Prod.mk.injEq] at h
  obtain ⟨rfl, rfl⟩ := h
  refine ⟨_, w, ?_, rfl, Drawn0.refl _⟩
  rw [run_callFunc_extern Try.func68 (by kernel_rfl) (by kernel_rfl) (by kernel_rfl) (e := add64Entry) (by kernel_rfl), run_add64 a0 a1 a2 h0 h1 h2 h3]
  rfl

/-! ### wide_Add: function 58 -/
def wide_Add.f (a0_0 : Int) (a0_1 : Int) (a1_0 : Int) (a1_1 : Int) : Option (Int × Int × Int) := (bits_Add64.f a0_1 a1_1 0).bind fun bt124 => ((bits_Add64.f a0_0 a1_0 bt124.2).bind fun bt126 => (if bt126.2 = 0 then (some (bt126.1, bt124.1, 0)) else (some (0, 0, 16))))
set_option maxHeartbeats 8000000 in
set_option maxRecDepth 100000 in
theorem wide_Add.calls (a0_0 : Int) (a0_1 : Int) (a1_0 : Int) (a1_1 : Int) (r1 : Int) (r2 : Int) (r3 : Int) (w : World) (h : wide_Add.f a0_0 a0_1 a1_0 a1_1 = some (r1, r2, r3)) :
  Calls Try.prog 58 #[.agg #[.int .u64 a0_0, .int .u64 a0_1], .agg #[.int .u64 a1_0, .int .u64 a1_1]] w fun e w' => e = .returned (.tuple #[.agg #[.int .u64 r1, .int .u64 r2], .int .i64 r3]) ∧ Below w.heap.size w w' := by
 have hu83 := Try.underlying83
 have HB := Aside0.mk (Below.refl w.heap.size w)
 have H : ((bits_Add64.f a0_1 a1_1 0).bind fun bt124 => ((bits_Add64.f a0_0 a1_0 bt124.2).bind fun bt126 => (if bt126.2 = 0 then (some (bt126.1, bt124.1, 0)) else (some (0, 0, 16))))) = some (r1, r2, r3) := h
 clear h
 have H0_ := bo_ H; clear H; obtain ⟨⟨t124, t125⟩, A3, H⟩ := H0_
 replace H : ((bits_Add64.f a0_0 a1_0 t125).bind fun bt126 => (if bt126.2 = 0 then (some (bt126.1, t124, 0)) else (some (0, 0, 16)))) = some (r1, r2, r3) := H
 have H0_ := bo_ H; clear H; obtain ⟨⟨t126, t127⟩, A4, H⟩ := H0_
 replace H : (if t127 = 0 then (some (t126, t124, 0)) else (some (0, 0, 16))) = some (r1, r2, r3) := H
 by_cases c5 : t127 = 0
 ·rw [if_pos c5] at H
  have c5b0 : (t127 == 0) = true := beq_iff_eq.mpr c5
  have c5b1 : (t127 != 0) = false := bne_eq_false_iff_eq.mpr c5
  clear c5
  simp only [Option.some.injEq, Prod.mk.injEq] at H
  obtain ⟨rfl, rfl, rfl⟩ := H
  go_enter Try.func58, Try.ntmps58
  go_wp2_with (first | ((with_reducible refine gate_dst (N := 2) rfl ?_); refine bx_ #[.int .u64 a0_0, .int .u64 a0_1] 83 ?_; intro gb121 hg w6 BK121 hb; have GW121 := bz_ w hg; have GE121 := GW121; replace HB := bs_ w hb; clear hb hg) | ((with_reducible refine gate_dst (N := 3) rfl ?_); refine bx_ #[.int .u64 a1_0, .int .u64 a1_1] 83 ?_; intro gb122 hg w7 BK122 hb; have GW122 := bz_ w hg; have GE122 := GW122; have NB121_122 := bn_ BK121 hg; have NB122_121 := bm_ BK121 hg; replace BK121 := bb_ BK121 hb; replace HB := bs_ w hb; clear hb hg) | ((with_reducible refine gate_dst (N := 4) rfl ?_); refine bx_ #[.int .u64 0, .int .u64 0] 83 ?_; intro gb123 hg w8 BK123 hb; have GW123 := bz_ w hg; have GE123 := GW123; have NB121_123 := bn_ BK121 hg; have NB123_121 := bm_ BK121 hg; have NB122_123 := bn_ BK122 hg; have NB123_122 := bm_ BK122 hg; replace BK121 := bb_ BK121 hb; replace BK122 := bb_ BK122 hb; replace HB := bs_ w hb; clear hb hg; replace hn121_122 := NB121_122.out; replace hn122_121 := NB122_121.out; replace hn121_123 := NB121_123.out; replace hn123_121 := NB123_121.out; replace hc121 := ce2_ BK121; replace hn122_123 := NB122_123.out; replace hn123_122 := NB123_122.out; replace hc122 := ce2_ BK122) | ((with_reducible refine gate_callee (f := 68) rfl ?_); refine goesXL_ (some 15) rfl rfl #[.int .u64 a0_1, .int .u64 a1_1, .int .u64 0] rfl (by (try simp only [List.map_toArray, List.map_cons, List.map_nil]); first | done | rfl | (simp only [List.length_drop, List.length_take]; rfl)) ?_; (with_reducible refine (bits_Add64.calls a0_1 a1_1 0 t124 t125 _ A3.out).mono ?_); rintro e w' ⟨rfl, ⟨nd, rfl⟩⟩; refine ⟨_, rfl, ?_⟩; (try ((first | generalize hq_ : World.drewN w8 _ = w8 | (rw [drewN_self w8]; generalize hq_ : World.drewN w8 _ = w8)); replace BK121 : Aside0 (w8.heap[gb121]? = some (.cells #[.int .u64 a0_0, .int .u64 a0_1] 83 (0, 0))) := ⟨by rw [← hq_]; exact (bq_ BK121)⟩; replace BK122 : Aside0 (w8.heap[gb122]? = some (.cells #[.int .u64 a1_0, .int .u64 a1_1] 83 (0, 0))) := ⟨by rw [← hq_]; exact (bq_ BK122)⟩; replace BK123 : Aside0 (w8.heap[gb123]? = some (.cells #[.int .u64 0, .int .u64 0] 83 (0, 0))) := ⟨by rw [← hq_]; exact (bq_ BK123)⟩; replace HB : Aside0 (Below w.heap.size w w8) := ⟨by rw [← hq_]; exact bh_⟩; clear hq_)); replace hc121 := ce2_ BK121; replace hc122 := ce2_ BK122) | ((with_reducible refine gate_callee (f := 68) rfl ?_); refine goesXL_ (some 24) rfl rfl #[.int .u64 a0_0, .int .u64 a1_0, .int .u64 t125] rfl (by (try simp only [List.map_toArray, List.map_cons, List.map_nil]); first | done | rfl | (simp only [List.length_drop, List.length_take]; rfl)) ?_; (with_reducible refine (bits_Add64.calls a0_0 a1_0 t125 t126 t127 _ A4.out).mono ?_); rintro e w' ⟨rfl, ⟨nd, rfl⟩⟩; refine ⟨_, rfl, ?_⟩; (try ((first | generalize hq_ : World.drewN w8 _ = w8 | (rw [drewN_self w8]; generalize hq_ : World.drewN w8 _ = w8)); replace BK121 : Aside0 (w8.heap[gb121]? = some (.cells #[.int .u64 a0_0, .int .u64 a0_1] 83 (0, 0))) := ⟨by rw [← hq_]; exact (bq_ BK121)⟩; replace BK122 : Aside0 (w8.heap[gb122]? = some (.cells #[.int .u64 a1_0, .int .u64 a1_1] 83 (0, 0))) := ⟨by rw [← hq_]; exact (bq_ BK122)⟩; replace BK123 : Aside0 (w8.heap[gb123]? = some (.cells #[.int .u64 0, .int .u64 0] 83 (0, 0))) := ⟨by rw [← hq_]; exact (bq_ BK123)⟩; replace HB : Aside0 (Below w.heap.size w w8) := ⟨by rw [← hq_]; exact bh_⟩; clear hq_)); replace hc123 := ce2_ BK123))
  refine bodyPost_ret (results_ct rfl _ _ gb123 83 #[.int .u64 t126, .int .u64 t124] (0, 0) _ rfl (bp2_ (bq_ BK123)) Try.underlying83 rfl (by kernel_rfl)) rfl ?_
  exact fi_
 ·rw [if_neg c5] at H
  have c5b0 : (t127 == 0) = false := beq_eq_false_iff_ne.mpr c5
  have c5b1 : (t127 != 0) = true := bne_iff_ne.mpr c5
  simp only [Option.some.injEq, Prod.mk.injEq] at H
  obtain ⟨rfl, rfl, rfl⟩ := H
  go_enter Try.func58, Try.ntmps58
  go_wp2_with (first | ((with_reducible refine gate_dst (N := 2) rfl ?_); refine bx_ #[.int .u64 a0_0, .int .u64 a0_1] 83 ?_; intro gb121 hg w17 BK121 hb; have GW121 := bz_ w hg; have GE121 := GW121; replace HB := bs_ w hb; clear hb hg) | ((with_reducible refine gate_dst (N := 3) rfl ?_); refine bx_ #[.int .u64 a1_0, .int .u64 a1_1] 83 ?_; intro gb122 hg w18 BK122 hb; have GW122 := bz_ w hg; have GE122 := GW122; have NB121_122 := bn_ BK121 hg; have NB122_121 := bm_ BK121 hg; replace BK121 := bb_ BK121 hb; replace HB := bs_ w hb; clear hb hg) | ((with_reducible refine gate_dst (N := 4) rfl ?_); refine bx_ #[.int .u64 0, .int .u64 0] 83 ?_; intro gb123 hg w19 BK123 hb; have GW123 := bz_ w hg; have GE123 := GW123; have NB121_123 := bn_ BK121 hg; have NB123_121 := bm_ BK121 hg; have NB122_123 := bn_ BK122 hg; have NB123_122 := bm_ BK122 hg; replace BK121 := bb_ BK121 hb; replace BK122 := bb_ BK122 hb; replace HB := bs_ w hb; clear hb hg; replace hn121_122 := NB121_122.out; replace hn122_121 := NB122_121.out; replace hn121_123 := NB121_123.out; replace hn123_121 := NB123_121.out; replace hc121 := ce2_ BK121; replace hn122_123 := NB122_123.out; replace hn123_122 := NB123_122.out; replace hc122 := ce2_ BK122) | ((with_reducible refine gate_callee (f := 68) rfl ?_); refine goesXL_ (some 15) rfl rfl #[.int .u64 a0_1, .int .u64 a1_1, .int .u64 0] rfl (by (try simp only [List.map_toArray, List.map_cons, List.map_nil]); first | done | rfl | (simp only [List.length_drop, List.length_take]; rfl)) ?_; (with_reducible refine (bits_Add64.calls a0_1 a1_1 0 t124 t125 _ A3.out).mono ?_); rintro e w' ⟨rfl, ⟨nd, rfl⟩⟩; refine ⟨_, rfl, ?_⟩; (try ((first | generalize hq_ : World.drewN w19 _ = w19 | (rw [drewN_self w19]; generalize hq_ : World.drewN w19 _ = w19)); replace BK121 : Aside0 (w19.heap[gb121]? = some (.cells #[.int .u64 a0_0, .int .u64 a0_1] 83 (0, 0))) := ⟨by rw [← hq_]; exact (bq_ BK121)⟩; replace BK122 : Aside0 (w19.heap[gb122]? = some (.cells #[.int .u64 a1_0, .int .u64 a1_1] 83 (0, 0))) := ⟨by rw [← hq_]; exact (bq_ BK122)⟩; replace BK123 : Aside0 (w19.heap[gb123]? = some (.cells #[.int .u64 0, .int .u64 0] 83 (0, 0))) := ⟨by rw [← hq_]; exact (bq_ BK123)⟩; replace HB : Aside0 (Below w.heap.size w w19) := ⟨by rw [← hq_]; exact bh_⟩; clear hq_)); replace hc121 := ce2_ BK121; replace hc122 := ce2_ BK122) | ((with_reducible refine gate_callee (f := 68) rfl ?_); refine goesXL_ (some 24) rfl rfl #[.int .u64 a0_0, .int .u64 a1_0, .int .u64 t125] rfl (by (try simp only [List.map_toArray, List.map_cons, List.map_nil]); first | done | rfl | (simp only [List.length_drop, List.length_take]; rfl)) ?_; (with_reducible refine (bits_Add64.calls a0_0 a1_0 t125 t126 t127 _ A4.out).mono ?_); rintro e w' ⟨rfl, ⟨nd, rfl⟩⟩; refine ⟨_, rfl, ?_⟩; (try ((first | generalize hq_ : World.drewN w19 _ = w19 | (rw [drewN_self w19]; generalize hq_ : World.drewN w19 _ = w19)); replace BK121 : Aside0 (w19.heap[gb121]? = some (.cells #[.int .u64 a0_0, .int .u64 a0_1] 83 (0, 0))) := ⟨by rw [← hq_]; exact (bq_ BK121)⟩; replace BK122 : Aside0 (w19.heap[gb122]? = some (.cells #[.int .u64 a1_0, .int .u64 a1_1] 83 (0, 0))) := ⟨by rw [← hq_]; exact (bq_ BK122)⟩; replace BK123 : Aside0 (w19.heap[gb123]? = some (.cells #[.int .u64 0, .int .u64 0] 83 (0, 0))) := ⟨by rw [← hq_]; exact (bq_ BK123)⟩; replace HB : Aside0 (Below w.heap.size w w19) := ⟨by rw [← hq_]; exact bh_⟩; clear hq_)); replace hc123 := ce2_ BK123))
  refine bodyPost_ret (results_ct rfl _ _ gb123 83 #[.int .u64 0, .int .u64 0] (0, 0) _ rfl (bp2_ (bq_ BK123)) Try.underlying83 rfl (by kernel_rfl)) rfl ?_
  exact fi_

end Go.Proofs.Ytaegpnbgppjicaa.X
