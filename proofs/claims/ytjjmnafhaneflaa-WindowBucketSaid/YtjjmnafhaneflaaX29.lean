-- written by xprint.py, a program of this session over the kit's print
import Derived.Test.YtjjmnafhaneflaaX0
import Derived.Test.YtjjmnafhaneflaaX28
namespace Go.Proofs.Ytjjmnafhaneflaa.X
open Go.RowKit Go.Proofs.YtjjmnafhaneflaaW.PrintWords Go.Proofs.YtjjmnafhaneflaaW.PrintLast Go.Proofs.YtjjmnafhaneflaaW.PrintMore
attribute [local go_sem] max2_int min2_int max_two min_two max_three min_three max_four min_four   -- for this text's walks alone
set_option linter.unusedVariables false
set_option linter.unusedSimpArgs false

/-! ### wide_Add: function 50 -/
def wide_Add.f (a0_0 : Int) (a0_1 : Int) (a1_0 : Int) (a1_1 : Int) : Option (Int × Int × Int) := (bits_Add64.f a0_1 a1_1 0).bind fun bt459 => ((bits_Add64.f a0_0 a1_0 bt459.2).bind fun bt461 => (if bt461.2 = 0 then (some (bt461.1, bt459.1, 0)) else (some (0, 0, 16))))
set_option maxHeartbeats 8000000 in
set_option maxRecDepth 100000 in
theorem wide_Add.calls (a0_0 : Int) (a0_1 : Int) (a1_0 : Int) (a1_1 : Int) (r1 : Int) (r2 : Int) (r3 : Int) (w : World) (h : wide_Add.f a0_0 a0_1 a1_0 a1_1 = some (r1, r2, r3)) :
  Calls Try.prog 50 #[.agg #[.int .u64 a0_0, .int .u64 a0_1], .agg #[.int .u64 a1_0, .int .u64 a1_1]] w fun e w' => e = .returned (.tuple #[.agg #[.int .u64 r1, .int .u64 r2], .int .i64 r3]) ∧ Below w.heap.size w w' := by
 have hu84 := Try.underlying84
 have HB := Aside0.mk (Below.refl w.heap.size w)
 have H : ((bits_Add64.f a0_1 a1_1 0).bind fun bt459 => ((bits_Add64.f a0_0 a1_0 bt459.2).bind fun bt461 => (if bt461.2 = 0 then (some (bt461.1, bt459.1, 0)) else (some (0, 0, 16))))) = some (r1, r2, r3) := h
 clear h
 obtain ⟨⟨t459, t460⟩, A3, H⟩ := bo_ H
 replace H : ((bits_Add64.f a0_0 a1_0 t460).bind fun bt461 => (if bt461.2 = 0 then (some (bt461.1, t459, 0)) else (some (0, 0, 16)))) = some (r1, r2, r3) := H
 obtain ⟨⟨t461, t462⟩, A4, H⟩ := bo_ H
 replace H : (if t462 = 0 then (some (t461, t459, 0)) else (some (0, 0, 16))) = some (r1, r2, r3) := H
 by_cases c5 : t462 = 0
 ·rw [if_pos c5] at H
  have c5b0 : (t462 == 0) = true := beq_iff_eq.mpr c5
  have c5b1 : (t462 != 0) = false := bne_eq_false_iff_eq.mpr c5
  clear c5
  simp only [Option.some.injEq, Prod.mk.injEq] at H
  obtain ⟨rfl, rfl, rfl⟩ := H
  go_enter Try.func50, Try.ntmps50
  go_wp2_with (first | ((with_reducible refine gate_dst (N := 2) rfl ?_); refine bx_ #[.int .u64 a0_0, .int .u64 a0_1] 84 ?_; intro gb456 hg w6 BK456 hb; have GW456 := bz_ w hg; have GE456 := GW456; replace HB := bs_ w hb; clear hb hg) | ((with_reducible refine gate_dst (N := 3) rfl ?_); refine bx_ #[.int .u64 a1_0, .int .u64 a1_1] 84 ?_; intro gb457 hg w7 BK457 hb; have GW457 := bz_ w hg; have GE457 := GW457; have NB456_457 := bn_ BK456 hg; have NB457_456 := bm_ BK456 hg; replace BK456 := bb_ BK456 hb; replace HB := bs_ w hb; clear hb hg) | ((with_reducible refine gate_dst (N := 4) rfl ?_); refine bx_ #[.int .u64 0, .int .u64 0] 84 ?_; intro gb458 hg w8 BK458 hb; have GW458 := bz_ w hg; have GE458 := GW458; have NB456_458 := bn_ BK456 hg; have NB458_456 := bm_ BK456 hg; have NB457_458 := bn_ BK457 hg; have NB458_457 := bm_ BK457 hg; replace BK456 := bb_ BK456 hb; replace BK457 := bb_ BK457 hb; replace HB := bs_ w hb; clear hb hg; replace hn456_457 := NB456_457.out; replace hn457_456 := NB457_456.out; replace hn456_458 := NB456_458.out; replace hn458_456 := NB458_456.out; replace hc456 := ce2_ BK456; replace hn457_458 := NB457_458.out; replace hn458_457 := NB458_457.out; replace hc457 := ce2_ BK457) | ((with_reducible refine gate_callee (f := 55) rfl ?_); refine goesXL_ (some 15) rfl rfl #[.int .u64 a0_1, .int .u64 a1_1, .int .u64 0] rfl (by (try simp only [List.map_toArray, List.map_cons, List.map_nil]); first | done | rfl | (simp only [List.length_drop, List.length_take]; rfl)) ?_; (with_reducible refine (bits_Add64.calls a0_1 a1_1 0 t459 t460 _ A3.out).mono ?_); rintro e w' ⟨rfl, ⟨nd, rfl⟩⟩; refine ⟨_, rfl, ?_⟩; (try ((first | generalize hq_ : World.drewN w8 _ = w8 | (rw [drewN_self w8]; generalize hq_ : World.drewN w8 _ = w8)); replace BK456 : Aside0 (w8.heap[gb456]? = some (.cells #[.int .u64 a0_0, .int .u64 a0_1] 84 (0, 0))) := ⟨by rw [← hq_]; exact (bq_ BK456)⟩; replace BK457 : Aside0 (w8.heap[gb457]? = some (.cells #[.int .u64 a1_0, .int .u64 a1_1] 84 (0, 0))) := ⟨by rw [← hq_]; exact (bq_ BK457)⟩; replace BK458 : Aside0 (w8.heap[gb458]? = some (.cells #[.int .u64 0, .int .u64 0] 84 (0, 0))) := ⟨by rw [← hq_]; exact (bq_ BK458)⟩; replace HB : Aside0 (Below w.heap.size w w8) := ⟨by rw [← hq_]; exact bh_⟩; clear hq_)); replace hc456 := ce2_ BK456; replace hc457 := ce2_ BK457) | ((with_reducible refine gate_callee (f := 55) rfl ?_); refine goesXL_ (some 24) rfl rfl #[.int .u64 a0_0, .int .u64 a1_0, .int .u64 t460] rfl (by (try simp only [List.map_toArray, List.map_cons, List.map_nil]); first | done | rfl | (simp only [List.length_drop, List.length_take]; rfl)) ?_; (with_reducible refine (bits_Add64.calls a0_0 a1_0 t460 t461 t462 _ A4.out).mono ?_); rintro e w' ⟨rfl, ⟨nd, rfl⟩⟩; refine ⟨_, rfl, ?_⟩; (try ((first | generalize hq_ : World.drewN w8 _ = w8 | (rw [drewN_self w8]; generalize hq_ : World.drewN w8 _ = w8)); replace BK456 : Aside0 (w8.heap[gb456]? = some (.cells #[.int .u64 a0_0, .int .u64 a0_1] 84 (0, 0))) := ⟨by rw [← hq_]; exact (bq_ BK456)⟩; replace BK457 : Aside0 (w8.heap[gb457]? = some (.cells #[.int .u64 a1_0, .int .u64 a1_1] 84 (0, 0))) := ⟨by rw [← hq_]; exact (bq_ BK457)⟩; replace BK458 : Aside0 (w8.heap[gb458]? = some (.cells #[.int .u64 0, .int .u64 0] 84 (0, 0))) := ⟨by rw [← hq_]; exact (bq_ BK458)⟩; replace HB : Aside0 (Below w.heap.size w w8) := ⟨by rw [← hq_]; exact bh_⟩; clear hq_)); replace hc458 := ce2_ BK458))
  refine bodyPost_ret (results_ct rfl _ _ gb458 84 #[.int .u64 t461, .int .u64 t459] (0, 0) _ rfl (bp2_ (bq_ BK458)) Try.underlying84 rfl (by kernel_rfl)) rfl ?_
  exact fi_
 ·rw [if_neg c5] at H
  have c5b0 : (t462 == 0) = false := beq_eq_false_iff_ne.mpr c5
  have c5b1 : (t462 != 0) = true := bne_iff_ne.mpr c5
  simp only [Option.some.injEq, Prod.mk.injEq] at H
  obtain ⟨rfl, rfl, rfl⟩ := H
  go_enter Try.func50, Try.ntmps50
  go_wp2_with (first | ((with_reducible refine gate_dst (N := 2) rfl ?_); refine bx_ #[.int .u64 a0_0, .int .u64 a0_1] 84 ?_; intro gb456 hg w17 BK456 hb; have GW456 := bz_ w hg; have GE456 := GW456; replace HB := bs_ w hb; clear hb hg) | ((with_reducible refine gate_dst (N := 3) rfl ?_); refine bx_ #[.int .u64 a1_0, .int .u64 a1_1] 84 ?_; intro gb457 hg w18 BK457 hb; have GW457 := bz_ w hg; have GE457 := GW457; have NB456_457 := bn_ BK456 hg; have NB457_456 := bm_ BK456 hg; replace BK456 := bb_ BK456 hb; replace HB := bs_ w hb; clear hb hg) | ((with_reducible refine gate_dst (N := 4) rfl ?_); refine bx_ #[.int .u64 0, .int .u64 0] 84 ?_; intro gb458 hg w19 BK458 hb; have GW458 := bz_ w hg; have GE458 := GW458; have NB456_458 := bn_ BK456 hg; have NB458_456 := bm_ BK456 hg; have NB457_458 := bn_ BK457 hg; have NB458_457 := bm_ BK457 hg; replace BK456 := bb_ BK456 hb; replace BK457 := bb_ BK457 hb; replace HB := bs_ w hb; clear hb hg; replace hn456_457 := NB456_457.out; replace hn457_456 := NB457_456.out; replace hn456_458 := NB456_458.out; replace hn458_456 := NB458_456.out; replace hc456 := ce2_ BK456; replace hn457_458 := NB457_458.out; replace hn458_457 := NB458_457.out; replace hc457 := ce2_ BK457) | ((with_reducible refine gate_callee (f := 55) rfl ?_); refine goesXL_ (some 15) rfl rfl #[.int .u64 a0_1, .int .u64 a1_1, .int .u64 0] rfl (by (try simp only [List.map_toArray, List.map_cons, List.map_nil]); first | done | rfl | (simp only [List.length_drop, List.length_take]; rfl)) ?_; (with_reducible refine (bits_Add64.calls a0_1 a1_1 0 t459 t460 _ A3.out).mono ?_); rintro e w' ⟨rfl, ⟨nd, rfl⟩⟩; refine ⟨_, rfl, ?_⟩; (try ((first | generalize hq_ : World.drewN w19 _ = w19 | (rw [drewN_self w19]; generalize hq_ : World.drewN w19 _ = w19)); replace BK456 : Aside0 (w19.heap[gb456]? = some (.cells #[.int .u64 a0_0, .int .u64 a0_1] 84 (0, 0))) := ⟨by rw [← hq_]; exact (bq_ BK456)⟩; replace BK457 : Aside0 (w19.heap[gb457]? = some (.cells #[.int .u64 a1_0, .int .u64 a1_1] 84 (0, 0))) := ⟨by rw [← hq_]; exact (bq_ BK457)⟩; replace BK458 : Aside0 (w19.heap[gb458]? = some (.cells #[.int .u64 0, .int .u64 0] 84 (0, 0))) := ⟨by rw [← hq_]; exact (bq_ BK458)⟩; replace HB : Aside0 (Below w.heap.size w w19) := ⟨by rw [← hq_]; exact bh_⟩; clear hq_)); replace hc456 := ce2_ BK456; replace hc457 := ce2_ BK457) | ((with_reducible refine gate_callee (f := 55) rfl ?_); refine goesXL_ (some 24) rfl rfl #[.int .u64 a0_0, .int .u64 a1_0, .int .u64 t460] rfl (by (try simp only [List.map_toArray, List.map_cons, List.map_nil]); first | done | rfl | (simp only [List.length_drop, List.length_take]; rfl)) ?_; (with_reducible refine (bits_Add64.calls a0_0 a1_0 t460 t461 t462 _ A4.out).mono ?_); rintro e w' ⟨rfl, ⟨nd, rfl⟩⟩; refine ⟨_, rfl, ?_⟩; (try ((first | generalize hq_ : World.drewN w19 _ = w19 | (rw [drewN_self w19]; generalize hq_ : World.drewN w19 _ = w19)); replace BK456 : Aside0 (w19.heap[gb456]? = some (.cells #[.int .u64 a0_0, .int .u64 a0_1] 84 (0, 0))) := ⟨by rw [← hq_]; exact (bq_ BK456)⟩; replace BK457 : Aside0 (w19.heap[gb457]? = some (.cells #[.int .u64 a1_0, .int .u64 a1_1] 84 (0, 0))) := ⟨by rw [← hq_]; exact (bq_ BK457)⟩; replace BK458 : Aside0 (w19.heap[gb458]? = some (.cells #[.int .u64 0, .int .u64 0] 84 (0, 0))) := ⟨by rw [← hq_]; exact (bq_ BK458)⟩; replace HB : Aside0 (Below w.heap.size w w19) := ⟨by rw [← hq_]; exact bh_⟩; clear hq_)); replace hc458 := ce2_ BK458))
  refine bodyPost_ret (results_ct rfl _ _ gb458 84 #[.int .u64 0, .int .u64 0] (0, 0) _ rfl (bp2_ (bq_ BK458)) Try.underlying84 rfl (by kernel_rfl)) rfl ?_
  exact fi_

/-! ### bits_Mul64: function 56 -/
def bits_Mul64.f (a0 : Int) (a1 : Int) : Option (Int × Int) := some (IntKind.u64.wrap ((IntKind.u64.wrap ((IntKind.u64.wrap ((a0 / 4294967296) * (a1 / 4294967296))) + ((IntKind.u64.wrap ((IntKind.u64.wrap ((a0 / 4294967296) * (Go.bits .and .u64 a1 4294967295))) + ((IntKind.u64.wrap ((Go.bits .and .u64 a0 4294967295) * (Go.bits .and .u64 a1 4294967295))) / 4294967296))) / 4294967296))) + ((IntKind.u64.wrap ((Go.bits .and .u64 (IntKind.u64.wrap ((IntKind.u64.wrap ((a0 / 4294967296) * (Go.bits .and .u64 a1 4294967295))) + ((IntKind.u64.wrap ((Go.bits .and .u64 a0 4294967295) * (Go.bits .and .u64 a1 4294967295))) / 4294967296))) 4294967295) + (IntKind.u64.wrap ((Go.bits .and .u64 a0 4294967295) * (a1 / 4294967296))))) / 4294967296)), IntKind.u64.wrap (a0 * a1))
set_option maxHeartbeats 8000000 in
set_option maxRecDepth 100000 in
theorem bits_Mul64.calls (a0 : Int) (a1 : Int) (r1 : Int) (r2 : Int) (w : World) (h : bits_Mul64.f a0 a1 = some (r1, r2)) :
  Calls Try.prog 56 #[.int .u64 a0, .int .u64 a1] w fun e w' => e = .returned (.tuple #[.int .u64 r1, .int .u64 r2]) ∧ Drawn0 w w' := by
 have H : (some (IntKind.u64.wrap ((IntKind.u64.wrap ((IntKind.u64.wrap ((a0 / 4294967296) * (a1 / 4294967296))) + ((IntKind.u64.wrap ((IntKind.u64.wrap ((a0 / 4294967296) * (Go.bits .and .u64 a1 4294967295))) + ((IntKind.u64.wrap ((Go.bits .and .u64 a0 4294967295) * (Go.bits .and .u64 a1 4294967295))) / 4294967296))) / 4294967296))) + ((IntKind.u64.wrap ((Go.bits .and .u64 (IntKind.u64.wrap ((IntKind.u64.wrap ((a0 / 4294967296) * (Go.bits .and .u64 a1 4294967295))) + ((IntKind.u64.wrap ((Go.bits .and .u64 a0 4294967295) * (Go.bits .and .u64 a1 4294967295))) / 4294967296))) 4294967295) + (IntKind.u64.wrap ((Go.bits .and .u64 a0 4294967295) * (a1 / 4294967296))))) / 4294967296)), IntKind.u64.wrap (a0 * a1))) = some (r1, r2) := h
 clear h
 simp only [Option.some.injEq, Prod.mk.injEq] at H
 obtain ⟨rfl, rfl⟩ := H
 go_enter Try.func56, Try.ntmps56
 go_wp2
 go_ret2
 exact ⟨by first | rfl | (simp; done) | (simp [*]; done), by repeat (first | exact Drawn0.refl _ | apply Drawn0.step)⟩

/-! ### wide_Mul: function 51 -/
def wide_Mul.f (a0 : Int) (a1 : Int) : Option (Int × Int) := (bits_Mul64.f a0 a1).bind fun bt464 => (some (bt464.1, bt464.2))
set_option maxHeartbeats 8000000 in
set_option maxRecDepth 100000 in
theorem wide_Mul.calls (a0 : Int) (a1 : Int) (r1 : Int) (r2 : Int) (w : World) (h : wide_Mul.f a0 a1 = some (r1, r2)) :
  Calls Try.prog 51 #[.int .u64 a0, .int .u64 a1] w fun e w' => e = .returned (.agg #[.int .u64 r1, .int .u64 r2]) ∧ Below w.heap.size w w' := by
 have hu84 := Try.underlying84
 have HB := Aside0.mk (Below.refl w.heap.size w)
 have H : ((bits_Mul64.f a0 a1).bind fun bt464 => (some (bt464.1, bt464.2))) = some (r1, r2) := h
 clear h
 obtain ⟨⟨t464, t465⟩, A3, H⟩ := bo_ H
 replace H : (some (t464, t465)) = some (r1, r2) := H
 simp only [Option.some.injEq, Prod.mk.injEq] at H
 obtain ⟨rfl, rfl⟩ := H
 go_enter Try.func51, Try.ntmps51
 go_wp2_with (first | ((with_reducible refine gate_dst (N := 4) rfl ?_); refine bx_ #[.int .u64 0, .int .u64 0] 84 ?_; intro gb463 hg w4 BK463 hb; have GW463 := bz_ w hg; replace HB := bs_ w hb; clear hb hg) | ((with_reducible refine gate_callee (f := 56) rfl ?_); refine goesA_ (some 10) Try.func56 #[.int .u64 a0, .int .u64 a1] ?_; (with_reducible refine (bits_Mul64.calls a0 a1 t464 t465 _ A3.out).mono ?_); rintro e w' ⟨rfl, ⟨nd, rfl⟩⟩; refine ⟨_, rfl, ?_⟩; (try ((first | generalize hq_ : World.drewN w4 _ = w4 | (rw [drewN_self w4]; generalize hq_ : World.drewN w4 _ = w4)); replace BK463 : Aside0 (w4.heap[gb463]? = some (.cells #[.int .u64 0, .int .u64 0] 84 (0, 0))) := ⟨by rw [← hq_]; exact (bq_ BK463)⟩; replace HB : Aside0 (Below w.heap.size w w4) := ⟨by rw [← hq_]; exact bh_⟩; clear hq_)); replace hc463 := ce2_ BK463))
 refine bodyPost_ret (results_cell_row rfl _ _ gb463 84 #[.int .u64 t464, .int .u64 t465] (0, 0) _ rfl (bp2_ (bq_ BK463)) Try.underlying84 rfl (by kernel_rfl)) rfl ?_
 exact fi_

/-! ### wide_Of: function 52 -/
def wide_Of.f (a0 : Int) : Option (Int × Int) := some (0, a0)
set_option maxHeartbeats 8000000 in
set_option maxRecDepth 100000 in
theorem wide_Of.calls (a0 : Int) (r1 : Int) (r2 : Int) (w : World) (h : wide_Of.f a0 = some (r1, r2)) :
  Calls Try.prog 52 #[.int .u64 a0] w fun e w' => e = .returned (.agg #[.int .u64 r1, .int .u64 r2]) ∧ Below w.heap.size w w' := by
 have hu84 := Try.underlying84
 have HB := Aside0.mk (Below.refl w.heap.size w)
 have H : (some (0, a0)) = some (r1, r2) := h
 clear h
 simp only [Option.some.injEq, Prod.mk.injEq] at H
 obtain ⟨rfl, rfl⟩ := H
 go_enter Try.func52, Try.ntmps52
 go_wp2_with (first | ((with_reducible refine gate_dst (N := 2) rfl ?_); refine bx_ #[.int .u64 0, .int .u64 0] 84 ?_; intro gb466 hg w2 BK466 hb; have GW466 := bz_ w hg; replace HB := bs_ w hb; clear hb hg; replace hc466 := ce2_ BK466))
 refine bodyPost_ret (results_cell_row rfl _ _ gb466 84 #[.int .u64 0, .int .u64 a0] (0, 0) _ rfl (bp2_ (bq_ BK466)) Try.underlying84 rfl (by kernel_rfl)) rfl ?_
 exact fi_

end Go.Proofs.Ytjjmnafhaneflaa.X
