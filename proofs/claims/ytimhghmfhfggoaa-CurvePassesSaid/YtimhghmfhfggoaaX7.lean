-- written by xprint.py, a program of this session over the kit's print
import Derived.Test.YtimhghmfhfggoaaX0
import Derived.Test.YtimhghmfhfggoaaX6
namespace Go.Proofs.Ytimhghmfhfggoaa.X
open Go.RowKit Go.Proofs.YtimhghmfhfggoaaW.PrintWords Go.Proofs.YtimhghmfhfggoaaW.PrintLast Go.Proofs.YtimhghmfhfggoaaW.PrintMore
attribute [local go_sem] max2_int min2_int max_two min_two max_three min_three max_four min_four   -- for this text's walks alone
set_option linter.unusedVariables false
set_option linter.unusedSimpArgs false

def wide_Div.f (k : Nat) (a0_0 : Int) (a0_1 : Int) (a1 : Int) : Option (Int × Int × Int × Int) := if a1 = 0 then (some (0, 0, 0, 26)) else ((bits_Div64.f k 0 a0_0 a1).bind fun bt109 => ((bits_Div64.f k bt109.2 a0_1 a1).bind fun bt111 => (some (bt109.1, bt111.1, bt111.2, 0))))
set_option maxHeartbeats 8000000 in
set_option maxRecDepth 100000 in
theorem wide_Div.calls (k : Nat) (a0_0 : Int) (a0_1 : Int) (a1 : Int) (r1 : Int) (r2 : Int) (r3 : Int) (r4 : Int) (w : World) (h : wide_Div.f k a0_0 a0_1 a1 = some (r1, r2, r3, r4)) :
  Calls Try.prog 48 #[.agg #[.int .u64 a0_0, .int .u64 a0_1], .int .u64 a1] w fun e w' => e = .returned (.tuple #[.agg #[.int .u64 r1, .int .u64 r2], .int .u64 r3, .int .i64 r4]) ∧ Below w.heap.size w w' := by
 have hu92 := Try.underlying92
 have HB := Aside0.mk (Below.refl w.heap.size w)
 have H : (if a1 = 0 then (some (0, 0, 0, 26)) else ((bits_Div64.f k 0 a0_0 a1).bind fun bt109 => ((bits_Div64.f k bt109.2 a0_1 a1).bind fun bt111 => (some (bt109.1, bt111.1, bt111.2, 0))))) = some (r1, r2, r3, r4) := h
 clear h
 by_cases c3 : a1 = 0
 ·rw [if_pos c3] at H
  have c3b0 : (a1 == 0) = true := beq_iff_eq.mpr c3
  have c3b1 : (a1 != 0) = false := bne_eq_false_iff_eq.mpr c3
  clear c3
  simp only [Option.some.injEq, Prod.mk.injEq] at H
  obtain ⟨rfl, rfl, rfl, rfl⟩ := H
  go_enter Try.func48, Try.ntmps48
  go_wp2_with (first | ((with_reducible refine gate_dst (N := 2) rfl ?_); refine bx_ #[.int .u64 a0_0, .int .u64 a0_1] 92 ?_; intro gb107 hg w4 BK107 hb; have GW107 := bz_ w hg; have GE107 := GW107; replace HB := bs_ w hb; clear hb hg) | ((with_reducible refine gate_dst (N := 4) rfl ?_); refine bx_ #[.int .u64 0, .int .u64 0] 92 ?_; intro gb108 hg w5 BK108 hb; have GW108 := bz_ w hg; have GE108 := GW108; have NB107_108 := bn_ BK107 hg; have NB108_107 := bm_ BK107 hg; replace BK107 := bb_ BK107 hb; replace HB := bs_ w hb; clear hb hg; replace hn108_107 := NB108_107.out; replace hn107_108 := NB107_108.out; replace hc108 := ce2_ BK108))
  refine bodyPost_ret (results_ctt rfl _ _ gb108 92 #[.int .u64 0, .int .u64 0] (0, 0) _ rfl (bp2_ (bq_ BK108)) Try.underlying92 rfl (by kernel_rfl)) rfl ?_
  exact fi_
 ·rw [if_neg c3] at H
  have c3b0 : (a1 == 0) = false := beq_eq_false_iff_ne.mpr c3
  have c3b1 : (a1 != 0) = true := bne_iff_ne.mpr c3
  have H0_ := bo_ H; clear H; obtain ⟨⟨t109, t110⟩, A8, H⟩ := H0_
  replace H : ((bits_Div64.f k t110 a0_1 a1).bind fun bt111 => (some (t109, bt111.1, bt111.2, 0))) = some (r1, r2, r3, r4) := H
  have H0_ := bo_ H; clear H; obtain ⟨⟨t111, t112⟩, A9, H⟩ := H0_
  replace H : (some (t109, t111, t112, 0)) = some (r1, r2, r3, r4) := H
  simp only [Option.some.injEq, Prod.mk.injEq] at H
  obtain ⟨rfl, rfl, rfl, rfl⟩ := H
  go_enter Try.func48, Try.ntmps48
  go_wp2_with (first | ((with_reducible refine gate_dst (N := 2) rfl ?_); refine bx_ #[.int .u64 a0_0, .int .u64 a0_1] 92 ?_; intro gb107 hg w10 BK107 hb; have GW107 := bz_ w hg; have GE107 := GW107; replace HB := bs_ w hb; clear hb hg) | ((with_reducible refine gate_dst (N := 4) rfl ?_); refine bx_ #[.int .u64 0, .int .u64 0] 92 ?_; intro gb108 hg w11 BK108 hb; have GW108 := bz_ w hg; have GE108 := GW108; have NB107_108 := bn_ BK107 hg; have NB108_107 := bm_ BK107 hg; replace BK107 := bb_ BK107 hb; replace HB := bs_ w hb; clear hb hg; replace hn107_108 := NB107_108.out; replace hn108_107 := NB108_107.out; replace hc107 := ce2_ BK107) | ((with_reducible refine gate_callee (f := 63) rfl ?_); refine goesA_ (some 17) Try.func63 #[.int .u64 0, .int .u64 a0_0, .int .u64 a1] ?_; (with_reducible refine (bits_Div64.calls k 0 a0_0 a1 t109 t110 _ A8.out).mono ?_); rintro e w' ⟨rfl, ⟨nd, rfl⟩⟩; refine ⟨_, rfl, ?_⟩; (try ((first | generalize hq_ : World.drewN w11 _ = w11 | (rw [drewN_self w11]; generalize hq_ : World.drewN w11 _ = w11)); replace BK107 : Aside0 (w11.heap[gb107]? = some (.cells #[.int .u64 a0_0, .int .u64 a0_1] 92 (0, 0))) := ⟨by rw [← hq_]; exact (bq_ BK107)⟩; replace BK108 : Aside0 (w11.heap[gb108]? = some (.cells #[.int .u64 0, .int .u64 0] 92 (0, 0))) := ⟨by rw [← hq_]; exact (bq_ BK108)⟩; replace HB : Aside0 (Below w.heap.size w w11) := ⟨by rw [← hq_]; exact bh_⟩; clear hq_)); replace hc107 := ce2_ BK107) | ((with_reducible refine gate_callee (f := 63) rfl ?_); refine goesA_ (some 25) Try.func63 #[.int .u64 t110, .int .u64 a0_1, .int .u64 a1] ?_; (with_reducible refine (bits_Div64.calls k t110 a0_1 a1 t111 t112 _ A9.out).mono ?_); rintro e w' ⟨rfl, ⟨nd, rfl⟩⟩; refine ⟨_, rfl, ?_⟩; (try ((first | generalize hq_ : World.drewN w11 _ = w11 | (rw [drewN_self w11]; generalize hq_ : World.drewN w11 _ = w11)); replace BK107 : Aside0 (w11.heap[gb107]? = some (.cells #[.int .u64 a0_0, .int .u64 a0_1] 92 (0, 0))) := ⟨by rw [← hq_]; exact (bq_ BK107)⟩; replace BK108 : Aside0 (w11.heap[gb108]? = some (.cells #[.int .u64 0, .int .u64 0] 92 (0, 0))) := ⟨by rw [← hq_]; exact (bq_ BK108)⟩; replace HB : Aside0 (Below w.heap.size w w11) := ⟨by rw [← hq_]; exact bh_⟩; clear hq_)); replace hc108 := ce2_ BK108))
  refine bodyPost_ret (results_ctt rfl _ _ gb108 92 #[.int .u64 t109, .int .u64 t111] (0, 0) _ rfl (bp2_ (bq_ BK108)) Try.underlying92 rfl (by kernel_rfl)) rfl ?_
  exact fi_

def bits_Mul64.f (a0 : Int) (a1 : Int) : Option (Int × Int) := some (IntKind.u64.wrap ((IntKind.u64.wrap ((IntKind.u64.wrap ((a0 / 4294967296) * (a1 / 4294967296))) + ((IntKind.u64.wrap ((IntKind.u64.wrap ((a0 / 4294967296) * (Go.bits .and .u64 a1 4294967295))) + ((IntKind.u64.wrap ((Go.bits .and .u64 a0 4294967295) * (Go.bits .and .u64 a1 4294967295))) / 4294967296))) / 4294967296))) + ((IntKind.u64.wrap ((Go.bits .and .u64 (IntKind.u64.wrap ((IntKind.u64.wrap ((a0 / 4294967296) * (Go.bits .and .u64 a1 4294967295))) + ((IntKind.u64.wrap ((Go.bits .and .u64 a0 4294967295) * (Go.bits .and .u64 a1 4294967295))) / 4294967296))) 4294967295) + (IntKind.u64.wrap ((Go.bits .and .u64 a0 4294967295) * (a1 / 4294967296))))) / 4294967296)), IntKind.u64.wrap (a0 * a1))
set_option maxHeartbeats 8000000 in
set_option maxRecDepth 100000 in
theorem bits_Mul64.calls (a0 : Int) (a1 : Int) (r1 : Int) (r2 : Int) (w : World) (h : bits_Mul64.f a0 a1 = some (r1, r2)) :
  Calls Try.prog 64 #[.int .u64 a0, .int .u64 a1] w fun e w' => e = .returned (.tuple #[.int .u64 r1, .int .u64 r2]) ∧ Drawn0 w w' := by
 have H : (some (IntKind.u64.wrap ((IntKind.u64.wrap ((IntKind.u64.wrap ((a0 / 4294967296) * (a1 / 4294967296))) + ((IntKind.u64.wrap ((IntKind.u64.wrap ((a0 / 4294967296) * (Go.bits .and .u64 a1 4294967295))) + ((IntKind.u64.wrap ((Go.bits .and .u64 a0 4294967295) * (Go.bits .and .u64 a1 4294967295))) / 4294967296))) / 4294967296))) + ((IntKind.u64.wrap ((Go.bits .and .u64 (IntKind.u64.wrap ((IntKind.u64.wrap ((a0 / 4294967296) * (Go.bits .and .u64 a1 4294967295))) + ((IntKind.u64.wrap ((Go.bits .and .u64 a0 4294967295) * (Go.bits .and .u64 a1 4294967295))) / 4294967296))) 4294967295) + (IntKind.u64.wrap ((Go.bits .and .u64 a0 4294967295) * (a1 / 4294967296))))) / 4294967296)), IntKind.u64.wrap (a0 * a1))) = some (r1, r2) := h
 clear h
 simp only [Option.some.injEq, Prod.mk.injEq] at H
 obtain ⟨rfl, rfl⟩ := H
 go_enter Try.func64, Try.ntmps64
 go_wp2
 go_ret2
 exact ⟨by first | rfl | (simp; done) | (simp [*]; done), by repeat (first | exact Drawn0.refl _ | apply Drawn0.step)⟩

def wide_Mul.f (a0 : Int) (a1 : Int) : Option (Int × Int) := (bits_Mul64.f a0 a1).bind fun bt114 => (some (bt114.1, bt114.2))
set_option maxHeartbeats 8000000 in
set_option maxRecDepth 100000 in
theorem wide_Mul.calls (a0 : Int) (a1 : Int) (r1 : Int) (r2 : Int) (w : World) (h : wide_Mul.f a0 a1 = some (r1, r2)) :
  Calls Try.prog 49 #[.int .u64 a0, .int .u64 a1] w fun e w' => e = .returned (.agg #[.int .u64 r1, .int .u64 r2]) ∧ Below w.heap.size w w' := by
 have hu92 := Try.underlying92
 have HB := Aside0.mk (Below.refl w.heap.size w)
 have H : ((bits_Mul64.f a0 a1).bind fun bt114 => (some (bt114.1, bt114.2))) = some (r1, r2) := h
 clear h
 have H0_ := bo_ H; clear H; obtain ⟨⟨t114, t115⟩, A3, H⟩ := H0_
 replace H : (some (t114, t115)) = some (r1, r2) := H
 simp only [Option.some.injEq, Prod.mk.injEq] at H
 obtain ⟨rfl, rfl⟩ := H
 go_enter Try.func49, Try.ntmps49
 go_wp2_with (first | ((with_reducible refine gate_dst (N := 4) rfl ?_); refine bx_ #[.int .u64 0, .int .u64 0] 92 ?_; intro gb113 hg w4 BK113 hb; have GW113 := bz_ w hg; replace HB := bs_ w hb; clear hb hg) | ((with_reducible refine gate_callee (f := 64) rfl ?_); refine goesA_ (some 10) Try.func64 #[.int .u64 a0, .int .u64 a1] ?_; (with_reducible refine (bits_Mul64.calls a0 a1 t114 t115 _ A3.out).mono ?_); rintro e w' ⟨rfl, ⟨nd, rfl⟩⟩; refine ⟨_, rfl, ?_⟩; (try ((first | generalize hq_ : World.drewN w4 _ = w4 | (rw [drewN_self w4]; generalize hq_ : World.drewN w4 _ = w4)); replace BK113 : Aside0 (w4.heap[gb113]? = some (.cells #[.int .u64 0, .int .u64 0] 92 (0, 0))) := ⟨by rw [← hq_]; exact (bq_ BK113)⟩; replace HB : Aside0 (Below w.heap.size w w4) := ⟨by rw [← hq_]; exact bh_⟩; clear hq_)); replace hc113 := ce2_ BK113))
 refine bodyPost_ret (results_cell_row rfl _ _ gb113 92 #[.int .u64 t114, .int .u64 t115] (0, 0) _ rfl (bp2_ (bq_ BK113)) Try.underlying92 rfl (by kernel_rfl)) rfl ?_
 exact fi_

end Go.Proofs.Ytimhghmfhfggoaa.X
