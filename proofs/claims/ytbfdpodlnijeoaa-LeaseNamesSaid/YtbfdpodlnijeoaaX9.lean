-- written by xprint.py, a program of this session over the kit's print
import Derived.Test.YtbfdpodlnijeoaaX0
import Derived.Test.YtbfdpodlnijeoaaX8
namespace Go.Proofs.Ytbfdpodlnijeoaa.X
open Go.RowKit Go.Proofs.YtbfdpodlnijeoaaW.PrintWords Go.Proofs.YtbfdpodlnijeoaaW.PrintLast Go.Proofs.YtbfdpodlnijeoaaW.PrintMore
attribute [local go_sem] max2_int min2_int max_two min_two max_three min_three max_four min_four   -- for this text's walks alone
set_option linter.unusedVariables false
set_option linter.unusedSimpArgs false

/-! ### wide_Div: function 37 -/
def wide_Div.f (k : Nat) (a0_0 : Int) (a0_1 : Int) (a1 : Int) : Option (Int × Int × Int × Int) := if a1 = 0 then (some (0, 0, 0, 26)) else ((bits_Div64.f k 0 a0_0 a1).bind fun bt126 => ((bits_Div64.f k bt126.2 a0_1 a1).bind fun bt128 => (some (bt126.1, bt128.1, bt128.2, 0))))
theorem wide_Div.mono : ∀ a0 a1 a2 k, LeO (wide_Div.f k a0 a1 a2) (wide_Div.f (k + 1) a0 a1 a2) := by
  intro a0 a1 a2 k
  unfold wide_Div.f
  repeat' first
      | (with_reducible exact bits_Div64.mono _ _ _ _)
      | (with_reducible exact LeO.refl _)
      | (with_reducible exact LeO.none _)
      | (with_reducible refine LeO.ite ?_ ?_)
      | (with_reducible refine LeO.bind ?_ (fun _ => ?_))
      | exact bits_Div64.mono _ _ _ _
      | exact LeO.none _
      | refine LeO.ite ?_ ?_
      | refine LeO.bind ?_ (fun _ => ?_)
set_option maxHeartbeats 8000000 in
set_option maxRecDepth 100000 in
theorem wide_Div.calls (k : Nat) (a0_0 : Int) (a0_1 : Int) (a1 : Int) (r1 : Int) (r2 : Int) (r3 : Int) (r4 : Int) (w : World) (h : wide_Div.f k a0_0 a0_1 a1 = some (r1, r2, r3, r4)) :
  Calls Try.prog 37 #[.agg #[.int .u64 a0_0, .int .u64 a0_1], .int .u64 a1] w fun e w' => e = .returned (.tuple #[.agg #[.int .u64 r1, .int .u64 r2], .int .u64 r3, .int .i64 r4]) ∧ Below w.heap.size w w' := by
 have hu82 := Try.underlying82
 have HB := Aside0.mk (Below.refl w.heap.size w)
 have H : (if a1 = 0 then (some (0, 0, 0, 26)) else ((bits_Div64.f k 0 a0_0 a1).bind fun bt126 => ((bits_Div64.f k bt126.2 a0_1 a1).bind fun bt128 => (some (bt126.1, bt128.1, bt128.2, 0))))) = some (r1, r2, r3, r4) := h
 clear h
 by_cases c3 : a1 = 0
 ·rw [if_pos c3] at H
  have c3b0 : (a1 == 0) = true := beq_iff_eq.mpr c3
  have c3b1 : (a1 != 0) = false := bne_eq_false_iff_eq.mpr c3
  clear c3
  simp only [Option.some.injEq, Prod.mk.injEq] at H
  obtain ⟨rfl, rfl, rfl, rfl⟩ := H
  go_enter Try.func37, Try.ntmps37
  go_wp2_with (first | ((with_reducible refine gate_dst (N := 2) rfl ?_); refine bx_ #[.int .u64 a0_0, .int .u64 a0_1] 82 ?_; intro gb124 hg w4 BK124 hb; have GW124 := bz_ w hg; have GE124 := GW124; replace HB := bs_ w hb; clear hb hg) | ((with_reducible refine gate_dst (N := 4) rfl ?_); refine bx_ #[.int .u64 0, .int .u64 0] 82 ?_; intro gb125 hg w5 BK125 hb; have GW125 := bz_ w hg; have GE125 := GW125; have NB124_125 := bn_ BK124 hg; have NB125_124 := bm_ BK124 hg; replace BK124 := bb_ BK124 hb; replace HB := bs_ w hb; clear hb hg; replace hn125_124 := NB125_124.out; replace hn124_125 := NB124_125.out; replace hc125 := ce2_ BK125))
  refine bodyPost_ret (results_ctt rfl _ _ gb125 82 #[.int .u64 0, .int .u64 0] (0, 0) _ rfl (bp2_ (bq_ BK125)) Try.underlying82 rfl (by kernel_rfl)) rfl ?_
  exact fi_
 ·rw [if_neg c3] at H
  have c3b0 : (a1 == 0) = false := beq_eq_false_iff_ne.mpr c3
  have c3b1 : (a1 != 0) = true := bne_iff_ne.mpr c3
  have H0_ := bo_ H; clear H; obtain ⟨⟨t126, t127⟩, A8, H⟩ := H0_
  replace H : ((bits_Div64.f k t127 a0_1 a1).bind fun bt128 => (some (t126, bt128.1, bt128.2, 0))) = some (r1, r2, r3, r4) := H
  have H0_ := bo_ H; clear H; obtain ⟨⟨t128, t129⟩, A9, H⟩ := H0_
  replace H : (some (t126, t128, t129, 0)) = some (r1, r2, r3, r4) := H
  simp only [Option.some.injEq, Prod.mk.injEq] at H
  obtain ⟨rfl, rfl, rfl, rfl⟩ := H
  go_enter Try.func37, Try.ntmps37
  go_wp2_with (first | ((with_reducible refine gate_dst (N := 2) rfl ?_); refine bx_ #[.int .u64 a0_0, .int .u64 a0_1] 82 ?_; intro gb124 hg w10 BK124 hb; have GW124 := bz_ w hg; have GE124 := GW124; replace HB := bs_ w hb; clear hb hg) | ((with_reducible refine gate_dst (N := 4) rfl ?_); refine bx_ #[.int .u64 0, .int .u64 0] 82 ?_; intro gb125 hg w11 BK125 hb; have GW125 := bz_ w hg; have GE125 := GW125; have NB124_125 := bn_ BK124 hg; have NB125_124 := bm_ BK124 hg; replace BK124 := bb_ BK124 hb; replace HB := bs_ w hb; clear hb hg; replace hn124_125 := NB124_125.out; replace hn125_124 := NB125_124.out; replace hc124 := ce2_ BK124) | ((with_reducible refine gate_callee (f := 50) rfl ?_); refine goesA_ (some 17) Try.func50 #[.int .u64 0, .int .u64 a0_0, .int .u64 a1] ?_; (with_reducible refine (bits_Div64.calls k 0 a0_0 a1 t126 t127 _ A8.out).mono ?_); rintro e w' ⟨rfl, ⟨nd, rfl⟩⟩; refine ⟨_, rfl, ?_⟩; (try ((first | generalize hq_ : World.drewN w11 _ = w11 | (rw [drewN_self w11]; generalize hq_ : World.drewN w11 _ = w11)); replace BK124 : Aside0 (w11.heap[gb124]? = some (.cells #[.int .u64 a0_0, .int .u64 a0_1] 82 (0, 0))) := ⟨by rw [← hq_]; exact (bq_ BK124)⟩; replace BK125 : Aside0 (w11.heap[gb125]? = some (.cells #[.int .u64 0, .int .u64 0] 82 (0, 0))) := ⟨by rw [← hq_]; exact (bq_ BK125)⟩; replace HB : Aside0 (Below w.heap.size w w11) := ⟨by rw [← hq_]; exact bh_⟩; clear hq_)); replace hc124 := ce2_ BK124) | ((with_reducible refine gate_callee (f := 50) rfl ?_); refine goesA_ (some 25) Try.func50 #[.int .u64 t127, .int .u64 a0_1, .int .u64 a1] ?_; (with_reducible refine (bits_Div64.calls k t127 a0_1 a1 t128 t129 _ A9.out).mono ?_); rintro e w' ⟨rfl, ⟨nd, rfl⟩⟩; refine ⟨_, rfl, ?_⟩; (try ((first | generalize hq_ : World.drewN w11 _ = w11 | (rw [drewN_self w11]; generalize hq_ : World.drewN w11 _ = w11)); replace BK124 : Aside0 (w11.heap[gb124]? = some (.cells #[.int .u64 a0_0, .int .u64 a0_1] 82 (0, 0))) := ⟨by rw [← hq_]; exact (bq_ BK124)⟩; replace BK125 : Aside0 (w11.heap[gb125]? = some (.cells #[.int .u64 0, .int .u64 0] 82 (0, 0))) := ⟨by rw [← hq_]; exact (bq_ BK125)⟩; replace HB : Aside0 (Below w.heap.size w w11) := ⟨by rw [← hq_]; exact bh_⟩; clear hq_)); replace hc125 := ce2_ BK125))
  refine bodyPost_ret (results_ctt rfl _ _ gb125 82 #[.int .u64 t126, .int .u64 t128] (0, 0) _ rfl (bp2_ (bq_ BK125)) Try.underlying82 rfl (by kernel_rfl)) rfl ?_
  exact fi_

/-! ### wide_Small: function 56 -/
def wide_Small.f (a0_0 : Int) (a0_1 : Int) : Option (Int × Int) := if a0_0 = 0 then (some (a0_1, 0)) else (some (0, 16))
set_option maxHeartbeats 8000000 in
set_option maxRecDepth 100000 in
theorem wide_Small.calls (a0_0 : Int) (a0_1 : Int) (r1 : Int) (r2 : Int) (w : World) (h : wide_Small.f a0_0 a0_1 = some (r1, r2)) :
  Calls Try.prog 56 #[.agg #[.int .u64 a0_0, .int .u64 a0_1]] w fun e w' => e = .returned (.tuple #[.int .u64 r1, .int .i64 r2]) ∧ Below w.heap.size w w' := by
 have hu82 := Try.underlying82
 have HB := Aside0.mk (Below.refl w.heap.size w)
 have H : (if a0_0 = 0 then (some (a0_1, 0)) else (some (0, 16))) = some (r1, r2) := h
 clear h
 by_cases c2 : a0_0 = 0
 ·rw [if_pos c2] at H
  have c2b0 : (a0_0 == 0) = true := beq_iff_eq.mpr c2
  have c2b1 : (a0_0 != 0) = false := bne_eq_false_iff_eq.mpr c2
  clear c2
  simp only [Option.some.injEq, Prod.mk.injEq] at H
  obtain ⟨rfl, rfl⟩ := H
  go_enter Try.func56, Try.ntmps56
  go_wp2_with (first | ((with_reducible refine gate_dst (N := 1) rfl ?_); refine bx_ #[.int .u64 a0_0, .int .u64 a0_1] 82 ?_; intro gb130 hg w3 BK130 hb; have GW130 := bz_ w hg; have GE130 := GW130; replace HB := bs_ w hb; clear hb hg; replace hc130 := ce2_ BK130))
  go_ret2
  exact fi_
 ·rw [if_neg c2] at H
  have c2b0 : (a0_0 == 0) = false := beq_eq_false_iff_ne.mpr c2
  have c2b1 : (a0_0 != 0) = true := bne_iff_ne.mpr c2
  simp only [Option.some.injEq, Prod.mk.injEq] at H
  obtain ⟨rfl, rfl⟩ := H
  go_enter Try.func56, Try.ntmps56
  go_wp2_with (first | ((with_reducible refine gate_dst (N := 1) rfl ?_); refine bx_ #[.int .u64 a0_0, .int .u64 a0_1] 82 ?_; intro gb130 hg w5 BK130 hb; have GW130 := bz_ w hg; have GE130 := GW130; replace HB := bs_ w hb; clear hb hg; replace hc130 := ce2_ BK130))
  go_ret2
  exact fi_

end Go.Proofs.Ytbfdpodlnijeoaa.X
