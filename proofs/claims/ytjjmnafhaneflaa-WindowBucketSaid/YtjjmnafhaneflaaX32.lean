-- written by xprint.py, a program of this session over the kit's print
import Derived.Test.YtjjmnafhaneflaaX0
import Derived.Test.YtjjmnafhaneflaaX31
namespace Go.Proofs.Ytjjmnafhaneflaa.X
open Go.RowKit Go.Proofs.YtjjmnafhaneflaaW.PrintWords Go.Proofs.YtjjmnafhaneflaaW.PrintLast Go.Proofs.YtjjmnafhaneflaaW.PrintMore
attribute [local go_sem] max2_int min2_int max_two min_two max_three min_three max_four min_four   -- for this text's walks alone
set_option linter.unusedVariables false
set_option linter.unusedSimpArgs false

/-! ### wide_Div: function 53 -/
def wide_Div.f (k : Nat) (a0_0 : Int) (a0_1 : Int) (a1 : Int) : Option (Int × Int × Int × Int) := if a1 = 0 then (some (0, 0, 0, 26)) else ((bits_Div64.f k 0 a0_0 a1).bind fun bt471 => ((bits_Div64.f k bt471.2 a0_1 a1).bind fun bt473 => (some (bt471.1, bt473.1, bt473.2, 0))))
theorem wide_Div.mono : ∀ a0 a1 a2 k, LeO (wide_Div.f k a0 a1 a2) (wide_Div.f (k + 1) a0 a1 a2) := by
  intro a0 a1 a2 k
  unfold wide_Div.f
  repeat' first
      | (with_reducible exact bits_Div64.mono _ _ _ _)
      | (with_reducible exact LeO.refl _)
      | (with_reducible exact LeO.none _)
      | (with_reducible refine LeO.ite ?_ ?_)
      | (with_reducible refine LeO.bind ?_ (fun _ => ?_))
      | exact bits_Div64.mono _ _ _ _
      | exact LeO.none _
      | refine LeO.ite ?_ ?_
      | refine LeO.bind ?_ (fun _ => ?_)
set_option maxHeartbeats 8000000 in
set_option maxRecDepth 100000 in
theorem wide_Div.calls (k : Nat) (a0_0 : Int) (a0_1 : Int) (a1 : Int) (r1 : Int) (r2 : Int) (r3 : Int) (r4 : Int) (w : World) (h : wide_Div.f k a0_0 a0_1 a1 = some (r1, r2, r3, r4)) :
  Calls Try.prog 53 #[.agg #[.int .u64 a0_0, .int .u64 a0_1], .int .u64 a1] w fun e w' => e = .returned (.tuple #[.agg #[.int .u64 r1, .int .u64 r2], .int .u64 r3, .int .i64 r4]) ∧ Below w.heap.size w w' := by
 have hu84 := Try.underlying84
 have HB := Aside0.mk (Below.refl w.heap.size w)
 have H : (if a1 = 0 then (some (0, 0, 0, 26)) else ((bits_Div64.f k 0 a0_0 a1).bind fun bt471 => ((bits_Div64.f k bt471.2 a0_1 a1).bind fun bt473 => (some (bt471.1, bt473.1, bt473.2, 0))))) = some (r1, r2, r3, r4) := h
 clear h
 by_cases c3 : a1 = 0
 ·rw [if_pos c3] at H
  have c3b0 : (a1 == 0) = true := beq_iff_eq.mpr c3
  have c3b1 : (a1 != 0) = false := bne_eq_false_iff_eq.mpr c3
  clear c3
  simp only [Option.some.injEq, Prod.mk.injEq] at H
  obtain ⟨rfl, rfl, rfl, rfl⟩ := H
  go_enter Try.func53, Try.ntmps53
  go_wp2_with (first | ((with_reducible refine gate_dst (N := 2) rfl ?_); refine bx_ #[.int .u64 a0_0, .int .u64 a0_1] 84 ?_; intro gb469 hg w4 BK469 hb; have GW469 := bz_ w hg; have GE469 := GW469; replace HB := bs_ w hb; clear hb hg) | ((with_reducible refine gate_dst (N := 4) rfl ?_); refine bx_ #[.int .u64 0, .int .u64 0] 84 ?_; intro gb470 hg w5 BK470 hb; have GW470 := bz_ w hg; have GE470 := GW470; have NB469_470 := bn_ BK469 hg; have NB470_469 := bm_ BK469 hg; replace BK469 := bb_ BK469 hb; replace HB := bs_ w hb; clear hb hg; replace hn470_469 := NB470_469.out; replace hn469_470 := NB469_470.out; replace hc470 := ce2_ BK470))
  refine bodyPost_ret (results_ctt rfl _ _ gb470 84 #[.int .u64 0, .int .u64 0] (0, 0) _ rfl (bp2_ (bq_ BK470)) Try.underlying84 rfl (by kernel_rfl)) rfl ?_
  exact fi_
 ·rw [if_neg c3] at H
  have c3b0 : (a1 == 0) = false := beq_eq_false_iff_ne.mpr c3
  have c3b1 : (a1 != 0) = true := bne_iff_ne.mpr c3
  obtain ⟨⟨t471, t472⟩, A8, H⟩ := bo_ H
  replace H : ((bits_Div64.f k t472 a0_1 a1).bind fun bt473 => (some (t471, bt473.1, bt473.2, 0))) = some (r1, r2, r3, r4) := H
  obtain ⟨⟨t473, t474⟩, A9, H⟩ := bo_ H
  replace H : (some (t471, t473, t474, 0)) = some (r1, r2, r3, r4) := H
  simp only [Option.some.injEq, Prod.mk.injEq] at H
  obtain ⟨rfl, rfl, rfl, rfl⟩ := H
  go_enter Try.func53, Try.ntmps53
  go_wp2_with (first | ((with_reducible refine gate_dst (N := 2) rfl ?_); refine bx_ #[.int .u64 a0_0, .int .u64 a0_1] 84 ?_; intro gb469 hg w10 BK469 hb; have GW469 := bz_ w hg; have GE469 := GW469; replace HB := bs_ w hb; clear hb hg) | ((with_reducible refine gate_dst (N := 4) rfl ?_); refine bx_ #[.int .u64 0, .int .u64 0] 84 ?_; intro gb470 hg w11 BK470 hb; have GW470 := bz_ w hg; have GE470 := GW470; have NB469_470 := bn_ BK469 hg; have NB470_469 := bm_ BK469 hg; replace BK469 := bb_ BK469 hb; replace HB := bs_ w hb; clear hb hg; replace hn469_470 := NB469_470.out; replace hn470_469 := NB470_469.out; replace hc469 := ce2_ BK469) | ((with_reducible refine gate_callee (f := 57) rfl ?_); refine goesA_ (some 17) Try.func57 #[.int .u64 0, .int .u64 a0_0, .int .u64 a1] ?_; (with_reducible refine (bits_Div64.calls k 0 a0_0 a1 t471 t472 _ A8.out).mono ?_); rintro e w' ⟨rfl, ⟨nd, rfl⟩⟩; refine ⟨_, rfl, ?_⟩; (try ((first | generalize hq_ : World.drewN w11 _ = w11 | (rw [drewN_self w11]; generalize hq_ : World.drewN w11 _ = w11)); replace BK469 : Aside0 (w11.heap[gb469]? = some (.cells #[.int .u64 a0_0, .int .u64 a0_1] 84 (0, 0))) := ⟨by rw [← hq_]; exact (bq_ BK469)⟩; replace BK470 : Aside0 (w11.heap[gb470]? = some (.cells #[.int .u64 0, .int .u64 0] 84 (0, 0))) := ⟨by rw [← hq_]; exact (bq_ BK470)⟩; replace HB : Aside0 (Below w.heap.size w w11) := ⟨by rw [← hq_]; exact bh_⟩; clear hq_)); replace hc469 := ce2_ BK469) | ((with_reducible refine gate_callee (f := 57) rfl ?_); refine goesA_ (some 25) Try.func57 #[.int .u64 t472, .int .u64 a0_1, .int .u64 a1] ?_; (with_reducible refine (bits_Div64.calls k t472 a0_1 a1 t473 t474 _ A9.out).mono ?_); rintro e w' ⟨rfl, ⟨nd, rfl⟩⟩; refine ⟨_, rfl, ?_⟩; (try ((first | generalize hq_ : World.drewN w11 _ = w11 | (rw [drewN_self w11]; generalize hq_ : World.drewN w11 _ = w11)); replace BK469 : Aside0 (w11.heap[gb469]? = some (.cells #[.int .u64 a0_0, .int .u64 a0_1] 84 (0, 0))) := ⟨by rw [← hq_]; exact (bq_ BK469)⟩; replace BK470 : Aside0 (w11.heap[gb470]? = some (.cells #[.int .u64 0, .int .u64 0] 84 (0, 0))) := ⟨by rw [← hq_]; exact (bq_ BK470)⟩; replace HB : Aside0 (Below w.heap.size w w11) := ⟨by rw [← hq_]; exact bh_⟩; clear hq_)); replace hc470 := ce2_ BK470))
  refine bodyPost_ret (results_ctt rfl _ _ gb470 84 #[.int .u64 t471, .int .u64 t473] (0, 0) _ rfl (bp2_ (bq_ BK470)) Try.underlying84 rfl (by kernel_rfl)) rfl ?_
  exact fi_

/-! ### wide_Small: function 54 -/
def wide_Small.f (a0_0 : Int) (a0_1 : Int) : Option (Int × Int) := if a0_0 = 0 then (some (a0_1, 0)) else (some (0, 16))
set_option maxHeartbeats 8000000 in
set_option maxRecDepth 100000 in
theorem wide_Small.calls (a0_0 : Int) (a0_1 : Int) (r1 : Int) (r2 : Int) (w : World) (h : wide_Small.f a0_0 a0_1 = some (r1, r2)) :
  Calls Try.prog 54 #[.agg #[.int .u64 a0_0, .int .u64 a0_1]] w fun e w' => e = .returned (.tuple #[.int .u64 r1, .int .i64 r2]) ∧ Below w.heap.size w w' := by
 have hu84 := Try.underlying84
 have HB := Aside0.mk (Below.refl w.heap.size w)
 have H : (if a0_0 = 0 then (some (a0_1, 0)) else (some (0, 16))) = some (r1, r2) := h
 clear h
 by_cases c2 : a0_0 = 0
 ·rw [if_pos c2] at H
  have c2b0 : (a0_0 == 0) = true := beq_iff_eq.mpr c2
  have c2b1 : (a0_0 != 0) = false := bne_eq_false_iff_eq.mpr c2
  clear c2
  simp only [Option.some.injEq, Prod.mk.injEq] at H
  obtain ⟨rfl, rfl⟩ := H
  go_enter Try.func54, Try.ntmps54
  go_wp2_with (first | ((with_reducible refine gate_dst (N := 1) rfl ?_); refine bx_ #[.int .u64 a0_0, .int .u64 a0_1] 84 ?_; intro gb475 hg w3 BK475 hb; have GW475 := bz_ w hg; have GE475 := GW475; replace HB := bs_ w hb; clear hb hg; replace hc475 := ce2_ BK475))
  go_ret2
  exact fi_
 ·rw [if_neg c2] at H
  have c2b0 : (a0_0 == 0) = false := beq_eq_false_iff_ne.mpr c2
  have c2b1 : (a0_0 != 0) = true := bne_iff_ne.mpr c2
  simp only [Option.some.injEq, Prod.mk.injEq] at H
  obtain ⟨rfl, rfl⟩ := H
  go_enter Try.func54, Try.ntmps54
  go_wp2_with (first | ((with_reducible refine gate_dst (N := 1) rfl ?_); refine bx_ #[.int .u64 a0_0, .int .u64 a0_1] 84 ?_; intro gb475 hg w5 BK475 hb; have GW475 := bz_ w hg; have GE475 := GW475; replace HB := bs_ w hb; clear hb hg; replace hc475 := ce2_ BK475))
  go_ret2
  exact fi_

end Go.Proofs.Ytjjmnafhaneflaa.X
