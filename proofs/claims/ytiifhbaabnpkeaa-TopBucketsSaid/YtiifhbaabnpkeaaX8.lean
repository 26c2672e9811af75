-- written by xprint.py, a program of this session over the kit's print
import Derived.Test.YtiifhbaabnpkeaaX0
import Derived.Test.YtiifhbaabnpkeaaX7
namespace Go.Proofs.Ytiifhbaabnpkeaa.X
open Go.RowKit Go.Proofs.YtiifhbaabnpkeaaW.PrintWords Go.Proofs.YtiifhbaabnpkeaaW.PrintLast Go.Proofs.YtiifhbaabnpkeaaW.PrintMore
attribute [local go_sem] max2_int min2_int max_two min_two max_three min_three max_four min_four   -- for this text's walks alone
set_option linter.unusedVariables false
set_option linter.unusedSimpArgs false

/-! ### wide_Div: function 52 -/
def wide_Div.f (k : Nat) (a0_0 : Int) (a0_1 : Int) (a1 : Int) : Option (Int × Int × Int × Int) := if a1 = 0 then (some (0, 0, 0, 26)) else ((bits_Div64.f k 0 a0_0 a1).bind fun bt136 => ((bits_Div64.f k bt136.2 a0_1 a1).bind fun bt138 => (some (bt136.1, bt138.1, bt138.2, 0))))
theorem wide_Div.mono : ∀ a0 a1 a2 k, LeO (wide_Div.f k a0 a1 a2) (wide_Div.f (k + 1) a0 a1 a2) := by
  intro a0 a1 a2 k
  unfold wide_Div.f
  repeat' first
      | (with_reducible exact bits_Div64.mono _ _ _ _)
      | (with_reducible exact LeO.refl _)
      | (with_reducible exact LeO.none _)
      | (with_reducible refine LeO.ite ?_ ?_)
      | (with_reducible refine LeO.bind ?_ (fun _ => ?_))
      | exact bits_Div64.mono _ _ _ _
      | exact LeO.none _
      | refine LeO.ite ?_ ?_
      | refine LeO.bind ?_ (fun _ => ?_)
set_option maxHeartbeats 8000000 in
set_option maxRecDepth 100000 in
theorem wide_Div.calls (k : Nat) (a0_0 : Int) (a0_1 : Int) (a1 : Int) (r1 : Int) (r2 : Int) (r3 : Int) (r4 : Int) (w : World) (h : wide_Div.f k a0_0 a0_1 a1 = some (r1, r2, r3, r4)) :
  Calls Try.prog 52 #[.agg #[.int .u64 a0_0, .int .u64 a0_1], .int .u64 a1] w fun e w' => e = .returned (.tuple #[.agg #[.int .u64 r1, .int .u64 r2], .int .u64 r3, .int .i64 r4]) ∧ Below w.heap.size w w' := by
 have hu59 := Try.underlying59
 have HB := Aside0.mk (Below.refl w.heap.size w)
 have H : (if a1 = 0 then (some (0, 0, 0, 26)) else ((bits_Div64.f k 0 a0_0 a1).bind fun bt136 => ((bits_Div64.f k bt136.2 a0_1 a1).bind fun bt138 => (some (bt136.1, bt138.1, bt138.2, 0))))) = some (r1, r2, r3, r4) := h
 clear h
 by_cases c3 : a1 = 0
 ·rw [if_pos c3] at H
  have c3b0 : (a1 == 0) = true := beq_iff_eq.mpr c3
  have c3b1 : (a1 != 0) = false := bne_eq_false_iff_eq.mpr c3
  clear c3
  simp only [Option.some.injEq, Prod.mk.injEq] at H
  obtain ⟨rfl, rfl, rfl, rfl⟩ := H
  go_enter Try.func52, Try.ntmps52
  go_wp2_with (first | ((with_reducible refine gate_dst (N := 2) rfl ?_); refine bx_ #[.int .u64 a0_0, .int .u64 a0_1] 59 ?_; intro gb134 hg w4 BK134 hb; have GW134 := bz_ w hg; have GE134 := GW134; replace HB := bs_ w hb; clear hb hg) | ((with_reducible refine gate_dst (N := 4) rfl ?_); refine bx_ #[.int .u64 0, .int .u64 0] 59 ?_; intro gb135 hg w5 BK135 hb; have GW135 := bz_ w hg; have GE135 := GW135; have NB134_135 := bn_ BK134 hg; have NB135_134 := bm_ BK134 hg; replace BK134 := bb_ BK134 hb; replace HB := bs_ w hb; clear hb hg; replace hn135_134 := NB135_134.out; replace hn134_135 := NB134_135.out; replace hc135 := ce2_ BK135))
  refine bodyPost_ret (results_ctt rfl _ _ gb135 59 #[.int .u64 0, .int .u64 0] (0, 0) _ rfl (bp2_ (bq_ BK135)) Try.underlying59 rfl (by kernel_rfl)) rfl ?_
  exact fi_
 ·rw [if_neg c3] at H
  have c3b0 : (a1 == 0) = false := beq_eq_false_iff_ne.mpr c3
  have c3b1 : (a1 != 0) = true := bne_iff_ne.mpr c3
  have H0_ := bo_ H; clear H; obtain ⟨⟨t136, t137⟩, A8, H⟩ := H0_
  replace H : ((bits_Div64.f k t137 a0_1 a1).bind fun bt138 => (some (t136, bt138.1, bt138.2, 0))) = some (r1, r2, r3, r4) := H
  have H0_ := bo_ H; clear H; obtain ⟨⟨t138, t139⟩, A9, H⟩ := H0_
  replace H : (some (t136, t138, t139, 0)) = some (r1, r2, r3, r4) := H
  simp only [Option.some.injEq, Prod.mk.injEq] at H
  obtain ⟨rfl, rfl, rfl, rfl⟩ := H
  go_enter Try.func52, Try.ntmps52
  go_wp2_with (first | ((with_reducible refine gate_dst (N := 2) rfl ?_); refine bx_ #[.int .u64 a0_0, .int .u64 a0_1] 59 ?_; intro gb134 hg w10 BK134 hb; have GW134 := bz_ w hg; have GE134 := GW134; replace HB := bs_ w hb; clear hb hg) | ((with_reducible refine gate_dst (N := 4) rfl ?_); refine bx_ #[.int .u64 0, .int .u64 0] 59 ?_; intro gb135 hg w11 BK135 hb; have GW135 := bz_ w hg; have GE135 := GW135; have NB134_135 := bn_ BK134 hg; have NB135_134 := bm_ BK134 hg; replace BK134 := bb_ BK134 hb; replace HB := bs_ w hb; clear hb hg; replace hn134_135 := NB134_135.out; replace hn135_134 := NB135_134.out; replace hc134 := ce2_ BK134) | ((with_reducible refine gate_callee (f := 53) rfl ?_); refine goesA_ (some 17) Try.func53 #[.int .u64 0, .int .u64 a0_0, .int .u64 a1] ?_; (with_reducible refine (bits_Div64.calls k 0 a0_0 a1 t136 t137 _ A8.out).mono ?_); rintro e w' ⟨rfl, ⟨nd, rfl⟩⟩; refine ⟨_, rfl, ?_⟩; (try ((first | generalize hq_ : World.drewN w11 _ = w11 | (rw [drewN_self w11]; generalize hq_ : World.drewN w11 _ = w11)); replace BK134 : Aside0 (w11.heap[gb134]? = some (.cells #[.int .u64 a0_0, .int .u64 a0_1] 59 (0, 0))) := ⟨by rw [← hq_]; exact (bq_ BK134)⟩; replace BK135 : Aside0 (w11.heap[gb135]? = some (.cells #[.int .u64 0, .int .u64 0] 59 (0, 0))) := ⟨by rw [← hq_]; exact (bq_ BK135)⟩; replace HB : Aside0 (Below w.heap.size w w11) := ⟨by rw [← hq_]; exact bh_⟩; clear hq_)); replace hc134 := ce2_ BK134) | ((with_reducible refine gate_callee (f := 53) rfl ?_); refine goesA_ (some 25) Try.func53 #[.int .u64 t137, .int .u64 a0_1, .int .u64 a1] ?_; (with_reducible refine (bits_Div64.calls k t137 a0_1 a1 t138 t139 _ A9.out).mono ?_); rintro e w' ⟨rfl, ⟨nd, rfl⟩⟩; refine ⟨_, rfl, ?_⟩; (try ((first | generalize hq_ : World.drewN w11 _ = w11 | (rw [drewN_self w11]; generalize hq_ : World.drewN w11 _ = w11)); replace BK134 : Aside0 (w11.heap[gb134]? = some (.cells #[.int .u64 a0_0, .int .u64 a0_1] 59 (0, 0))) := ⟨by rw [← hq_]; exact (bq_ BK134)⟩; replace BK135 : Aside0 (w11.heap[gb135]? = some (.cells #[.int .u64 0, .int .u64 0] 59 (0, 0))) := ⟨by rw [← hq_]; exact (bq_ BK135)⟩; replace HB : Aside0 (Below w.heap.size w w11) := ⟨by rw [← hq_]; exact bh_⟩; clear hq_)); replace hc135 := ce2_ BK135))
  refine bodyPost_ret (results_ctt rfl _ _ gb135 59 #[.int .u64 t136, .int .u64 t138] (0, 0) _ rfl (bp2_ (bq_ BK135)) Try.underlying59 rfl (by kernel_rfl)) rfl ?_
  exact fi_

end Go.Proofs.Ytiifhbaabnpkeaa.X
