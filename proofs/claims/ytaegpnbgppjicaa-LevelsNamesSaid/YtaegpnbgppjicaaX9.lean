-- written by xprint.py, a program of this session over the kit's print
import Derived.Test.YtaegpnbgppjicaaX0
import Derived.Test.YtaegpnbgppjicaaX8
namespace Go.Proofs.Ytaegpnbgppjicaa.X
open Go.RowKit Go.Proofs.YtaegpnbgppjicaaW.PrintWords Go.Proofs.YtaegpnbgppjicaaW.PrintLast Go.Proofs.YtaegpnbgppjicaaW.PrintMore
attribute [local go_sem] max2_int min2_int max_two min_two max_three min_three max_four min_four   -- for this text's walks alone
set_option linter.unusedVariables false
set_option linter.unusedSimpArgs false

/-! ### wide_Div: function 59 -/
def wide_Div.f (k : Nat) (a0_0 : Int) (a0_1 : Int) (a1 : Int) : Option (Int × Int × Int × Int) := if a1 = 0 then (some (0, 0, 0, 26)) else ((bits_Div64.f k 0 a0_0 a1).bind fun bt132 => ((bits_Div64.f k bt132.2 a0_1 a1).bind fun bt134 => (some (bt132.1, bt134.1, bt134.2, 0))))
theorem wide_Div.mono : ∀ a0 a1 a2 k, LeO (wide_Div.f k a0 a1 a2) (wide_Div.f (k + 1) a0 a1 a2) := by
  intro a0 a1 a2 k
  unfold wide_Div.f
  repeat' first
      | (with_reducible exact bits_Div64.mono _ _ _ _)
      | (with_reducible exact LeO.refl _)
      | (with_reducible exact LeO.none _)
      | (with_reducible refine LeO.ite ?_ ?_)
      | (with_reducible refine LeO.bind ?_ (fun _ => ?_))
      | exact bits_Div64.mono _ _ _ _
      | exact LeO.none _
      | refine LeO.ite ?_ ?_
      | refine LeO.bind ?_ (fun _ => ?_)
set_option maxHeartbeats 8000000 in
set_option maxRecDepth 100000 in
theorem wide_Div.calls (k : Nat) (a0_0 : Int) (a0_1 : Int) (a1 : Int) (r1 : Int) (r2 : Int) (r3 : Int) (r4 : Int) (w : World) (h : wide_Div.f k a0_0 a0_1 a1 = some (r1, r2, r3, r4)) :
  Calls Try.prog 59 #[.agg #[.int .u64 a0_0, .int .u64 a0_1], .int .u64 a1] w fun e w' => e = .returned (.tuple #[.agg #[.int .u64 r1, .int .u64 r2], .int .u64 r3, .int .i64 r4]) ∧ Below w.heap.size w w' := by
 have hu83 := Try.underlying83
 have HB := Aside0.mk (Below.refl w.heap.size w)
 have H : (if a1 = 0 then (some (0, 0, 0, 26)) else ((bits_Div64.f k 0 a0_0 a1).bind fun bt132 => ((bits_Div64.f k bt132.2 a0_1 a1).bind fun bt134 => (some (bt132.1, bt134.1, bt134.2, 0))))) = some (r1, r2, r3, r4) := h
 clear h
 by_cases c3 : a1 = 0
 ·rw [if_pos c3] at H
  have c3b0 : (a1 == 0) = true := beq_iff_eq.mpr c3
  have c3b1 : (a1 != 0) = false := bne_eq_false_iff_eq.mpr c3
  clear c3
  simp only [Option.some.injEq, Prod.mk.injEq] at H
  obtain ⟨rfl, rfl, rfl, rfl⟩ := H
  go_enter Try.func59, Try.ntmps59
  go_wp2_with (first | ((with_reducible refine gate_dst (N := 2) rfl ?_); refine bx_ #[.int .u64 a0_0, .int .u64 a0_1] 83 ?_; intro gb130 hg w4 BK130 hb; have GW130 := bz_ w hg; have GE130 := GW130; replace HB := bs_ w hb; clear hb hg) | ((with_reducible refine gate_dst (N := 4) rfl ?_); refine bx_ #[.int .u64 0, .int .u64 0] 83 ?_; intro gb131 hg w5 BK131 hb; have GW131 := bz_ w hg; have GE131 := GW131; have NB130_131 := bn_ BK130 hg; have NB131_130 := bm_ BK130 hg; replace BK130 := bb_ BK130 hb; replace HB := bs_ w hb; clear hb hg; replace hn131_130 := NB131_130.out; replace hn130_131 := NB130_131.out; replace hc131 := ce2_ BK131))
  refine bodyPost_ret (results_ctt rfl _ _ gb131 83 #[.int .u64 0, .int .u64 0] (0, 0) _ rfl (bp2_ (bq_ BK131)) Try.underlying83 rfl (by kernel_rfl)) rfl ?_
  exact fi_
 ·rw [if_neg c3] at H
  have c3b0 : (a1 == 0) = false := beq_eq_false_iff_ne.mpr c3
  have c3b1 : (a1 != 0) = true := bne_iff_ne.mpr c3
  have H0_ := bo_ H; clear H; obtain ⟨⟨t132, t133⟩, A8, H⟩ := H0_
  replace H : ((bits_Div64.f k t133 a0_1 a1).bind fun bt134 => (some (t132, bt134.1, bt134.2, 0))) = some (r1, r2, r3, r4) := H
  have H0_ := bo_ H; clear H; obtain ⟨⟨t134, t135⟩, A9, H⟩ := H0_
  replace H : (some (t132, t134, t135, 0)) = some (r1, r2, r3, r4) := H
  simp only [Option.some.injEq, Prod.mk.injEq] at H
  obtain ⟨rfl, rfl, rfl, rfl⟩ := H
  go_enter Try.func59, Try.ntmps59
  go_wp2_with (first | ((with_reducible refine gate_dst (N := 2) rfl ?_); refine bx_ #[.int .u64 a0_0, .int .u64 a0_1] 83 ?_; intro gb130 hg w10 BK130 hb; have GW130 := bz_ w hg; have GE130 := GW130; replace HB := bs_ w hb; clear hb hg) | ((with_reducible refine gate_dst (N := 4) rfl ?_); refine bx_ #[.int .u64 0, .int .u64 0] 83 ?_; intro gb131 hg w11 BK131 hb; have GW131 := bz_ w hg; have GE131 := GW131; have NB130_131 := bn_ BK130 hg; have NB131_130 := bm_ BK130 hg; replace BK130 := bb_ BK130 hb; replace HB := bs_ w hb; clear hb hg; replace hn130_131 := NB130_131.out; replace hn131_130 := NB131_130.out; replace hc130 := ce2_ BK130) | ((with_reducible refine gate_callee (f := 69) rfl ?_); refine goesA_ (some 17) Try.func69 #[.int .u64 0, .int .u64 a0_0, .int .u64 a1] ?_; (with_reducible refine (bits_Div64.calls k 0 a0_0 a1 t132 t133 _ A8.out).mono ?_); rintro e w' ⟨rfl, ⟨nd, rfl⟩⟩; refine ⟨_, rfl, ?_⟩; (try ((first | generalize hq_ : World.drewN w11 _ = w11 | (rw [drewN_self w11]; generalize hq_ : World.drewN w11 _ = w11)); replace BK130 : Aside0 (w11.heap[gb130]? = some (.cells #[.int .u64 a0_0, .int .u64 a0_1] 83 (0, 0))) := ⟨by rw [← hq_]; exact (bq_ BK130)⟩; replace BK131 : Aside0 (w11.heap[gb131]? = some (.cells #[.int .u64 0, .int .u64 0] 83 (0, 0))) := ⟨by rw [← hq_]; exact (bq_ BK131)⟩; replace HB : Aside0 (Below w.heap.size w w11) := ⟨by rw [← hq_]; exact bh_⟩; clear hq_)); replace hc130 := ce2_ BK130) | ((with_reducible refine gate_callee (f := 69) rfl ?_); refine goesA_ (some 25) Try.func69 #[.int .u64 t133, .int .u64 a0_1, .int .u64 a1] ?_; (with_reducible refine (bits_Div64.calls k t133 a0_1 a1 t134 t135 _ A9.out).mono ?_); rintro e w' ⟨rfl, ⟨nd, rfl⟩⟩; refine ⟨_, rfl, ?_⟩; (try ((first | generalize hq_ : World.drewN w11 _ = w11 | (rw [drewN_self w11]; generalize hq_ : World.drewN w11 _ = w11)); replace BK130 : Aside0 (w11.heap[gb130]? = some (.cells #[.int .u64 a0_0, .int .u64 a0_1] 83 (0, 0))) := ⟨by rw [← hq_]; exact (bq_ BK130)⟩; replace BK131 : Aside0 (w11.heap[gb131]? = some (.cells #[.int .u64 0, .int .u64 0] 83 (0, 0))) := ⟨by rw [← hq_]; exact (bq_ BK131)⟩; replace HB : Aside0 (Below w.heap.size w w11) := ⟨by rw [← hq_]; exact bh_⟩; clear hq_)); replace hc131 := ce2_ BK131))
  refine bodyPost_ret (results_ctt rfl _ _ gb131 83 #[.int .u64 t132, .int .u64 t134] (0, 0) _ rfl (bp2_ (bq_ BK131)) Try.underlying83 rfl (by kernel_rfl)) rfl ?_
  exact fi_

end Go.Proofs.Ytaegpnbgppjicaa.X
