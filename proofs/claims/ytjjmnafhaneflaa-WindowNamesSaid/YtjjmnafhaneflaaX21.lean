-- written by xprint.py, a program of this session over the kit's print
import Derived.Test.YtjjmnafhaneflaaX0
import Derived.Test.YtjjmnafhaneflaaX6
import Derived.Test.YtjjmnafhaneflaaX18
namespace Go.Proofs.Ytjjmnafhaneflaa.X
open Go.RowKit Go.Proofs.YtjjmnafhaneflaaW.PrintWords Go.Proofs.YtjjmnafhaneflaaW.PrintLast Go.Proofs.YtjjmnafhaneflaaW.PrintMore
attribute [local go_sem] max2_int min2_int max_two min_two max_three min_three max_four min_four   -- for this text's walks alone
set_option linter.unusedVariables false
set_option linter.unusedSimpArgs false

/-! ### window_Slide: function 17 -/
set_option maxHeartbeats 2000000 in
theorem window_Slide.lit (x t cap span : Int) (g : Nat) (w : World) (h0 : w.cell? ⟨g, 0, none⟩ = some (.int .i64 cap)) (h1 : w.cell? ⟨g, 1, none⟩ = some (.int .i64 span)) :
  Calls Try.prog 38 #[.int .u64 x, .int .u64 t, .pointer (some ⟨g, 0, none⟩)] w fun e w' => e = .returned (.bool (decide (IntKind.u64.wrap (x - t) < IntKind.u64.wrap span))) ∧ w' = w := by
  have hu := Try.underlying23
  go_enter Try.func38, Try.ntmps38
  go_wp2
  go_ret
  exact ⟨rfl, rfl⟩
theorem window_Slide.own {a0_0 a0_1 : Int} {l1 : List S58} (gw : Nat) (w : World) (h0 : w.cell? ⟨gw, 0, none⟩ = some (.int .i64 a0_0)) (h1 : w.cell? ⟨gw, 1, none⟩ = some (.int .i64 a0_1)) (OK : 1 ≤ a0_0 ∧ a0_0 ≤ 1000000000 ∧ 1 ≤ a0_1 ∧ a0_1 ≤ 1000000000 ∧ l1.length ≤ 1000 ∧ okB l1 0 = true) {i : Nat} (hi : i < l1.length) {y : S58} (hy : y ∈ l1.take i) :
  Calls Try.prog 38 (#[.int .u64 l1[i].f0, .int .u64 y.f0] ++ #[.pointer (some ⟨gw, 0, none⟩)]) w fun e w'' => e = .returned (.bool (inS a0_1 l1[i].f0 y.f0)) ∧ Below w.heap.size w w'' := by
  obtain ⟨s1, s2⟩ := okB_spec OK.2.2.2.2.2
  have b1 := s1 _ (List.getElem_mem hi)
  have b2 := s1 y (List.mem_of_mem_take hy)
  have b3 := s2 i hi y hy
  have e : decide (IntKind.u64.wrap (l1[i].f0 - y.f0) < IntKind.u64.wrap a0_1) = inS a0_1 l1[i].f0 y.f0 := by
    rw [wrapU (by omega) (by omega), wrapU (by omega) (by omega)]
    rfl
  refine (window_Slide.lit l1[i].f0 y.f0 a0_0 a0_1 gw w h0 h1).mono fun e' w' ⟨h, hw⟩ => ?_
  subst hw
  exact ⟨by rw [h, e], Below.refl _ _⟩
def window_Slide.f (k : Nat) (a0_0 : Int) (a0_1 : Int) (l1 : List (S58)) : Option (List (S58) × Int) := (window_both.f k a0_0 a0_1 l1).bind fun e => if e = 0 then (if okW a0_0 a0_1 l1 = true then some (adm a0_0 (inS a0_1) l1 [], 0) else none) else some (([] : List (S58)), e)
theorem window_Slide.mono : ∀ a0 a1 a2 k, LeO (window_Slide.f k a0 a1 a2) (window_Slide.f (k + 1) a0 a1 a2) := by
  intro a0 a1 a2 k
  unfold window_Slide.f
  exact LeO.bind (window_both.mono _ _ _ _) (fun _ => LeO.refl _)
set_option maxHeartbeats 8000000 in
set_option maxRecDepth 100000 in
theorem window_Slide.calls (k : Nat) (a0_0 : Int) (a0_1 : Int) (A1 : Option Addr) (c1 : Nat) (l1 : List (S58)) (r1 : List (S58)) (r2 : Int) (w : World) (hr1 : Kd.C k58 w A1 l1.length l1) (hc1 : l1.length ≤ c1) (h : window_Slide.f k a0_0 a0_1 l1 = some (r1, r2)) :
  Calls Try.prog 17 #[.agg #[.int .i64 a0_0, .int .i64 a0_1], .slice A1 l1.length c1] w fun e w' => ∃ v0_ : Value, e = .returned (.tuple #[v0_, .int .i64 r2]) ∧ Kd.R k58 58 w' w.heap.size (fun _ => True) v0_ r1 ∧ Below w.heap.size w w' := by
 have hu1 := Try.underlying23
 have hu2 := Try.underlying58
 have HR1 := Aside0.mk hr1
 have HC1 := Aside0.mk hc1
 clear hr1 hc1
 have HB := Aside0.mk (Below.refl w.heap.size w)
 unfold window_Slide.f at h
 obtain ⟨t, A3, H⟩ := bo_ h
 clear h
 by_cases c4 : t = 0
 ·rw [if_pos c4] at H
  by_cases c5 : okW a0_0 a0_1 l1 = true
  ·rw [if_pos c5] at H
   simp only [Option.some.injEq, Prod.mk.injEq] at H
   obtain ⟨rfl, rfl⟩ := H
   have c4b0 : (t == 0) = true := beq_iff_eq.mpr c4
   have c4b1 : (t != 0) = false := bne_eq_false_iff_eq.mpr c4
   clear c4
   have OK := Aside0.mk (okW_spec c5)
   clear c5
   go_enter Try.func17, Try.ntmps17
   go_wp2_with (first | ((with_reducible refine gate_dst (N := 2) rfl ?_); refine bx_ #[.int .i64 a0_0, .int .i64 a0_1] 23 ?_; intro gw hg w5 BKw hb; have GWw := bz_ w hg; replace HB := bs_ w hb; clear hb hg; replace hcw := ce2_ BKw) | ((with_reducible refine gate_callee (f := 29) rfl ?_); refine goesA_ (some 9) Try.func29 #[.agg #[.int .i64 a0_0, .int .i64 a0_1], .slice A1 l1.length c1] ?_; (with_reducible refine (window_both.calls k a0_0 a0_1 _ _ l1 t _ ?side1 ?side2 A3.out).mono ?_); (case side1 => exact cs_ HR1 HB); (case side2 => exact HC1.out); rintro e w7 ⟨rfl, hb⟩; refine ⟨_, rfl, ?_⟩; replace BKw := bb_ BKw hb; replace HB := bs_ w hb; clear hb; replace hcw := ce2_ BKw) | ((with_reducible refine gate_callee (f := 36) rfl ?_); refine goesA_ (some 16) Try.func36 #[.agg #[.int .i64 a0_0, .int .i64 a0_1], .slice A1 l1.length c1, .func (.func 38) #[] #[.pointer (some ⟨gw, 0, none⟩)]] ?_; (refine (window_admitted.run (inS a0_1) 38 Try.f38 #[.pointer (some ⟨gw, 0, none⟩)] Try.func38 (by kernel_rfl) rfl a0_0 a0_1 _ _ l1 _ ?side3 OK.out.2.2.2.2.1 (fun x hx => ((okB_spec OK.out.2.2.2.2.2).1 x hx).2.2) ?side4).mono ?_); (case side3 => exact cs_ HR1 HB); (case side4 => exact fun w' i hi y hy hb => window_Slide.own gw w' ((blk_cell (bb_ BKw hb).out 0).trans rfl) ((blk_cell (bb_ BKw hb).out 1).trans rfl) OK.out hi hy); rintro e w8 ⟨v8, rfl, ho, hb⟩; refine ⟨_, rfl, ?_⟩; have HO := Aside0.mk (Kd.R_lower ho (below_size HB.out)); replace HB := bs_ w hb; clear ho hb))
   go_ret2
   exact ⟨_, rfl, rs_ HO, bh_⟩
  ·rw [if_neg c5] at H; exact absurd H (by simp)
 ·rw [if_neg c4] at H
  simp only [Option.some.injEq, Prod.mk.injEq] at H
  obtain ⟨rfl, rfl⟩ := H
  have c4b0 : (t == 0) = false := beq_eq_false_iff_ne.mpr c4
  have c4b1 : (t != 0) = true := bne_iff_ne.mpr c4
  clear c4
  go_enter Try.func17, Try.ntmps17
  go_wp2_with (first | ((with_reducible refine gate_dst (N := 2) rfl ?_); refine bx_ #[.int .i64 a0_0, .int .i64 a0_1] 23 ?_; intro gw hg w5 BKw hb; have GWw := bz_ w hg; replace HB := bs_ w hb; clear hb hg; replace hcw := ce2_ BKw) | ((with_reducible refine gate_callee (f := 29) rfl ?_); refine goesA_ (some 9) Try.func29 #[.agg #[.int .i64 a0_0, .int .i64 a0_1], .slice A1 l1.length c1] ?_; (with_reducible refine (window_both.calls k a0_0 a0_1 _ _ l1 t _ ?side1 ?side2 A3.out).mono ?_); (case side1 => exact cs_ HR1 HB); (case side2 => exact HC1.out); rintro e w7 ⟨rfl, hb⟩; refine ⟨_, rfl, ?_⟩; replace BKw := bb_ BKw hb; replace HB := bs_ w hb; clear hb; replace hcw := ce2_ BKw))
  go_ret2
  exact ⟨_, rfl, Kd.R_nil _ _ _ _ _, bh_⟩

end Go.Proofs.Ytjjmnafhaneflaa.X
