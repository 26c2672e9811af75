-- written by xprint.py, a program of this session over the kit's print
import Derived.Test.YtaegpnbgppjicaaX0
import Derived.Test.YtaegpnbgppjicaaX3
import Derived.Test.YtaegpnbgppjicaaX5
import Derived.Test.YtaegpnbgppjicaaX9
namespace Go.Proofs.Ytaegpnbgppjicaa.X
open Go.RowKit Go.Proofs.YtaegpnbgppjicaaW.PrintWords Go.Proofs.YtaegpnbgppjicaaW.PrintLast Go.Proofs.YtaegpnbgppjicaaW.PrintMore
attribute [local go_sem] max2_int min2_int max_two min_two max_three min_three max_four min_four   -- for this text's walks alone
set_option linter.unusedVariables false
set_option linter.unusedSimpArgs false

/-! ### bucket_Refill: function 29 -/
def bucket_Refill.f (k : Nat) (a0_0 : Int) (a0_1 : Int) (a0_2 : Int) (a0_3 : Int) (a0_4 : Int) (a0_5 : Int) (a1 : Int) : Option (Int × Int × Int × Int × Int × Int × Int) := (bucket_Check.f a0_0 a0_1 a0_2 a0_3 a0_4 a0_5).bind fun t155 => (if t155 = 0 then ((bucket_fill.f k a0_0 a0_1 a0_2 a0_3 a0_4 a0_5 a1).bind fun bt156 => (some (bt156.1, bt156.2.1, bt156.2.2.1, bt156.2.2.2.1, bt156.2.2.2.2.1, bt156.2.2.2.2.2, 0))) else (some (0, 0, 0, 0, 0, 0, t155)))
theorem bucket_Refill.mono : ∀ a0 a1 a2 a3 a4 a5 a6 k, LeO (bucket_Refill.f k a0 a1 a2 a3 a4 a5 a6) (bucket_Refill.f (k + 1) a0 a1 a2 a3 a4 a5 a6) := by
  intro a0 a1 a2 a3 a4 a5 a6 k
  unfold bucket_Refill.f
  repeat' first
      | (with_reducible exact bucket_fill.mono _ _ _ _ _ _ _ _)
      | (with_reducible exact LeO.refl _)
      | (with_reducible exact LeO.none _)
      | (with_reducible refine LeO.ite ?_ ?_)
      | (with_reducible refine LeO.bind ?_ (fun _ => ?_))
      | exact bucket_fill.mono _ _ _ _ _ _ _ _
      | exact LeO.none _
      | refine LeO.ite ?_ ?_
      | refine LeO.bind ?_ (fun _ => ?_)
set_option maxHeartbeats 8000000 in
set_option maxRecDepth 100000 in
theorem bucket_Refill.calls (k : Nat) (a0_0 : Int) (a0_1 : Int) (a0_2 : Int) (a0_3 : Int) (a0_4 : Int) (a0_5 : Int) (a1 : Int) (r1 : Int) (r2 : Int) (r3 : Int) (r4 : Int) (r5 : Int) (r6 : Int) (r7 : Int) (w : World) (h : bucket_Refill.f k a0_0 a0_1 a0_2 a0_3 a0_4 a0_5 a1 = some (r1, r2, r3, r4, r5, r6, r7)) :
  Calls Try.prog 29 #[.agg #[.int .i64 a0_0, .int .i64 a0_1, .int .i64 a0_2, .int .i64 a0_3, .int .i64 a0_4, .int .u64 a0_5], .int .u64 a1] w fun e w' => e = .returned (.tuple #[.agg #[.int .i64 r1, .int .i64 r2, .int .i64 r3, .int .i64 r4, .int .i64 r5, .int .u64 r6], .int .i64 r7]) ∧ Below w.heap.size w w' := by
 have hu37 := Try.underlying37
 have HB := Aside0.mk (Below.refl w.heap.size w)
 have H : ((bucket_Check.f a0_0 a0_1 a0_2 a0_3 a0_4 a0_5).bind fun t155 => (if t155 = 0 then ((bucket_fill.f k a0_0 a0_1 a0_2 a0_3 a0_4 a0_5 a1).bind fun bt156 => (some (bt156.1, bt156.2.1, bt156.2.2.1, bt156.2.2.2.1, bt156.2.2.2.2.1, bt156.2.2.2.2.2, 0))) else (some (0, 0, 0, 0, 0, 0, t155)))) = some (r1, r2, r3, r4, r5, r6, r7) := h
 clear h
 replace H := Option.bind_eq_some_iff.mp H
 obtain ⟨t155, A30, H⟩ := H
 try dsimp only at H
 have A3 := Aside0.mk A30
 clear A30
 by_cases c4 : t155 = 0
 ·rw [if_pos c4] at H
  have c4b0 : (t155 == 0) = true := beq_iff_eq.mpr c4
  have c4b1 : (t155 != 0) = false := bne_eq_false_iff_eq.mpr c4
  clear c4
  replace H := Option.bind_eq_some_iff.mp H
  obtain ⟨⟨t156, t157, t158, t159, t160, t161⟩, A50, H⟩ := H
  replace H : (some (t156, t157, t158, t159, t160, t161, 0)) = some (r1, r2, r3, r4, r5, r6, r7) := H
  have A5 := Aside0.mk A50
  clear A50
  simp only [Option.some.injEq, Prod.mk.injEq] at H
  obtain ⟨rfl, rfl, rfl, rfl, rfl, rfl, rfl⟩ := H
  go_enter Try.func29, Try.ntmps29
  go_wp2_with (first | ((with_reducible refine gate_dst (N := 2) rfl ?_); refine box_event ?hg (N := 2) ?hd (cs := #[.int .i64 a0_0, .int .i64 a0_1, .int .i64 a0_2, .int .i64 a0_3, .int .i64 a0_4, .int .u64 a0_5]) (t := 37) ?hr ?_; (case hd => rfl); (case hg => rfl); (case hr => first | (go_simp; done) | (go_simp; rfl)); intro gb153 hg w6 hbox hb; have BK153 := Aside0.mk (hbox); have GW153 := bz_ w hg; have GE153 := GW153; replace HB := bs_ w hb; clear hb hbox hg) | ((with_reducible refine gate_dst (N := 4) rfl ?_); refine box_event ?hg (N := 4) ?hd (cs := #[.int .i64 0, .int .i64 0, .int .i64 0, .int .i64 0, .int .i64 0, .int .u64 0]) (t := 37) ?hr ?_; (case hd => rfl); (case hg => rfl); (case hr => first | (go_simp; done) | (go_simp; rfl)); intro gb154 hg w7 hbox hb; have BK154 := Aside0.mk (hbox); have GW154 := bz_ w hg; have GE154 := GW154; have NB153_154 := bn_ BK153 hg; have NB154_153 := bm_ BK153 hg; replace BK153 := bb_ BK153 hb; replace HB := bs_ w hb; clear hb hbox hg; have hnb8 := NB153_154.out; have hnc8 := NB154_153.out; have hcz9_0 : w7.cell? ⟨gb153, 0, none⟩ = some (.int .i64 a0_0) := (blk_cell BK153.out 0).trans rfl; have hcz9_1 : w7.cell? ⟨gb153, 1, none⟩ = some (.int .i64 a0_1) := (blk_cell BK153.out 1).trans rfl; have hcz9_2 : w7.cell? ⟨gb153, 2, none⟩ = some (.int .i64 a0_2) := (blk_cell BK153.out 2).trans rfl; have hcz9_3 : w7.cell? ⟨gb153, 3, none⟩ = some (.int .i64 a0_3) := (blk_cell BK153.out 3).trans rfl; have hcz9_4 : w7.cell? ⟨gb153, 4, none⟩ = some (.int .i64 a0_4) := (blk_cell BK153.out 4).trans rfl; have hcz9_5 : w7.cell? ⟨gb153, 5, none⟩ = some (.int .u64 a0_5) := (blk_cell BK153.out 5).trans rfl; have hfz9_0 := blk_frozen BK153.out 0; have hfz9_1 := blk_frozen BK153.out 1; have hfz9_2 := blk_frozen BK153.out 2; have hfz9_3 := blk_frozen BK153.out 3; have hfz9_4 := blk_frozen BK153.out 4; have hfz9_5 := blk_frozen BK153.out 5) | ((with_reducible refine gate_callee (f := 44) rfl ?_); refine goesL_ (some 8) rfl rfl Try.func44 (by kernel_rfl) rfl #[.agg #[.int .i64 a0_0, .int .i64 a0_1, .int .i64 a0_2, .int .i64 a0_3, .int .i64 a0_4, .int .u64 a0_5]] rfl (by (try simp only [List.map_toArray, List.map_cons, List.map_nil]); first | done | rfl | (simp only [List.length_drop, List.length_take]; rfl)) ?_; (with_reducible refine (bucket_Check.calls a0_0 a0_1 a0_2 a0_3 a0_4 a0_5 t155 _ A3.out).mono ?_); rintro e w10 ⟨rfl, hb⟩; refine ⟨_, rfl, ?_⟩; replace BK153 := bb_ BK153 hb; replace BK154 := bb_ BK154 hb; replace HB := bs_ w hb; (try clear hb); (try clear hb2); (try clear hk); (try clear hi); have hcz11_0 : w10.cell? ⟨gb153, 0, none⟩ = some (.int .i64 a0_0) := (blk_cell BK153.out 0).trans rfl; have hcz11_1 : w10.cell? ⟨gb153, 1, none⟩ = some (.int .i64 a0_1) := (blk_cell BK153.out 1).trans rfl; have hcz11_2 : w10.cell? ⟨gb153, 2, none⟩ = some (.int .i64 a0_2) := (blk_cell BK153.out 2).trans rfl; have hcz11_3 : w10.cell? ⟨gb153, 3, none⟩ = some (.int .i64 a0_3) := (blk_cell BK153.out 3).trans rfl; have hcz11_4 : w10.cell? ⟨gb153, 4, none⟩ = some (.int .i64 a0_4) := (blk_cell BK153.out 4).trans rfl; have hcz11_5 : w10.cell? ⟨gb153, 5, none⟩ = some (.int .u64 a0_5) := (blk_cell BK153.out 5).trans rfl; have hfz11_0 := blk_frozen BK153.out 0; have hfz11_1 := blk_frozen BK153.out 1; have hfz11_2 := blk_frozen BK153.out 2; have hfz11_3 := blk_frozen BK153.out 3; have hfz11_4 := blk_frozen BK153.out 4; have hfz11_5 := blk_frozen BK153.out 5) | ((with_reducible refine gate_callee (f := 45) rfl ?_); refine goesL_ (some 15) rfl rfl Try.func45 (by kernel_rfl) rfl #[.agg #[.int .i64 a0_0, .int .i64 a0_1, .int .i64 a0_2, .int .i64 a0_3, .int .i64 a0_4, .int .u64 a0_5], .int .u64 a1] rfl (by (try simp only [List.map_toArray, List.map_cons, List.map_nil]); first | done | rfl | (simp only [List.length_drop, List.length_take]; rfl)) ?_; (with_reducible refine (bucket_fill.calls k a0_0 a0_1 a0_2 a0_3 a0_4 a0_5 a1 t156 t157 t158 t159 t160 t161 _ A5.out).mono ?_); rintro e w12 ⟨rfl, hb⟩; refine ⟨_, rfl, ?_⟩; replace BK153 := bb_ BK153 hb; replace BK154 := bb_ BK154 hb; replace HB := bs_ w hb; (try clear hb); (try clear hb2); (try clear hk); (try clear hi); have hcz13_0 : w12.cell? ⟨gb154, 0, none⟩ = some (.int .i64 0) := (blk_cell BK154.out 0).trans rfl; have hcz13_1 : w12.cell? ⟨gb154, 1, none⟩ = some (.int .i64 0) := (blk_cell BK154.out 1).trans rfl; have hcz13_2 : w12.cell? ⟨gb154, 2, none⟩ = some (.int .i64 0) := (blk_cell BK154.out 2).trans rfl; have hcz13_3 : w12.cell? ⟨gb154, 3, none⟩ = some (.int .i64 0) := (blk_cell BK154.out 3).trans rfl; have hcz13_4 : w12.cell? ⟨gb154, 4, none⟩ = some (.int .i64 0) := (blk_cell BK154.out 4).trans rfl; have hcz13_5 : w12.cell? ⟨gb154, 5, none⟩ = some (.int .u64 0) := (blk_cell BK154.out 5).trans rfl; have hfz13_0 := blk_frozen BK154.out 0; have hfz13_1 := blk_frozen BK154.out 1; have hfz13_2 := blk_frozen BK154.out 2; have hfz13_3 := blk_frozen BK154.out 3; have hfz13_4 := blk_frozen BK154.out 4; have hfz13_5 := blk_frozen BK154.out 5))
  refine bodyPost_ret (results_ct rfl _ _ gb154 37 #[.int .i64 t156, .int .i64 t157, .int .i64 t158, .int .i64 t159, .int .i64 t160, .int .u64 t161] (0, 0) _ rfl (blk_put (cs := #[.int .i64 t156, .int .i64 t157, .int .i64 t158, .int .i64 t159, .int .i64 t160, .int .u64 0]) (blk_put (cs := #[.int .i64 t156, .int .i64 t157, .int .i64 t158, .int .i64 t159, .int .i64 0, .int .u64 0]) (blk_put (cs := #[.int .i64 t156, .int .i64 t157, .int .i64 t158, .int .i64 0, .int .i64 0, .int .u64 0]) (blk_put (cs := #[.int .i64 t156, .int .i64 t157, .int .i64 0, .int .i64 0, .int .i64 0, .int .u64 0]) (blk_put (cs := #[.int .i64 t156, .int .i64 0, .int .i64 0, .int .i64 0, .int .i64 0, .int .u64 0]) (blk_put (cs := #[.int .i64 0, .int .i64 0, .int .i64 0, .int .i64 0, .int .i64 0, .int .u64 0]) (bq_ BK154) 0 _ rfl) 1 _ rfl) 2 _ rfl) 3 _ rfl) 4 _ rfl) 5 _ rfl) Try.underlying37 rfl (by kernel_rfl)) rfl ?_
  exact ⟨by first | rfl | (simp [errW_none, errW_some] <;> rfl) | (simp [*, errW_none, errW_some] <;> rfl), by repeat (first | (with_reducible first | exact HB.out | apply below_alloc | apply pw_below_drewN | apply below_drew1 | refine below_set ?_ GE153.out | refine below_set ?_ GE154.out) | exact HB.out)⟩
 ·rw [if_neg c4] at H
  have c4b0 : (t155 == 0) = false := beq_eq_false_iff_ne.mpr c4
  have c4b1 : (t155 != 0) = true := bne_iff_ne.mpr c4
  simp only [Option.some.injEq, Prod.mk.injEq] at H
  obtain ⟨rfl, rfl, rfl, rfl, rfl, rfl, rfl⟩ := H
  go_enter Try.func29, Try.ntmps29
  go_wp2_with (first | ((with_reducible refine gate_dst (N := 2) rfl ?_); refine box_event ?hg (N := 2) ?hd (cs := #[.int .i64 a0_0, .int .i64 a0_1, .int .i64 a0_2, .int .i64 a0_3, .int .i64 a0_4, .int .u64 a0_5]) (t := 37) ?hr ?_; (case hd => rfl); (case hg => rfl); (case hr => first | (go_simp; done) | (go_simp; rfl)); intro gb153 hg w14 hbox hb; have BK153 := Aside0.mk (hbox); have GW153 := bz_ w hg; have GE153 := GW153; replace HB := bs_ w hb; clear hb hbox hg) | ((with_reducible refine gate_dst (N := 4) rfl ?_); refine box_event ?hg (N := 4) ?hd (cs := #[.int .i64 0, .int .i64 0, .int .i64 0, .int .i64 0, .int .i64 0, .int .u64 0]) (t := 37) ?hr ?_; (case hd => rfl); (case hg => rfl); (case hr => first | (go_simp; done) | (go_simp; rfl)); intro gb154 hg w15 hbox hb; have BK154 := Aside0.mk (hbox); have GW154 := bz_ w hg; have GE154 := GW154; have NB153_154 := bn_ BK153 hg; have NB154_153 := bm_ BK153 hg; replace BK153 := bb_ BK153 hb; replace HB := bs_ w hb; clear hb hbox hg; have hnb16 := NB153_154.out; have hnc16 := NB154_153.out; have hcz17_0 : w15.cell? ⟨gb153, 0, none⟩ = some (.int .i64 a0_0) := (blk_cell BK153.out 0).trans rfl; have hcz17_1 : w15.cell? ⟨gb153, 1, none⟩ = some (.int .i64 a0_1) := (blk_cell BK153.out 1).trans rfl; have hcz17_2 : w15.cell? ⟨gb153, 2, none⟩ = some (.int .i64 a0_2) := (blk_cell BK153.out 2).trans rfl; have hcz17_3 : w15.cell? ⟨gb153, 3, none⟩ = some (.int .i64 a0_3) := (blk_cell BK153.out 3).trans rfl; have hcz17_4 : w15.cell? ⟨gb153, 4, none⟩ = some (.int .i64 a0_4) := (blk_cell BK153.out 4).trans rfl; have hcz17_5 : w15.cell? ⟨gb153, 5, none⟩ = some (.int .u64 a0_5) := (blk_cell BK153.out 5).trans rfl; have hfz17_0 := blk_frozen BK153.out 0; have hfz17_1 := blk_frozen BK153.out 1; have hfz17_2 := blk_frozen BK153.out 2; have hfz17_3 := blk_frozen BK153.out 3; have hfz17_4 := blk_frozen BK153.out 4; have hfz17_5 := blk_frozen BK153.out 5) | ((with_reducible refine gate_callee (f := 44) rfl ?_); refine goesL_ (some 8) rfl rfl Try.func44 (by kernel_rfl) rfl #[.agg #[.int .i64 a0_0, .int .i64 a0_1, .int .i64 a0_2, .int .i64 a0_3, .int .i64 a0_4, .int .u64 a0_5]] rfl (by (try simp only [List.map_toArray, List.map_cons, List.map_nil]); first | done | rfl | (simp only [List.length_drop, List.length_take]; rfl)) ?_; (with_reducible refine (bucket_Check.calls a0_0 a0_1 a0_2 a0_3 a0_4 a0_5 t155 _ A3.out).mono ?_); rintro e w18 ⟨rfl, hb⟩; refine ⟨_, rfl, ?_⟩; replace BK153 := bb_ BK153 hb; replace BK154 := bb_ BK154 hb; replace HB := bs_ w hb; (try clear hb); (try clear hb2); (try clear hk); (try clear hi); have hcz19_0 : w18.cell? ⟨gb154, 0, none⟩ = some (.int .i64 0) := (blk_cell BK154.out 0).trans rfl; have hcz19_1 : w18.cell? ⟨gb154, 1, none⟩ = some (.int .i64 0) := (blk_cell BK154.out 1).trans rfl; have hcz19_2 : w18.cell? ⟨gb154, 2, none⟩ = some (.int .i64 0) := (blk_cell BK154.out 2).trans rfl; have hcz19_3 : w18.cell? ⟨gb154, 3, none⟩ = some (.int .i64 0) := (blk_cell BK154.out 3).trans rfl; have hcz19_4 : w18.cell? ⟨gb154, 4, none⟩ = some (.int .i64 0) := (blk_cell BK154.out 4).trans rfl; have hcz19_5 : w18.cell? ⟨gb154, 5, none⟩ = some (.int .u64 0) := (blk_cell BK154.out 5).trans rfl; have hfz19_0 := blk_frozen BK154.out 0; have hfz19_1 := blk_frozen BK154.out 1; have hfz19_2 := blk_frozen BK154.out 2; have hfz19_3 := blk_frozen BK154.out 3; have hfz19_4 := blk_frozen BK154.out 4; have hfz19_5 := blk_frozen BK154.out 5))
  refine bodyPost_ret (results_ct rfl _ _ gb154 37 #[.int .i64 0, .int .i64 0, .int .i64 0, .int .i64 0, .int .i64 0, .int .u64 0] (0, 0) _ rfl (blk_put (cs := #[.int .i64 0, .int .i64 0, .int .i64 0, .int .i64 0, .int .i64 0, .int .u64 0]) (blk_put (cs := #[.int .i64 0, .int .i64 0, .int .i64 0, .int .i64 0, .int .i64 0, .int .u64 0]) (blk_put (cs := #[.int .i64 0, .int .i64 0, .int .i64 0, .int .i64 0, .int .i64 0, .int .u64 0]) (blk_put (cs := #[.int .i64 0, .int .i64 0, .int .i64 0, .int .i64 0, .int .i64 0, .int .u64 0]) (blk_put (cs := #[.int .i64 0, .int .i64 0, .int .i64 0, .int .i64 0, .int .i64 0, .int .u64 0]) (blk_put (cs := #[.int .i64 0, .int .i64 0, .int .i64 0, .int .i64 0, .int .i64 0, .int .u64 0]) (bq_ BK154) 0 _ rfl) 1 _ rfl) 2 _ rfl) 3 _ rfl) 4 _ rfl) 5 _ rfl) Try.underlying37 rfl (by kernel_rfl)) rfl ?_
  exact ⟨by first | rfl | (simp [errW_none, errW_some] <;> rfl) | (simp [*, errW_none, errW_some] <;> rfl), by repeat (first | (with_reducible first | exact HB.out | apply below_alloc | apply pw_below_drewN | apply below_drew1 | refine below_set ?_ GE153.out | refine below_set ?_ GE154.out) | exact HB.out)⟩

/-! ### levels_fill: function 38 -/
def levels_fill.l0 : Nat → Int → List (S37) → Int → Int → Option ((List (S37)))
  | 0, _, _, _, _ => none
  | k + 1, x1, x5, x10, x11 => if x11 < x10 then (if 0 ≤ x11 then (if x11 < (x5.length : Int) then ((bucket_Refill.f k ((rd_T37 x5 x11).f0.f0) ((rd_T37 x5 x11).f0.f1) ((rd_T37 x5 x11).f0.f2) ((rd_T37 x5 x11).f1) ((rd_T37 x5 x11).f2) ((rd_T37 x5 x11).f3) x1).bind fun bt166 => (levels_fill.l0 k x1 (x5.set (x11 : Int).toNat (⟨(⟨bt166.1, bt166.2.1, bt166.2.2.1⟩ : S34), bt166.2.2.2.1, bt166.2.2.2.2.1, bt166.2.2.2.2.2.1⟩ : S37)) x10 (wrap64 (x11 + 1)))) else (none)) else (none)) else (some x5)
def levels_fill.f (k : Nat) (l0 : List (S37)) (a1 : Int) : Option ((List (S37))) := (slices_Clone_api_Bucket.f l0).bind fun t162 => (levels_fill.l0 k a1 t162 (t162.length : Int) 0)
theorem levels_fill.mono_l : ∀ k, (∀ y0 y1 y2 y3, LeO (levels_fill.l0 k y0 y1 y2 y3) (levels_fill.l0 (k + 1) y0 y1 y2 y3))
  | 0 => fun _ _ _ _ r h => by simp [levels_fill.l0] at h
  | k + 1 => by
    have ih0 := levels_fill.mono_l k
    · intro y0 y1 y2 y3
      unfold levels_fill.l0
      repeat' first
      | (with_reducible exact ih0 _ _ _ _)
      | (with_reducible exact bucket_Refill.mono _ _ _ _ _ _ _ _)
      | (with_reducible exact LeO.refl _)
      | (with_reducible exact LeO.none _)
      | (with_reducible refine LeO.ite ?_ ?_)
      | (with_reducible refine LeO.bind ?_ (fun _ => ?_))
      | exact ih0 _ _ _ _
      | exact bucket_Refill.mono _ _ _ _ _ _ _ _
      | exact LeO.none _
      | refine LeO.ite ?_ ?_
      | refine LeO.bind ?_ (fun _ => ?_)
theorem levels_fill.mono : ∀ a0 a1 k, LeO (levels_fill.f k a0 a1) (levels_fill.f (k + 1) a0 a1) := by
  intro a0 a1 k
  have ih0 := levels_fill.mono_l k
  unfold levels_fill.f
  repeat' first
      | (with_reducible exact ih0 _ _ _ _)
      | (with_reducible exact bucket_Refill.mono _ _ _ _ _ _ _ _)
      | (with_reducible exact LeO.refl _)
      | (with_reducible exact LeO.none _)
      | (with_reducible refine LeO.ite ?_ ?_)
      | (with_reducible refine LeO.bind ?_ (fun _ => ?_))
      | exact ih0 _ _ _ _
      | exact bucket_Refill.mono _ _ _ _ _ _ _ _
      | exact LeO.none _
      | refine LeO.ite ?_ ?_
      | refine LeO.bind ?_ (fun _ => ?_)
set_option maxHeartbeats 8000000 in
set_option maxRecDepth 100000 in
theorem levels_fill.calls (k : Nat) (A0 : Option Addr) (c0 : Nat) (l0 : List (S37)) (a1 : Int) (r : List (S37)) (w : World) (hr0 : Kd.C k37 w A0 l0.length l0) (hc0 : l0.length ≤ c0) (h : levels_fill.f k l0 a1 = some r) :
  Calls Try.prog 38 #[.slice A0 l0.length c0, .int .u64 a1] w fun e w' => ∃ v0_ : Value, e = .returned (v0_) ∧ Kd.R k37 37 w' w.heap.size (fun _ => True) v0_ r ∧ Below w.heap.size w w' := by
 have hu37 := Try.underlying37
 have HR0 := Aside0.mk hr0
 have HC0 := Aside0.mk hc0
 clear hr0 hc0
 have HB := Aside0.mk (Below.refl w.heap.size w)
 have H : ((slices_Clone_api_Bucket.f l0).bind fun t162 => (levels_fill.l0 k a1 t162 (t162.length : Int) 0)) = some r := h
 clear h
 replace H := Option.bind_eq_some_iff.mp H
 obtain ⟨t162, A30, H⟩ := H
 replace H : (levels_fill.l0 k a1 t162 (t162.length : Int) 0) = some r := H
 have A3 := Aside0.mk A30
 clear A30
 have H' := Aside0.mk H
 clear H
 go_enter Try.func38, Try.ntmps38
 go_wp2_with (first | ((with_reducible refine gate_callee (f := 34) rfl ?_); refine goesL_ (some 8) rfl rfl Try.func34 (by kernel_rfl) rfl #[.slice A0 l0.length c0] rfl (by (try simp only [List.map_toArray, List.map_cons, List.map_nil]); first | done | rfl | (simp only [List.length_drop, List.length_take]; rfl)) ?_; (with_reducible refine (slices_Clone_api_Bucket.calls _ _ l0 t162 _ ?side1 ?side2 A3.out).mono ?_); (case side1 => repeat (first | exact HR0.out | (with_reducible refine Kd.C_alloc ?_ _) | (with_reducible refine Kd.C_drewN ?_ _) | (with_reducible refine Kd.C_drew ?_))); (case side2 => exact HC0.out); rintro e w4 ⟨v163, rfl, ho0, hb⟩; refine ⟨_, rfl, ?_⟩; have HO164 := Aside0.mk (Kd.R_lower ho0 (below_size (hq_ HB))); replace HB := bs_ w hb; (try clear hb); (try clear hb2); (try clear hk); (try clear hi); (try clear ho0); obtain ⟨Ao5, co5, eo5⟩ := Kd.R_slice HO164.out; subst eo5))
 go_loopg [11] k (fun kq v11 w' => ∃ (x5_1 : List (S37)) (x11_1 : Int), v11 = .int .i64 x11_1 ∧ Aside0 (levels_fill.l0 kq a1 x5_1 (t162.length : Int) x11_1 = some r) ∧ Aside0 (kq ≤ k) ∧ Aside0 (Kd.R k37 37 w' w.heap.size (fun _ => True) (.slice Ao5 t162.length co5) x5_1) ∧ Aside0 (Below w.heap.size w w'))
 case atStart => exact ⟨(t162), (0), (by first | rfl | (simp; done) | (simp [*]; done)), H', ⟨Nat.le_refl _⟩, ⟨by (with_reducible repeat (first | apply Kd.R_alloc | apply Kd.R_drewN | apply Kd.R_drew)); exact HO164.out⟩, ⟨by repeat (first | (with_reducible first | exact HB.out | apply below_alloc | apply pw_below_drewN | apply below_drew1) | exact HB.out)⟩⟩
 case round =>
  clear H'
  try clear p2
  try clear c3
  obtain ⟨x5_1, x11_1, rfl, HA, HK1, HO_5, HB⟩ := hrel
  have hl5_1 := (Kd.R_reads' HO_5.out).1
  rw [hl5_1] at HO_5
  (try simp only [hl5_1])
  cases gk with
  | zero => exact absurd HA.out (by simp [levels_fill.l0])
  | succ k1 =>
   have H := HA.out
   clear HA
   simp only [levels_fill.l0] at H
   by_cases c6 : x11_1 < (t162.length : Int)
   ·rw [if_pos c6] at H
    have c6b0 : decide (x11_1 < (t162.length : Int)) = true := decide_eq_true c6
    clear c6
    by_cases c7 : 0 ≤ x11_1
    rotate_left
    ·rw [if_neg c7] at H; exact absurd H (by simp)
    rw [if_pos c7] at H
    have c7b0 : decide (0 ≤ x11_1) = true := decide_eq_true c7
    clear c7
    by_cases c8 : x11_1 < (x5_1.length : Int)
    rotate_left
    ·rw [if_neg c8] at H; exact absurd H (by simp)
    rw [if_pos c8] at H
    have c8b0 : decide (x11_1 < (x5_1.length : Int)) = true := decide_eq_true c8
    clear c8
    replace H := Option.bind_eq_some_iff.mp H
    obtain ⟨⟨t166, t167, t168, t169, t170, t171, t172⟩, A90, H⟩ := H
    replace H : (levels_fill.l0 k1 a1 (x5_1.set (x11_1 : Int).toNat (⟨(⟨t166, t167, t168⟩ : S34), t169, t170, t171⟩ : S37)) (t162.length : Int) (wrap64 (x11_1 + 1))) = some r := H
    have A9 := Aside0.mk A90
    clear A90
    obtain ⟨y173, hy173⟩ : ∃ y_ : List (S37), y_ = (x5_1.set (x11_1 : Int).toNat (⟨(⟨t166, t167, t168⟩ : S34), t169, t170, t171⟩ : S37)) := ⟨_, rfl⟩
    replace H : (levels_fill.l0 k1 a1 y173 (t162.length : Int) (wrap64 (x11_1 + 1))) = some r := by first | (rw [hy173]; with_reducible exact H) | (have H2_ := (Option.bind_some _ _).symm.trans H; rw [hy173]; with_reducible exact H2_) | (have H2_ := (Option.bind_some _ _).symm.trans H; with_reducible exact H2_) | with_reducible exact H | (rw [hy173]; exact H) | exact H
    have Ny173 := Aside0.mk hy173
    clear hy173
    have H' := Aside0.mk H
    clear H
    have p165 : 0 ≤ (x11_1 : Int) := of_decide_eq_true (by first | (with_reducible assumption) | assumption)
    have q165 : x11_1 < (x5_1.length : Int) := of_decide_eq_true (by first | (with_reducible assumption) | assumption)
    obtain ⟨ad165, e165, hx165_0, hx165_1, hx165_2, hx165_3, hx165_4, hx165_5⟩ := at_T37 (Kd.R_reads' HO_5.out).2.2 x11_1 p165 q165
    cases e165
    replace p165 := eq_true p165
    replace q165 := eq_true q165
    go_wp2_with (first | ((with_reducible refine gate_callee (f := 29) rfl ?_); refine goesL_ (some 22) rfl rfl Try.func29 (by kernel_rfl) rfl #[.agg #[.int .i64 ((rd_T37 x5_1 x11_1).f0.f0), .int .i64 ((rd_T37 x5_1 x11_1).f0.f1), .int .i64 ((rd_T37 x5_1 x11_1).f0.f2), .int .i64 ((rd_T37 x5_1 x11_1).f1), .int .i64 ((rd_T37 x5_1 x11_1).f2), .int .u64 ((rd_T37 x5_1 x11_1).f3)], .int .u64 a1] rfl (by (try simp only [List.map_toArray, List.map_cons, List.map_nil]); first | done | rfl | (simp only [List.length_drop, List.length_take]; rfl)) ?_; (with_reducible refine (bucket_Refill.calls k1 ((rd_T37 x5_1 x11_1).f0.f0) ((rd_T37 x5_1 x11_1).f0.f1) ((rd_T37 x5_1 x11_1).f0.f2) ((rd_T37 x5_1 x11_1).f1) ((rd_T37 x5_1 x11_1).f2) ((rd_T37 x5_1 x11_1).f3) a1 t166 t167 t168 t169 t170 t171 t172 _ A9.out).mono ?_); rintro e w11 ⟨rfl, hb⟩; refine ⟨_, rfl, ?_⟩; replace HO_5 := Aside0.mk (Kd.R_below (by (with_reducible repeat (first | apply Kd.R_alloc | apply Kd.R_drewN | apply Kd.R_drew)); exact HO_5.out) hb); replace HB := bs_ w hb; (try clear hb); (try clear hb2); (try clear hk); (try clear hi); have p10 : 0 ≤ (x11_1 : Int) := of_decide_eq_true (by first | (with_reducible assumption) | assumption); have q10 : (x11_1 : Int) < ((x5_1.length : Int) : Int) := of_decide_eq_true (by first | (with_reducible assumption) | assumption); obtain ⟨go10, co10, eo10, gb10, gl10, cl10, HG10⟩ := Kd.R_form HO_5.out (by omega); (first | cases eo10 | (injection eo10 with ea_ en_ ec_; (first | subst ea_ | (injection ea_ with ea_; subst ea_)); subst ec_; clear en_)); have GB10 := Aside0.mk gb10; have GG10 := Aside0.mk HG10; clear gb10 gl10 HG10; (first | simp only [add_plain] at hx165_0 | skip); (first | simp only [add_plain] at hx165_1 | skip); (first | simp only [add_plain] at hx165_2 | skip); (first | simp only [add_plain] at hx165_3 | skip); (first | simp only [add_plain] at hx165_4 | skip); (first | simp only [add_plain] at hx165_5 | skip); obtain ⟨ce10, hcl10, hM10, hcc10, hfr10⟩ := Kd.R_elem HO_5.out z37 (x11_1 : Int) p10 q10; obtain rfl := k37_openM hM10; have hx10_0 : w11.cell? ⟨go10, (x11_1 : Int).toNat * 6, none⟩ = some (.int .i64 ((rd_T37 x5_1 x11_1).f0.f0)) := hcc10 0 _ rfl; have hx10_1 : w11.cell? ⟨go10, (x11_1 : Int).toNat * 6 + 1, none⟩ = some (.int .i64 ((rd_T37 x5_1 x11_1).f0.f1)) := hcc10 1 _ rfl; have hx10_2 : w11.cell? ⟨go10, (x11_1 : Int).toNat * 6 + 2, none⟩ = some (.int .i64 ((rd_T37 x5_1 x11_1).f0.f2)) := hcc10 2 _ rfl; have hx10_3 : w11.cell? ⟨go10, (x11_1 : Int).toNat * 6 + 3, none⟩ = some (.int .i64 ((rd_T37 x5_1 x11_1).f1)) := hcc10 3 _ rfl; have hx10_4 : w11.cell? ⟨go10, (x11_1 : Int).toNat * 6 + 4, none⟩ = some (.int .i64 ((rd_T37 x5_1 x11_1).f2)) := hcc10 4 _ rfl; have hx10_5 : w11.cell? ⟨go10, (x11_1 : Int).toNat * 6 + 5, none⟩ = some (.int .u64 ((rd_T37 x5_1 x11_1).f3)) := hcc10 5 _ rfl; have hf10_0 : w11.frozen? ⟨go10, (x11_1 : Int).toNat * 6, none⟩ = false := hfr10 0; have hf10_1 : w11.frozen? ⟨go10, (x11_1 : Int).toNat * 6 + 1, none⟩ = false := hfr10 1; have hf10_2 : w11.frozen? ⟨go10, (x11_1 : Int).toNat * 6 + 2, none⟩ = false := hfr10 2; have hf10_3 : w11.frozen? ⟨go10, (x11_1 : Int).toNat * 6 + 3, none⟩ = false := hfr10 3; have hf10_4 : w11.frozen? ⟨go10, (x11_1 : Int).toNat * 6 + 4, none⟩ = false := hfr10 4; have hf10_5 : w11.frozen? ⟨go10, (x11_1 : Int).toNat * 6 + 5, none⟩ = false := hfr10 5; clear hcl10 hcc10 hfr10 hM10; replace p10 := eq_true p10; replace q10 := eq_true q10; have HX12 := Aside0.mk (show Kd.R k37 37 w11 w.heap.size (fun _ => True) (.slice (some ⟨go10, 0, none⟩) x5_1.length co5) x5_1 from (by (with_reducible repeat (first | apply Kd.R_alloc | apply Kd.R_drewN | apply Kd.R_drew)); exact HO_5.out)); obtain ⟨ce12, hcl12, hM12, hcc12, hfr12⟩ := Kd.R_elem HX12.out z37 (x11_1 : Int) (of_decide_eq_true (by first | (with_reducible assumption) | assumption)) (by have h_ : (x11_1 : Int) < ((x5_1.length : Int) : Int) := of_decide_eq_true (by first | (with_reducible assumption) | assumption); first | exact h_ | (have e_ := (Kd.R_reads' HO_5.out).1; omega) | simpa using h_); obtain rfl := k37_openM hM12; have HP12 := Kd.R_seg HX12.out (x11_1 : Int) (of_decide_eq_true (by first | (with_reducible assumption) | assumption)) (by have h_ : (x11_1 : Int) < ((x5_1.length : Int) : Int) := of_decide_eq_true (by first | (with_reducible assumption) | assumption); first | exact h_ | (have e_ := (Kd.R_reads' HO_5.out).1; omega) | simpa using h_) (seg := [.int .i64 t166, .int .i64 t167, .int .i64 t168, .int .i64 t169, .int .i64 t170, .int .u64 t171]) (j := 0) hcl12 hcc12 (show 6 ≤ 6 from by decide) (x' := (⟨(⟨t166, t167, t168⟩ : S34), t169, t170, t171⟩ : S37)) (k37_mkM _ _ _ (⟨(⟨t166, t167, t168⟩ : S34), t169, t170, t171⟩ : S37) ) (fun _ hk => hk); have hx12_0 := hcc12 0 _ rfl; (try simp only [show (k37).sz = 6 from rfl, Nat.mul_one, Nat.add_zero] at hx12_0); have hf12_0 := hfr12 0; (try simp only [show (k37).sz = 6 from rfl, Nat.mul_one, Nat.add_zero] at hf12_0); have hx12_1 := hcc12 1 _ rfl; (try simp only [show (k37).sz = 6 from rfl, Nat.mul_one, Nat.add_zero] at hx12_1); have hf12_1 := hfr12 1; (try simp only [show (k37).sz = 6 from rfl, Nat.mul_one, Nat.add_zero] at hf12_1); have hx12_2 := hcc12 2 _ rfl; (try simp only [show (k37).sz = 6 from rfl, Nat.mul_one, Nat.add_zero] at hx12_2); have hf12_2 := hfr12 2; (try simp only [show (k37).sz = 6 from rfl, Nat.mul_one, Nat.add_zero] at hf12_2); have hx12_3 := hcc12 3 _ rfl; (try simp only [show (k37).sz = 6 from rfl, Nat.mul_one, Nat.add_zero] at hx12_3); have hf12_3 := hfr12 3; (try simp only [show (k37).sz = 6 from rfl, Nat.mul_one, Nat.add_zero] at hf12_3); have hx12_4 := hcc12 4 _ rfl; (try simp only [show (k37).sz = 6 from rfl, Nat.mul_one, Nat.add_zero] at hx12_4); have hf12_4 := hfr12 4; (try simp only [show (k37).sz = 6 from rfl, Nat.mul_one, Nat.add_zero] at hf12_4); have hx12_5 := hcc12 5 _ rfl; (try simp only [show (k37).sz = 6 from rfl, Nat.mul_one, Nat.add_zero] at hx12_5); have hf12_5 := hfr12 5; (try simp only [show (k37).sz = 6 from rfl, Nat.mul_one, Nat.add_zero] at hf12_5); clear hcl12 hcc12 hfr12 hM12) | ((with_reducible refine gate_store (t := 37) (p := 25) rfl ?_); refine store_event (t := 37) (p := 25) (v := ?vo_w13) (w1 := ((((((w11.setCell ⟨go10, (x11_1 : Int).toNat * 6, none⟩ (.int .i64 t166)).setCell ⟨go10, (x11_1 : Int).toNat * 6 + 1, none⟩ (.int .i64 t167)).setCell ⟨go10, (x11_1 : Int).toNat * 6 + 2, none⟩ (.int .i64 t168)).setCell ⟨go10, (x11_1 : Int).toNat * 6 + 3, none⟩ (.int .i64 t169)).setCell ⟨go10, (x11_1 : Int).toNat * 6 + 4, none⟩ (.int .i64 t170)).setCell ⟨go10, (x11_1 : Int).toNat * 6 + 5, none⟩ (.int .u64 t171))) ?hg ?ho ?hn ?hr ?_; (case ho => rfl); (case hg => rfl); (case hn => rfl); (case hr => first | (go_simp; done) | (go_simp; rfl)); intro w13 hw; have hg : w11.grownBy w13 (some go10) := (by rw [hw]; exact HP12.2); have hp_ : Kd.R k37 37 w13 w.heap.size (fun _ => True) (.slice (some ⟨go10, 0, none⟩) x5_1.length co5) y173 := (by rw [hw, Ny173.out]; exact HP12.1); clear HP12; replace HO_5 := Aside0.mk (hp_); replace HB := Aside0.mk ((by rw [hw]; exact below_set (below_set (below_set (below_set (below_set (below_set (HB.out) GB10.out) GB10.out) GB10.out) GB10.out) GB10.out) GB10.out : Below w.heap.size w w13)); clear hg hw hp_))
    (try simp only [← hl5_1])
    go_roundg k1
    case measure => have := HK1.out; omega
    case rel => exact ⟨(y173), (wrap64 (x11_1 + 1)), (by first | rfl | (simp; done) | (simp [*]; done)), H', ⟨by have := HK1.out; omega⟩, ⟨by (try simp only [hl5_1]); (with_reducible repeat (first | apply Kd.R_alloc | apply Kd.R_drewN | apply Kd.R_drew)); exact HO_5.out⟩, ⟨by repeat (first | (with_reducible first | exact HB.out | apply below_alloc | apply pw_below_drewN | apply below_drew1) | exact HB.out)⟩⟩
   ·rw [if_neg c6] at H
    have c6b0 : decide (x11_1 < (t162.length : Int)) = false := decide_eq_false c6
    (try rw [hl5_1] at c6b0)
    clear c6
    obtain rfl := Option.some.inj H
    go_wp2
    go_ret
    exact ⟨_, by first | rfl | (simp [errW_none, errW_some] <;> rfl) | (simp [*, errW_none, errW_some] <;> rfl), by (with_reducible repeat (first | apply Kd.R_alloc | apply Kd.R_drewN | apply Kd.R_drew)); exact HO_5.out, by repeat (first | (with_reducible first | exact HB.out | apply below_alloc | apply pw_below_drewN | apply below_drew1) | exact HB.out)⟩

-- NOT PRINTED: function 63 (slices_IndexFunc_api_Bucket)

-- NOT PRINTED: function 54 (slices_ContainsFunc_api_Bucket)

/-! ### levels_holds: function 39 -/
def levels_holds.f (l0 : List (S37)) (a1 : Int) : Option (Bool) := some (!(l0.any fun b => decide (b.f1 < a1)))
set_option maxHeartbeats 2000000 in
theorem levels_holds.lit (x0 x1 x2 x3 x4 x5 c : Int) (g : Nat) (w : World) (hc : w.cell? ⟨g, 0, none⟩ = some (.int .i64 c)) :
  Calls Try.prog 55 #[.agg #[.int .i64 x0, .int .i64 x1, .int .i64 x2, .int .i64 x3, .int .i64 x4, .int .u64 x5], .pointer (some ⟨g, 0, none⟩)] w fun e w' => e = .returned (.bool (decide (x3 < c))) ∧ Below w.heap.size w w' := by
  have hlt := World.block_lt_of_cell? w _ hc
  have hne : g ≠ w.heap.size := Nat.ne_of_lt hlt
  have hb := Below.refl w.heap.size w
  go_enter Try.func55, Try.ntmps55
  go_wp2
  all_goals (go_ret; exact ⟨by simp_all, hb.alloc hb.size _⟩)
theorem levels_holds.step {l : List (S37)} {c x : Int} (h0 : 0 ≤ x) (h1 : x < (l.length : Int)) (h : ∀ b ∈ l.take x.toNat, ¬ b.f1 < c) (hx : ¬ (rd_T37 l x).f1 < c) : ∀ b ∈ l.take (x + 1).toNat, ¬ b.f1 < c := by
  have e : (x + 1).toNat = x.toNat + 1 := by omega
  have hl : x.toNat < l.length := by omega
  intro b hb
  rw [e, List.take_add_one, List.getElem?_eq_getElem hl] at hb
  rcases List.mem_append.1 hb with g | g
  · exact h b g
  · have g : b = l[x.toNat] := by simpa using g
    have hr : rd_T37 l x = l[x.toNat] := by unfold rd_T37; rw [List.getD_eq_getElem?_getD, List.getElem?_eq_getElem hl]; rfl
    rw [g, ← hr]
    exact hx
theorem levels_holds.hit {l : List (S37)} {c x : Int} (h0 : 0 ≤ x) (h1 : x < (l.length : Int)) (hx : (rd_T37 l x).f1 < c) : (l.any fun b => decide (b.f1 < c)) = true := by
  have hl : x.toNat < l.length := by omega
  have hr : rd_T37 l x = l[x.toNat] := by unfold rd_T37; rw [List.getD_eq_getElem?_getD, List.getElem?_eq_getElem hl]; rfl
  rw [hr] at hx
  exact List.any_eq_true.2 ⟨l[x.toNat], List.getElem_mem hl, decide_eq_true hx⟩
theorem levels_holds.miss {l : List (S37)} {c x : Int} (h1 : ¬ x < (l.length : Int)) (h : ∀ b ∈ l.take x.toNat, ¬ b.f1 < c) : (l.any fun b => decide (b.f1 < c)) = false := by
  rw [List.take_of_length_le (by omega)] at h
  rw [List.any_eq_false]
  intro b hb
  simpa using h b hb
set_option maxHeartbeats 8000000 in
set_option maxRecDepth 100000 in
theorem levels_holds.idx (A0 : Option Addr) (c0 : Nat) (l0 : List (S37)) (c : Int) (g : Nat) (w : World) (hr0 : Kd.C k37 w A0 l0.length l0) (hcap : w.cell? ⟨g, 0, none⟩ = some (.int .i64 c)) :
  Calls Try.prog 63 #[.slice A0 l0.length c0, .func (.func 55) #[] #[.pointer (some ⟨g, 0, none⟩)]] w fun e w' => (∃ i : Int, e = .returned (.int .i64 i) ∧ decide (0 ≤ i) = (l0.any fun b => decide (b.f1 < c))) ∧ Below w.heap.size w w' := by
 have hu := Try.underlying37
 have HR0 := Aside0.mk hr0
 have HCAP := Aside0.mk hcap
 clear hr0 hcap
 have HB := Aside0.mk (Below.refl w.heap.size w)
 have HL : l0.length ≤ 9223372036854775807 := HR0.out.2.1
 go_enter Try.func63, Try.ntmps63
 go_wp2
 go_loopg [8] l0.length (fun gg v8 w' => ∃ (x : Int), v8 = .int .i64 x ∧ Aside0 (0 ≤ x ∧ x ≤ (l0.length : Int) ∧ (l0.length : Int) - x ≤ gg) ∧ Aside0 (Below w.heap.size w w') ∧ Aside0 (∀ b ∈ l0.take x.toNat, ¬ b.f1 < c))
 case atStart => exact ⟨0, rfl, ⟨by omega, by omega, by omega⟩, HB, ⟨fun b hb => by simp at hb⟩⟩
 case round =>
  obtain ⟨x, rfl, HX, HB, HT⟩ := hrel
  by_cases c4 : x < (l0.length : Int)
  · have q0 : 0 ≤ x := HX.out.1
    obtain ⟨ad, e, hx0, hx1, hx2, hx3, hx4, hx5⟩ := at_T37 HR0.out x q0 c4
    cases e
    replace hx0 := (HB.out.cell (World.block_lt_of_cell? w _ hx0)).trans hx0
    replace hx1 := (HB.out.cell (World.block_lt_of_cell? w _ hx1)).trans hx1
    replace hx2 := (HB.out.cell (World.block_lt_of_cell? w _ hx2)).trans hx2
    replace hx3 := (HB.out.cell (World.block_lt_of_cell? w _ hx3)).trans hx3
    replace hx4 := (HB.out.cell (World.block_lt_of_cell? w _ hx4)).trans hx4
    replace hx5 := (HB.out.cell (World.block_lt_of_cell? w _ hx5)).trans hx5
    have LIT := Aside0.mk (levels_holds.lit (rd_T37 l0 x).f0.f0 (rd_T37 l0 x).f0.f1 (rd_T37 l0 x).f0.f2 (rd_T37 l0 x).f1 (rd_T37 l0 x).f2 (rd_T37 l0 x).f3 c g _ ((HB.out.cell (World.block_lt_of_cell? w _ HCAP.out)).trans HCAP.out))
    have P0 := Aside0.mk q0
    have P1 := Aside0.mk c4
    replace q0 := eq_true q0
    replace c4 := eq_true c4
    by_cases c5 : (rd_T37 l0 x).f1 < c
    · have HIT := Aside0.mk (levels_holds.hit P0.out P1.out c5)
      rw [decide_eq_true c5] at LIT
      clear c5
      go_wp2_with (first | ((with_reducible refine gate_calleeT (f := 55) rfl ?_); refine goesLC_ (some 16) rfl rfl Try.func55 (by kernel_rfl) rfl #[.agg #[.int .i64 (rd_T37 l0 x).f0.f0, .int .i64 (rd_T37 l0 x).f0.f1, .int .i64 (rd_T37 l0 x).f0.f2, .int .i64 (rd_T37 l0 x).f1, .int .i64 (rd_T37 l0 x).f2, .int .u64 (rd_T37 l0 x).f3]] rfl (lb := #[.pointer (some ⟨g, 0, none⟩)]) rfl (by (try simp only [List.map_toArray, List.map_cons, List.map_nil]); first | done | rfl) (full := #[.agg #[.int .i64 (rd_T37 l0 x).f0.f0, .int .i64 (rd_T37 l0 x).f0.f1, .int .i64 (rd_T37 l0 x).f0.f2, .int .i64 (rd_T37 l0 x).f1, .int .i64 (rd_T37 l0 x).f2, .int .u64 (rd_T37 l0 x).f3], .pointer (some ⟨g, 0, none⟩)]) rfl ?_; (refine LIT.out.mono ?_); rintro e w9 ⟨rfl, hb⟩; refine ⟨_, rfl, ?_⟩; replace HB := bs_ w hb; clear hb))
      go_ret
      exact ⟨⟨_, rfl, by rw [HIT.out]; exact decide_eq_true P0.out⟩, HB.out⟩
    · have MISS := Aside0.mk (levels_holds.step P0.out P1.out HT.out c5)
      rw [decide_eq_false c5] at LIT
      clear c5
      go_wp2_with (first | ((with_reducible refine gate_calleeT (f := 55) rfl ?_); refine goesLC_ (some 16) rfl rfl Try.func55 (by kernel_rfl) rfl #[.agg #[.int .i64 (rd_T37 l0 x).f0.f0, .int .i64 (rd_T37 l0 x).f0.f1, .int .i64 (rd_T37 l0 x).f0.f2, .int .i64 (rd_T37 l0 x).f1, .int .i64 (rd_T37 l0 x).f2, .int .u64 (rd_T37 l0 x).f3]] rfl (lb := #[.pointer (some ⟨g, 0, none⟩)]) rfl (by (try simp only [List.map_toArray, List.map_cons, List.map_nil]); first | done | rfl) (full := #[.agg #[.int .i64 (rd_T37 l0 x).f0.f0, .int .i64 (rd_T37 l0 x).f0.f1, .int .i64 (rd_T37 l0 x).f0.f2, .int .i64 (rd_T37 l0 x).f1, .int .i64 (rd_T37 l0 x).f2, .int .u64 (rd_T37 l0 x).f3], .pointer (some ⟨g, 0, none⟩)]) rfl ?_; (refine LIT.out.mono ?_); rintro e w9 ⟨rfl, hb⟩; refine ⟨_, rfl, ?_⟩; replace HB := bs_ w hb; clear hb))
      go_roundg (gk - 1)
      case measure => have := HX.out; have := P1.out; omega
      case rel =>
        have h1 := P0.out
        have h2 := P1.out
        have h3 := HX.out
        have ew : wrap64 (x + 1) = x + 1 := by unfold wrap64; omega
        exact ⟨wrap64 (x + 1), (by first | rfl | (simp; done) | (simp [*]; done)), ⟨by rw [ew]; exact ⟨by omega, by omega, by omega⟩⟩, HB, ⟨by rw [ew]; exact MISS.out⟩⟩
  · have MISS := Aside0.mk (levels_holds.miss c4 HT.out)
    replace c4 := eq_false c4
    go_wp2
    go_ret
    exact ⟨⟨_, rfl, by rw [MISS.out]; rfl⟩, HB.out⟩
set_option maxHeartbeats 8000000 in
set_option maxRecDepth 100000 in
theorem levels_holds.has (A0 : Option Addr) (c0 : Nat) (l0 : List (S37)) (c : Int) (g : Nat) (w : World) (hr0 : Kd.C k37 w A0 l0.length l0) (hcap : w.cell? ⟨g, 0, none⟩ = some (.int .i64 c)) :
  Calls Try.prog 54 #[.slice A0 l0.length c0, .func (.func 55) #[] #[.pointer (some ⟨g, 0, none⟩)]] w fun e w' => e = .returned (.bool (l0.any fun b => decide (b.f1 < c))) ∧ Below w.heap.size w w' := by
 have IDX := Aside0.mk (levels_holds.idx A0 c0 l0 c g w hr0 hcap)
 clear hr0 hcap
 go_enter Try.func54, Try.ntmps54
 go_wp2_with (go_at_call 63; (refine IDX.out.mono ?_); rintro e w9 ⟨⟨i, rfl, hi⟩, hb⟩)
 go_ret
 exact ⟨by rw [← hi]; first | rfl | (simp; done), hb⟩
set_option maxHeartbeats 8000000 in
set_option maxRecDepth 100000 in
theorem levels_holds.calls (A0 : Option Addr) (c0 : Nat) (l0 : List (S37)) (a1 : Int) (r : Bool) (w : World) (hr0 : Kd.C k37 w A0 l0.length l0) (hc0 : l0.length ≤ c0) (h : levels_holds.f l0 a1 = some r) :
  Calls Try.prog 39 #[.slice A0 l0.length c0, .int .i64 a1] w fun e w' => e = .returned (.bool r) ∧ Below w.heap.size w w' := by
 obtain rfl := Option.some.inj h
 have HB0 := Below.refl w.heap.size w
 have HAS := Aside0.mk (levels_holds.has A0 c0 l0 a1 w.heap.size (w.alloc (.cells #[.int .i64 a1] 2)) (Kd.C_alloc hr0 _) (by simp))
 clear hr0 hc0 h
 go_enter Try.func39, Try.ntmps39
 go_wp2_with (go_at_call 54; (refine HAS.out.mono ?_); rintro e w9 ⟨rfl, hb⟩)
 go_ret
 exact ⟨rfl, (HB0.alloc (Nat.le_refl _) _).trans (hb.mono (by simp))⟩

end Go.Proofs.Ytaegpnbgppjicaa.X
