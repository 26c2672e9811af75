-- written by xprint.py, a program of this session over the kit's print
import Derived.Test.YtnijohomnajngaaX0
import Derived.Test.YtnijohomnajngaaX15
namespace Go.Proofs.Ytnijohomnajngaa.X
open Go.RowKit Go.Proofs.YtnijohomnajngaaW.PrintWords Go.Proofs.YtnijohomnajngaaW.PrintLast Go.Proofs.YtnijohomnajngaaW.PrintMore
attribute [local go_sem] max2_int min2_int max_two min_two max_three min_three max_four min_four   -- for this text's walks alone
set_option linter.unusedVariables false
set_option linter.unusedSimpArgs false

/-! ### spigotref01_Less: function 59 -/
def spigotref01_Less.f (a0_0 : Int) (a0_1 : Int) (a1_0 : Int) (a1_1 : Int) : Option (Int × Int) := if a1_1 > a0_1 then (some (IntKind.u64.wrap ((IntKind.u64.wrap (a0_0 - a1_0)) - 1), IntKind.u64.wrap (a0_1 - a1_1))) else (some (IntKind.u64.wrap (a0_0 - a1_0), IntKind.u64.wrap (a0_1 - a1_1)))
set_option maxHeartbeats 8000000 in
set_option maxRecDepth 100000 in
theorem spigotref01_Less.calls (a0_0 : Int) (a0_1 : Int) (a1_0 : Int) (a1_1 : Int) (r1 : Int) (r2 : Int) (w : World) (h : spigotref01_Less.f a0_0 a0_1 a1_0 a1_1 = some (r1, r2)) :
  Calls Try.prog 59 #[.agg #[.int .u64 a0_0, .int .u64 a0_1], .agg #[.int .u64 a1_0, .int .u64 a1_1]] w fun e w' => e = .returned (.agg #[.int .u64 r1, .int .u64 r2]) ∧ Below w.heap.size w w' := by
 have hu26 := Try.underlying26
 have HB := Aside0.mk (Below.refl w.heap.size w)
 have H : (if a1_1 > a0_1 then (some (IntKind.u64.wrap ((IntKind.u64.wrap (a0_0 - a1_0)) - 1), IntKind.u64.wrap (a0_1 - a1_1))) else (some (IntKind.u64.wrap (a0_0 - a1_0), IntKind.u64.wrap (a0_1 - a1_1)))) = some (r1, r2) := h
 clear h
 by_cases c3 : a1_1 > a0_1
 ·rw [if_pos c3] at H
  have c3b0 : decide (a0_1 < a1_1) = true := decide_eq_true c3
  clear c3
  simp only [Option.some.injEq, Prod.mk.injEq] at H
  obtain ⟨rfl, rfl⟩ := H
  go_enter Try.func59, Try.ntmps59
  go_wp2_with (first | ((with_reducible refine gate_dst (N := 2) rfl ?_); refine bx_ #[.int .u64 a0_0, .int .u64 a0_1] 26 ?_; intro gb192 hg w4 BK192 hb; have GW192 := bz_ w hg; have GE192 := GW192; replace HB := bs_ w hb; clear hb hg) | ((with_reducible refine gate_dst (N := 3) rfl ?_); refine bx_ #[.int .u64 a1_0, .int .u64 a1_1] 26 ?_; intro gb193 hg w5 BK193 hb; have GW193 := bz_ w hg; have GE193 := GW193; have NB192_193 := bn_ BK192 hg; have NB193_192 := bm_ BK192 hg; replace BK192 := bb_ BK192 hb; replace HB := bs_ w hb; clear hb hg) | ((with_reducible refine gate_dst (N := 4) rfl ?_); refine bx_ #[.int .u64 0, .int .u64 0] 26 ?_; intro gb194 hg w6 BK194 hb; have GW194 := bz_ w hg; have GE194 := GW194; have NB192_194 := bn_ BK192 hg; have NB194_192 := bm_ BK192 hg; have NB193_194 := bn_ BK193 hg; have NB194_193 := bm_ BK193 hg; replace BK192 := bb_ BK192 hb; replace BK193 := bb_ BK193 hb; replace HB := bs_ w hb; clear hb hg; have hnb7 := NB193_192.out; have hnc7 := NB192_193.out; have hnb8 := NB193_194.out; have hnc8 := NB194_193.out; obtain ⟨_, _, _, _⟩ := ce2_ BK193; have hnb10 := NB192_194.out; have hnc10 := NB194_192.out; obtain ⟨_, _, _, _⟩ := ce2_ BK192; obtain ⟨_, _, _, _⟩ := ce2_ BK194))
  refine bodyPost_ret (results_cell_row rfl _ _ gb194 26 #[.int .u64 (IntKind.u64.wrap ((IntKind.u64.wrap (a0_0 - a1_0)) - 1)), .int .u64 (IntKind.u64.wrap (a0_1 - a1_1))] (0, 0) _ rfl (bp2_ (bq_ BK194)) Try.underlying26 rfl (by kernel_rfl)) rfl ?_
  exact fi_
 ·rw [if_neg c3] at H
  have c3b0 : decide (a0_1 < a1_1) = false := decide_eq_false c3
  clear c3
  simp only [Option.some.injEq, Prod.mk.injEq] at H
  obtain ⟨rfl, rfl⟩ := H
  go_enter Try.func59, Try.ntmps59
  go_wp2_with (first | ((with_reducible refine gate_dst (N := 2) rfl ?_); refine bx_ #[.int .u64 a0_0, .int .u64 a0_1] 26 ?_; intro gb192 hg w13 BK192 hb; have GW192 := bz_ w hg; have GE192 := GW192; replace HB := bs_ w hb; clear hb hg) | ((with_reducible refine gate_dst (N := 3) rfl ?_); refine bx_ #[.int .u64 a1_0, .int .u64 a1_1] 26 ?_; intro gb193 hg w14 BK193 hb; have GW193 := bz_ w hg; have GE193 := GW193; have NB192_193 := bn_ BK192 hg; have NB193_192 := bm_ BK192 hg; replace BK192 := bb_ BK192 hb; replace HB := bs_ w hb; clear hb hg) | ((with_reducible refine gate_dst (N := 4) rfl ?_); refine bx_ #[.int .u64 0, .int .u64 0] 26 ?_; intro gb194 hg w15 BK194 hb; have GW194 := bz_ w hg; have GE194 := GW194; have NB192_194 := bn_ BK192 hg; have NB194_192 := bm_ BK192 hg; have NB193_194 := bn_ BK193 hg; have NB194_193 := bm_ BK193 hg; replace BK192 := bb_ BK192 hb; replace BK193 := bb_ BK193 hb; replace HB := bs_ w hb; clear hb hg; have hnb16 := NB193_192.out; have hnc16 := NB192_193.out; have hnb17 := NB193_194.out; have hnc17 := NB194_193.out; obtain ⟨_, _, _, _⟩ := ce2_ BK193; have hnb19 := NB192_194.out; have hnc19 := NB194_192.out; obtain ⟨_, _, _, _⟩ := ce2_ BK192; obtain ⟨_, _, _, _⟩ := ce2_ BK194))
  refine bodyPost_ret (results_cell_row rfl _ _ gb194 26 #[.int .u64 (IntKind.u64.wrap (a0_0 - a1_0)), .int .u64 (IntKind.u64.wrap (a0_1 - a1_1))] (0, 0) _ rfl (bp2_ (bq_ BK194)) Try.underlying26 rfl (by kernel_rfl)) rfl ?_
  exact fi_

/-! ### spigotref01_Sub: function 41 -/
def spigotref01_Sub.f (k : Nat) (a0_0 : Int) (a0_1 : Int) (a1_0 : Int) (a1_1 : Int) : Option (Int × Int × Int) := (spigotref01_Cmp.f k a0_0 a0_1 a1_0 a1_1).bind fun t198 => (if t198 < 0 then (some (0, 0, 16)) else ((spigotref01_Less.f a0_0 a0_1 a1_0 a1_1).bind fun bt199 => (some (bt199.1, bt199.2, 0))))
theorem spigotref01_Sub.mono : ∀ a0 a1 a2 a3 k, LeO (spigotref01_Sub.f k a0 a1 a2 a3) (spigotref01_Sub.f (k + 1) a0 a1 a2 a3) := by
  intro a0 a1 a2 a3 k
  unfold spigotref01_Sub.f
  repeat' first
      | (with_reducible exact spigotref01_Cmp.mono _ _ _ _ _)
      | (with_reducible exact LeO.refl _)
      | (with_reducible exact LeO.none _)
      | (with_reducible refine LeO.ite ?_ ?_)
      | (with_reducible refine LeO.bind ?_ (fun _ => ?_))
      | exact spigotref01_Cmp.mono _ _ _ _ _
      | exact LeO.none _
      | refine LeO.ite ?_ ?_
      | refine LeO.bind ?_ (fun _ => ?_)
set_option maxHeartbeats 8000000 in
set_option maxRecDepth 100000 in
theorem spigotref01_Sub.calls (k : Nat) (a0_0 : Int) (a0_1 : Int) (a1_0 : Int) (a1_1 : Int) (r1 : Int) (r2 : Int) (r3 : Int) (w : World) (h : spigotref01_Sub.f k a0_0 a0_1 a1_0 a1_1 = some (r1, r2, r3)) :
  Calls Try.prog 41 #[.agg #[.int .u64 a0_0, .int .u64 a0_1], .agg #[.int .u64 a1_0, .int .u64 a1_1]] w fun e w' => e = .returned (.tuple #[.agg #[.int .u64 r1, .int .u64 r2], .int .i64 r3]) ∧ Below w.heap.size w w' := by
 have hu26 := Try.underlying26
 have HB := Aside0.mk (Below.refl w.heap.size w)
 have H : ((spigotref01_Cmp.f k a0_0 a0_1 a1_0 a1_1).bind fun t198 => (if t198 < 0 then (some (0, 0, 16)) else ((spigotref01_Less.f a0_0 a0_1 a1_0 a1_1).bind fun bt199 => (some (bt199.1, bt199.2, 0))))) = some (r1, r2, r3) := h
 clear h
 obtain ⟨t198, A3, H⟩ := bo_ H
 replace H : (if t198 < 0 then (some (0, 0, 16)) else ((spigotref01_Less.f a0_0 a0_1 a1_0 a1_1).bind fun bt199 => (some (bt199.1, bt199.2, 0)))) = some (r1, r2, r3) := H
 by_cases c4 : t198 < 0
 ·rw [if_pos c4] at H
  have c4b0 : decide (t198 < 0) = true := decide_eq_true c4
  clear c4
  simp only [Option.some.injEq, Prod.mk.injEq] at H
  obtain ⟨rfl, rfl, rfl⟩ := H
  go_enter Try.func41, Try.ntmps41
  go_wp2_with (first | ((with_reducible refine gate_dst (N := 2) rfl ?_); refine bx_ #[.int .u64 a0_0, .int .u64 a0_1] 26 ?_; intro gb195 hg w5 BK195 hb; have GW195 := bz_ w hg; have GE195 := GW195; replace HB := bs_ w hb; clear hb hg) | ((with_reducible refine gate_dst (N := 3) rfl ?_); refine bx_ #[.int .u64 a1_0, .int .u64 a1_1] 26 ?_; intro gb196 hg w6 BK196 hb; have GW196 := bz_ w hg; have GE196 := GW196; have NB195_196 := bn_ BK195 hg; have NB196_195 := bm_ BK195 hg; replace BK195 := bb_ BK195 hb; replace HB := bs_ w hb; clear hb hg) | ((with_reducible refine gate_dst (N := 4) rfl ?_); refine bx_ #[.int .u64 0, .int .u64 0] 26 ?_; intro gb197 hg w7 BK197 hb; have GW197 := bz_ w hg; have GE197 := GW197; have NB195_197 := bn_ BK195 hg; have NB197_195 := bm_ BK195 hg; have NB196_197 := bn_ BK196 hg; have NB197_196 := bm_ BK196 hg; replace BK195 := bb_ BK195 hb; replace BK196 := bb_ BK196 hb; replace HB := bs_ w hb; clear hb hg; have hnb8 := NB195_196.out; have hnc8 := NB196_195.out; have hnb9 := NB195_197.out; have hnc9 := NB197_195.out; obtain ⟨_, _, _, _⟩ := ce2_ BK195; have hnb11 := NB196_197.out; have hnc11 := NB197_196.out; obtain ⟨_, _, _, _⟩ := ce2_ BK196) | ((with_reducible refine gate_callee (f := 46) rfl ?_); refine goesA_ (some 8) Try.func46 #[.agg #[.int .u64 a0_0, .int .u64 a0_1], .agg #[.int .u64 a1_0, .int .u64 a1_1]] ?_; (with_reducible refine (spigotref01_Cmp.calls k a0_0 a0_1 a1_0 a1_1 t198 _ A3.out).mono ?_); rintro e w13 ⟨rfl, hb⟩; refine ⟨_, rfl, ?_⟩; replace BK195 := bb_ BK195 hb; replace BK196 := bb_ BK196 hb; replace BK197 := bb_ BK197 hb; replace HB := bs_ w hb; clear hb; obtain ⟨_, _, _, _⟩ := ce2_ BK197))
  refine bodyPost_ret (results_ct rfl _ _ gb197 26 #[.int .u64 0, .int .u64 0] (0, 0) _ rfl (bp2_ (bq_ BK197)) Try.underlying26 rfl (by kernel_rfl)) rfl ?_
  exact fi_
 ·rw [if_neg c4] at H
  have c4b0 : decide (t198 < 0) = false := decide_eq_false c4
  clear c4
  obtain ⟨⟨t199, t200⟩, A15, H⟩ := bo_ H
  replace H : (some (t199, t200, 0)) = some (r1, r2, r3) := H
  simp only [Option.some.injEq, Prod.mk.injEq] at H
  obtain ⟨rfl, rfl, rfl⟩ := H
  go_enter Try.func41, Try.ntmps41
  go_wp2_with (first | ((with_reducible refine gate_dst (N := 2) rfl ?_); refine bx_ #[.int .u64 a0_0, .int .u64 a0_1] 26 ?_; intro gb195 hg w16 BK195 hb; have GW195 := bz_ w hg; have GE195 := GW195; replace HB := bs_ w hb; clear hb hg) | ((with_reducible refine gate_dst (N := 3) rfl ?_); refine bx_ #[.int .u64 a1_0, .int .u64 a1_1] 26 ?_; intro gb196 hg w17 BK196 hb; have GW196 := bz_ w hg; have GE196 := GW196; have NB195_196 := bn_ BK195 hg; have NB196_195 := bm_ BK195 hg; replace BK195 := bb_ BK195 hb; replace HB := bs_ w hb; clear hb hg) | ((with_reducible refine gate_dst (N := 4) rfl ?_); refine bx_ #[.int .u64 0, .int .u64 0] 26 ?_; intro gb197 hg w18 BK197 hb; have GW197 := bz_ w hg; have GE197 := GW197; have NB195_197 := bn_ BK195 hg; have NB197_195 := bm_ BK195 hg; have NB196_197 := bn_ BK196 hg; have NB197_196 := bm_ BK196 hg; replace BK195 := bb_ BK195 hb; replace BK196 := bb_ BK196 hb; replace HB := bs_ w hb; clear hb hg; have hnb19 := NB195_196.out; have hnc19 := NB196_195.out; have hnb20 := NB195_197.out; have hnc20 := NB197_195.out; obtain ⟨_, _, _, _⟩ := ce2_ BK195; have hnb22 := NB196_197.out; have hnc22 := NB197_196.out; obtain ⟨_, _, _, _⟩ := ce2_ BK196) | ((with_reducible refine gate_callee (f := 46) rfl ?_); refine goesA_ (some 8) Try.func46 #[.agg #[.int .u64 a0_0, .int .u64 a0_1], .agg #[.int .u64 a1_0, .int .u64 a1_1]] ?_; (with_reducible refine (spigotref01_Cmp.calls k a0_0 a0_1 a1_0 a1_1 t198 _ A3.out).mono ?_); rintro e w24 ⟨rfl, hb⟩; refine ⟨_, rfl, ?_⟩; replace BK195 := bb_ BK195 hb; replace BK196 := bb_ BK196 hb; replace BK197 := bb_ BK197 hb; replace HB := bs_ w hb; clear hb; obtain ⟨_, _, _, _⟩ := ce2_ BK195; obtain ⟨_, _, _, _⟩ := ce2_ BK196) | ((with_reducible refine gate_callee (f := 59) rfl ?_); refine goesA_ (some 13) Try.func59 #[.agg #[.int .u64 a0_0, .int .u64 a0_1], .agg #[.int .u64 a1_0, .int .u64 a1_1]] ?_; (with_reducible refine (spigotref01_Less.calls a0_0 a0_1 a1_0 a1_1 t199 t200 _ A15.out).mono ?_); rintro e w27 ⟨rfl, hb⟩; refine ⟨_, rfl, ?_⟩; replace BK195 := bb_ BK195 hb; replace BK196 := bb_ BK196 hb; replace BK197 := bb_ BK197 hb; replace HB := bs_ w hb; clear hb; obtain ⟨_, _, _, _⟩ := ce2_ BK197))
  refine bodyPost_ret (results_ct rfl _ _ gb197 26 #[.int .u64 t199, .int .u64 t200] (0, 0) _ rfl (bp2_ (bq_ BK197)) Try.underlying26 rfl (by kernel_rfl)) rfl ?_
  exact fi_

end Go.Proofs.Ytnijohomnajngaa.X
