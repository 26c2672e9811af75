-- written by xprint.py, a program of this session over the kit's print
import Derived.Test.YtnijohomnajngaaX0
import Derived.Test.YtnijohomnajngaaX14
import Derived.Test.YtnijohomnajngaaX29
namespace Go.Proofs.Ytnijohomnajngaa.X
open Go.RowKit Go.Proofs.YtnijohomnajngaaW.PrintWords Go.Proofs.YtnijohomnajngaaW.PrintLast Go.Proofs.YtnijohomnajngaaW.PrintMore
attribute [local go_sem] max2_int min2_int max_two min_two max_three min_three max_four min_four   -- for this text's walks alone
set_option linter.unusedVariables false
set_option linter.unusedSimpArgs false

/-! ### spigotref01_Up: function 52 -/
def spigotref01_Up.f (k : Nat) (a0_0 : Int) (a0_1 : Int) (a1 : Int) : Option (Int × Int × Int) := (spigotref01_Div.f k a0_0 a0_1 a1).bind fun bt481 => (if bt481.2.2.2 = 0 then (if bt481.2.2.1 > 0 then ((spigotref01_Add.f bt481.1 bt481.2.1 0 1).bind fun bt486 => (some (bt486.1, bt486.2.1, 0))) else (some (bt481.1, bt481.2.1, 0))) else (some (0, 0, bt481.2.2.2)))
theorem spigotref01_Up.mono : ∀ a0 a1 a2 k, LeO (spigotref01_Up.f k a0 a1 a2) (spigotref01_Up.f (k + 1) a0 a1 a2) := by
  intro a0 a1 a2 k
  unfold spigotref01_Up.f
  repeat' first
      | (with_reducible exact spigotref01_Div.mono _ _ _ _)
      | (with_reducible exact LeO.refl _)
      | (with_reducible exact LeO.none _)
      | (with_reducible refine LeO.ite ?_ ?_)
      | (with_reducible refine LeO.bind ?_ (fun _ => ?_))
      | exact spigotref01_Div.mono _ _ _ _
      | exact LeO.none _
      | refine LeO.ite ?_ ?_
      | refine LeO.bind ?_ (fun _ => ?_)
set_option maxHeartbeats 8000000 in
set_option maxRecDepth 100000 in
theorem spigotref01_Up.calls (k : Nat) (a0_0 : Int) (a0_1 : Int) (a1 : Int) (r1 : Int) (r2 : Int) (r3 : Int) (w : World) (h : spigotref01_Up.f k a0_0 a0_1 a1 = some (r1, r2, r3)) :
  Calls Try.prog 52 #[.agg #[.int .u64 a0_0, .int .u64 a0_1], .int .u64 a1] w fun e w' => e = .returned (.tuple #[.agg #[.int .u64 r1, .int .u64 r2], .int .i64 r3]) ∧ Below w.heap.size w w' := by
 have hu26 := Try.underlying26
 have HB := Aside0.mk (Below.refl w.heap.size w)
 have H : ((spigotref01_Div.f k a0_0 a0_1 a1).bind fun bt481 => (if bt481.2.2.2 = 0 then (if bt481.2.2.1 > 0 then ((spigotref01_Add.f bt481.1 bt481.2.1 0 1).bind fun bt486 => (some (bt486.1, bt486.2.1, 0))) else (some (bt481.1, bt481.2.1, 0))) else (some (0, 0, bt481.2.2.2)))) = some (r1, r2, r3) := h
 clear h
 obtain ⟨⟨t481, t482, t483, t484⟩, A3, H⟩ := bo_ H
 try dsimp only at H
 by_cases c4 : t484 = 0
 ·rw [if_pos c4] at H
  have c4b0 : (t484 == 0) = true := beq_iff_eq.mpr c4
  have c4b1 : (t484 != 0) = false := bne_eq_false_iff_eq.mpr c4
  clear c4
  by_cases c5 : t483 > 0
  ·rw [if_pos c5] at H
   have c5b0 : decide (0 < t483) = true := decide_eq_true c5
   clear c5
   obtain ⟨⟨t486, t487, t488⟩, A6, H⟩ := bo_ H
   replace H : (some (t486, t487, 0)) = some (r1, r2, r3) := H
   simp only [Option.some.injEq, Prod.mk.injEq] at H
   obtain ⟨rfl, rfl, rfl⟩ := H
   go_enter Try.func52, Try.ntmps52
   go_wp2_with (first | ((with_reducible refine gate_dst (N := 2) rfl ?_); refine bx_ #[.int .u64 a0_0, .int .u64 a0_1] 26 ?_; intro gb479 hg w7 BK479 hb; have GW479 := bz_ w hg; have GE479 := GW479; replace HB := bs_ w hb; clear hb hg) | ((with_reducible refine gate_dst (N := 4) rfl ?_); refine bx_ #[.int .u64 0, .int .u64 0] 26 ?_; intro gb480 hg w8 BK480 hb; have GW480 := bz_ w hg; have GE480 := GW480; have NB479_480 := bn_ BK479 hg; have NB480_479 := bm_ BK479 hg; replace BK479 := bb_ BK479 hb; replace HB := bs_ w hb; clear hb hg; have hnb9 := NB479_480.out; have hnc9 := NB480_479.out; obtain ⟨_, _, _, _⟩ := ce2_ BK479) | ((with_reducible refine gate_callee (f := 44) rfl ?_); refine goesA_ (some 12) Try.func44 #[.agg #[.int .u64 a0_0, .int .u64 a0_1], .int .u64 a1] ?_; (with_reducible refine (spigotref01_Div.calls k a0_0 a0_1 a1 t481 t482 t483 t484 _ A3.out).mono ?_); rintro e w11 ⟨rfl, hb⟩; refine ⟨_, rfl, ?_⟩; replace BK479 := bb_ BK479 hb; replace BK480 := bb_ BK480 hb; replace HB := bs_ w hb; clear hb) | ((with_reducible refine gate_dst (N := 6) rfl ?_); refine bx_ #[.int .u64 0, .int .u64 0] 26 ?_; intro gb485 hg w12 BK485 hb; have GW485 := bz_ w hg; have GE485 := GW485; have NB479_485 := bn_ BK479 hg; have NB485_479 := bm_ BK479 hg; have NB480_485 := bn_ BK480 hg; have NB485_480 := bm_ BK480 hg; replace BK479 := bb_ BK479 hb; replace BK480 := bb_ BK480 hb; replace HB := bs_ w hb; clear hb hg; have hnb13 := NB485_479.out; have hnc13 := NB479_485.out; have hnb14 := NB485_480.out; have hnc14 := NB480_485.out; obtain ⟨_, _, _, _⟩ := ce2_ BK485) | ((with_reducible refine gate_callee (f := 58) rfl ?_); refine goesA_ (some 25) Try.func58 #[.agg #[.int .u64 t481, .int .u64 t482], .agg #[.int .u64 0, .int .u64 1]] ?_; (with_reducible refine (spigotref01_Add.calls t481 t482 0 1 t486 t487 t488 _ A6.out).mono ?_); rintro e w16 ⟨rfl, hb⟩; refine ⟨_, rfl, ?_⟩; replace BK479 := bf_ BK479 hb; replace BK480 := bf_ BK480 hb; replace BK485 := Aside0.mk (blk_below (g := gb485) (o := .cells #[.int .u64 t481, .int .u64 t482] 26 (0, 0)) (bp2_ (bq_ BK485)) hb); replace HB := bs_ w hb; clear hb; obtain ⟨_, _, _, _⟩ := ce2_ BK485; obtain ⟨_, _, _, _⟩ := ce2_ BK480))
   refine bodyPost_ret (results_ct rfl _ _ gb480 26 #[.int .u64 t486, .int .u64 t487] (0, 0) _ rfl (blk_put (cs := #[.int .u64 t486, .int .u64 0]) (blk_put (cs := #[.int .u64 0, .int .u64 0]) (bt_ BK480) 0 _ rfl) 1 _ rfl) Try.underlying26 rfl (by kernel_rfl)) rfl ?_
   exact fi_
  ·rw [if_neg c5] at H
   have c5b0 : decide (0 < t483) = false := decide_eq_false c5
   clear c5
   simp only [Option.some.injEq, Prod.mk.injEq] at H
   obtain ⟨rfl, rfl, rfl⟩ := H
   go_enter Try.func52, Try.ntmps52
   go_wp2_with (first | ((with_reducible refine gate_dst (N := 2) rfl ?_); refine bx_ #[.int .u64 a0_0, .int .u64 a0_1] 26 ?_; intro gb479 hg w19 BK479 hb; have GW479 := bz_ w hg; have GE479 := GW479; replace HB := bs_ w hb; clear hb hg) | ((with_reducible refine gate_dst (N := 4) rfl ?_); refine bx_ #[.int .u64 0, .int .u64 0] 26 ?_; intro gb480 hg w20 BK480 hb; have GW480 := bz_ w hg; have GE480 := GW480; have NB479_480 := bn_ BK479 hg; have NB480_479 := bm_ BK479 hg; replace BK479 := bb_ BK479 hb; replace HB := bs_ w hb; clear hb hg; have hnb21 := NB479_480.out; have hnc21 := NB480_479.out; obtain ⟨_, _, _, _⟩ := ce2_ BK479) | ((with_reducible refine gate_callee (f := 44) rfl ?_); refine goesA_ (some 12) Try.func44 #[.agg #[.int .u64 a0_0, .int .u64 a0_1], .int .u64 a1] ?_; (with_reducible refine (spigotref01_Div.calls k a0_0 a0_1 a1 t481 t482 t483 t484 _ A3.out).mono ?_); rintro e w23 ⟨rfl, hb⟩; refine ⟨_, rfl, ?_⟩; replace BK479 := bb_ BK479 hb; replace BK480 := bb_ BK480 hb; replace HB := bs_ w hb; clear hb) | ((with_reducible refine gate_dst (N := 6) rfl ?_); refine bx_ #[.int .u64 0, .int .u64 0] 26 ?_; intro gb485 hg w24 BK485 hb; have GW485 := bz_ w hg; have GE485 := GW485; have NB479_485 := bn_ BK479 hg; have NB485_479 := bm_ BK479 hg; have NB480_485 := bn_ BK480 hg; have NB485_480 := bm_ BK480 hg; replace BK479 := bb_ BK479 hb; replace BK480 := bb_ BK480 hb; replace HB := bs_ w hb; clear hb hg; have hnb25 := NB485_479.out; have hnc25 := NB479_485.out; have hnb26 := NB485_480.out; have hnc26 := NB480_485.out; obtain ⟨_, _, _, _⟩ := ce2_ BK485; obtain ⟨_, _, _, _⟩ := ce2_ BK480))
   refine bodyPost_ret (results_ct rfl _ _ gb480 26 #[.int .u64 t481, .int .u64 t482] (0, 0) _ rfl (blk_put (cs := #[.int .u64 t481, .int .u64 0]) (blk_put (cs := #[.int .u64 0, .int .u64 0]) (bt_ BK480) 0 _ rfl) 1 _ rfl) Try.underlying26 rfl (by kernel_rfl)) rfl ?_
   exact fi_
 ·rw [if_neg c4] at H
  have c4b0 : (t484 == 0) = false := beq_eq_false_iff_ne.mpr c4
  have c4b1 : (t484 != 0) = true := bne_iff_ne.mpr c4
  simp only [Option.some.injEq, Prod.mk.injEq] at H
  obtain ⟨rfl, rfl, rfl⟩ := H
  go_enter Try.func52, Try.ntmps52
  go_wp2_with (first | ((with_reducible refine gate_dst (N := 2) rfl ?_); refine bx_ #[.int .u64 a0_0, .int .u64 a0_1] 26 ?_; intro gb479 hg w29 BK479 hb; have GW479 := bz_ w hg; have GE479 := GW479; replace HB := bs_ w hb; clear hb hg) | ((with_reducible refine gate_dst (N := 4) rfl ?_); refine bx_ #[.int .u64 0, .int .u64 0] 26 ?_; intro gb480 hg w30 BK480 hb; have GW480 := bz_ w hg; have GE480 := GW480; have NB479_480 := bn_ BK479 hg; have NB480_479 := bm_ BK479 hg; replace BK479 := bb_ BK479 hb; replace HB := bs_ w hb; clear hb hg; have hnb31 := NB479_480.out; have hnc31 := NB480_479.out; obtain ⟨_, _, _, _⟩ := ce2_ BK479) | ((with_reducible refine gate_callee (f := 44) rfl ?_); refine goesA_ (some 12) Try.func44 #[.agg #[.int .u64 a0_0, .int .u64 a0_1], .int .u64 a1] ?_; (with_reducible refine (spigotref01_Div.calls k a0_0 a0_1 a1 t481 t482 t483 t484 _ A3.out).mono ?_); rintro e w33 ⟨rfl, hb⟩; refine ⟨_, rfl, ?_⟩; replace BK479 := bb_ BK479 hb; replace BK480 := bb_ BK480 hb; replace HB := bs_ w hb; clear hb) | ((with_reducible refine gate_dst (N := 6) rfl ?_); refine bx_ #[.int .u64 0, .int .u64 0] 26 ?_; intro gb485 hg w34 BK485 hb; have GW485 := bz_ w hg; have GE485 := GW485; have NB479_485 := bn_ BK479 hg; have NB485_479 := bm_ BK479 hg; have NB480_485 := bn_ BK480 hg; have NB485_480 := bm_ BK480 hg; replace BK479 := bb_ BK479 hb; replace BK480 := bb_ BK480 hb; replace HB := bs_ w hb; clear hb hg; have hnb35 := NB485_479.out; have hnc35 := NB479_485.out; have hnb36 := NB485_480.out; have hnc36 := NB480_485.out; obtain ⟨_, _, _, _⟩ := ce2_ BK485; obtain ⟨_, _, _, _⟩ := ce2_ BK480))
  refine bodyPost_ret (results_ct rfl _ _ gb480 26 #[.int .u64 0, .int .u64 0] (0, 0) _ rfl (blk_put (cs := #[.int .u64 0, .int .u64 0]) (blk_put (cs := #[.int .u64 0, .int .u64 0]) (bt_ BK480) 0 _ rfl) 1 _ rfl) Try.underlying26 rfl (by kernel_rfl)) rfl ?_
  exact fi_

end Go.Proofs.Ytnijohomnajngaa.X
