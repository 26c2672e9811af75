-- written by xprint.py, a program of this session over the kit's print
import Derived.Test.YtbfdpodlnijeoaaX0
namespace Go.Proofs.Ytbfdpodlnijeoaa.X
open Go.RowKit Go.Proofs.YtbfdpodlnijeoaaW.PrintWords Go.Proofs.YtbfdpodlnijeoaaW.PrintLast Go.Proofs.YtbfdpodlnijeoaaW.PrintMore
attribute [local go_sem] max2_int min2_int max_two min_two max_three min_three max_four min_four   -- for this text's walks alone
set_option linter.unusedVariables false
set_option linter.unusedSimpArgs false

/-! ### spigotref42_Valid: function 13 -/
def spigotref42_Valid.f (a0_0 : Int) (a0_1 : Int) (a0_2 : Int) (a0_3 : Int) : Option (Bool) := if a0_0 < 1 then (some false) else (if a0_0 > 4 then (some false) else (if a0_1 < 0 then (some false) else (if a0_3 < 0 then (some false) else (if a0_3 > 1000000000 then (some false) else (if a0_0 = 2 then (some true) else (some (a0_3 == 0)))))))
set_option maxHeartbeats 8000000 in
set_option maxRecDepth 100000 in
theorem spigotref42_Valid.calls (a0_0 : Int) (a0_1 : Int) (a0_2 : Int) (a0_3 : Int) (r : Bool) (w : World) (h : spigotref42_Valid.f a0_0 a0_1 a0_2 a0_3 = some r) :
  Calls Try.prog 13 #[.agg #[.int .u8 a0_0, .int .i64 a0_1, .int .u64 a0_2, .int .i64 a0_3]] w fun e w' => e = .returned (.bool r) ∧ Below w.heap.size w w' := by
 have hu31 := Try.underlying31
 have HB := Aside0.mk (Below.refl w.heap.size w)
 have H : (if a0_0 < 1 then (some false) else (if a0_0 > 4 then (some false) else (if a0_1 < 0 then (some false) else (if a0_3 < 0 then (some false) else (if a0_3 > 1000000000 then (some false) else (if a0_0 = 2 then (some true) else (some (a0_3 == 0)))))))) = some r := h
 clear h
 by_cases c2 : a0_0 < 1
 ·rw [if_pos c2] at H
  have c2b0 : decide (a0_0 < 1) = true := decide_eq_true c2
  clear c2
  obtain rfl := Option.some.inj H
  go_enter Try.func13, Try.ntmps13
  go_wp2_with (first | ((with_reducible refine gate_dst (N := 1) rfl ?_); (try refine ug_ (by rfl) ?_); refine bx_ #[.int .u8 a0_0, .int .i64 a0_1, .int .u64 a0_2, .int .i64 a0_3] 31 ?_; intro gb285 hg w3 BK285 hb; have GW285 := bz_ w hg; have GE285 := GW285; replace HB := bs_ w hb; clear hb hg; replace hc285 := ce4_ BK285))
  go_ret
  exact fi_
 ·rw [if_neg c2] at H
  have c2b0 : decide (a0_0 < 1) = false := decide_eq_false c2
  clear c2
  by_cases c5 : a0_0 > 4
  ·rw [if_pos c5] at H
   have c5b0 : decide (4 < a0_0) = true := decide_eq_true c5
   clear c5
   obtain rfl := Option.some.inj H
   go_enter Try.func13, Try.ntmps13
   go_wp2_with (first | ((with_reducible refine gate_dst (N := 1) rfl ?_); (try refine ug_ (by rfl) ?_); refine bx_ #[.int .u8 a0_0, .int .i64 a0_1, .int .u64 a0_2, .int .i64 a0_3] 31 ?_; intro gb285 hg w6 BK285 hb; have GW285 := bz_ w hg; have GE285 := GW285; replace HB := bs_ w hb; clear hb hg; replace hc285 := ce4_ BK285))
   go_ret
   exact fi_
  ·rw [if_neg c5] at H
   have c5b0 : decide (4 < a0_0) = false := decide_eq_false c5
   clear c5
   by_cases c8 : a0_1 < 0
   ·rw [if_pos c8] at H
    have c8b0 : decide (a0_1 < 0) = true := decide_eq_true c8
    clear c8
    obtain rfl := Option.some.inj H
    go_enter Try.func13, Try.ntmps13
    go_wp2_with (first | ((with_reducible refine gate_dst (N := 1) rfl ?_); (try refine ug_ (by rfl) ?_); refine bx_ #[.int .u8 a0_0, .int .i64 a0_1, .int .u64 a0_2, .int .i64 a0_3] 31 ?_; intro gb285 hg w9 BK285 hb; have GW285 := bz_ w hg; have GE285 := GW285; replace HB := bs_ w hb; clear hb hg; replace hc285 := ce4_ BK285))
    go_ret
    exact fi_
   ·rw [if_neg c8] at H
    have c8b0 : decide (a0_1 < 0) = false := decide_eq_false c8
    clear c8
    by_cases c11 : a0_3 < 0
    ·rw [if_pos c11] at H
     have c11b0 : decide (a0_3 < 0) = true := decide_eq_true c11
     clear c11
     obtain rfl := Option.some.inj H
     go_enter Try.func13, Try.ntmps13
     go_wp2_with (first | ((with_reducible refine gate_dst (N := 1) rfl ?_); (try refine ug_ (by rfl) ?_); refine bx_ #[.int .u8 a0_0, .int .i64 a0_1, .int .u64 a0_2, .int .i64 a0_3] 31 ?_; intro gb285 hg w12 BK285 hb; have GW285 := bz_ w hg; have GE285 := GW285; replace HB := bs_ w hb; clear hb hg; replace hc285 := ce4_ BK285))
     go_ret
     exact fi_
    ·rw [if_neg c11] at H
     have c11b0 : decide (a0_3 < 0) = false := decide_eq_false c11
     clear c11
     by_cases c14 : a0_3 > 1000000000
     ·rw [if_pos c14] at H
      have c14b0 : decide (1000000000 < a0_3) = true := decide_eq_true c14
      clear c14
      obtain rfl := Option.some.inj H
      go_enter Try.func13, Try.ntmps13
      go_wp2_with (first | ((with_reducible refine gate_dst (N := 1) rfl ?_); (try refine ug_ (by rfl) ?_); refine bx_ #[.int .u8 a0_0, .int .i64 a0_1, .int .u64 a0_2, .int .i64 a0_3] 31 ?_; intro gb285 hg w15 BK285 hb; have GW285 := bz_ w hg; have GE285 := GW285; replace HB := bs_ w hb; clear hb hg; replace hc285 := ce4_ BK285))
      go_ret
      exact fi_
     ·rw [if_neg c14] at H
      have c14b0 : decide (1000000000 < a0_3) = false := decide_eq_false c14
      clear c14
      by_cases c17 : a0_0 = 2
      ·rw [if_pos c17] at H
       have c17b0 : (a0_0 == 2) = true := beq_iff_eq.mpr c17
       have c17b1 : (a0_0 != 2) = false := bne_eq_false_iff_eq.mpr c17
       clear c17
       obtain rfl := Option.some.inj H
       go_enter Try.func13, Try.ntmps13
       go_wp2_with (first | ((with_reducible refine gate_dst (N := 1) rfl ?_); (try refine ug_ (by rfl) ?_); refine bx_ #[.int .u8 a0_0, .int .i64 a0_1, .int .u64 a0_2, .int .i64 a0_3] 31 ?_; intro gb285 hg w18 BK285 hb; have GW285 := bz_ w hg; have GE285 := GW285; replace HB := bs_ w hb; clear hb hg; replace hc285 := ce4_ BK285))
       go_ret
       exact fi_
      ·rw [if_neg c17] at H
       have c17b0 : (a0_0 == 2) = false := beq_eq_false_iff_ne.mpr c17
       have c17b1 : (a0_0 != 2) = true := bne_iff_ne.mpr c17
       obtain rfl := Option.some.inj H
       go_enter Try.func13, Try.ntmps13
       go_wp2_with (first | ((with_reducible refine gate_dst (N := 1) rfl ?_); (try refine ug_ (by rfl) ?_); refine bx_ #[.int .u8 a0_0, .int .i64 a0_1, .int .u64 a0_2, .int .i64 a0_3] 31 ?_; intro gb285 hg w20 BK285 hb; have GW285 := bz_ w hg; have GE285 := GW285; replace HB := bs_ w hb; clear hb hg; replace hc285 := ce4_ BK285))
       go_ret
       exact fi_

end Go.Proofs.Ytbfdpodlnijeoaa.X
