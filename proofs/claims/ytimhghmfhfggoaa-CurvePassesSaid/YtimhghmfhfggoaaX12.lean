-- written by xprint.py, a program of this session over the kit's print
import Derived.Test.YtimhghmfhfggoaaX0
import Derived.Test.YtimhghmfhfggoaaX2
namespace Go.Proofs.Ytimhghmfhfggoaa.X
open Go.RowKit Go.Proofs.YtimhghmfhfggoaaW.PrintWords Go.Proofs.YtimhghmfhfggoaaW.PrintLast Go.Proofs.YtimhghmfhfggoaaW.PrintMore
attribute [local go_sem] max2_int min2_int max_two min_two max_three min_three max_four min_four   -- for this text's walks alone
set_option linter.unusedVariables false
set_option linter.unusedSimpArgs false

attribute [local go_sem high] eqA92
def spigotref01_Cmp.j0 : Nat → Bool → Int → Int → Int → Int → Option (Int)
  | 0, _, _, _, _, _ => none
  | k + 1, x23, x146000, x146001, x147000, x147001 => if x23 = true then (some (-1)) else (if (x146000 == x147000 && (x146001 == x147001)) = true then (some 0) else (some 1))
def spigotref01_Cmp.f (k : Nat) (a0_0 : Int) (a0_1 : Int) (a1_0 : Int) (a1_1 : Int) : Option (Int) := if a0_0 < a1_0 then (spigotref01_Cmp.j0 k true a0_0 a0_1 a1_0 a1_1) else (if a0_0 = a1_0 then (spigotref01_Cmp.j0 k (decide (a0_1 < a1_1)) a0_0 a0_1 a1_0 a1_1) else (spigotref01_Cmp.j0 k false a0_0 a0_1 a1_0 a1_1))
set_option maxHeartbeats 8000000 in
set_option maxRecDepth 100000 in
theorem spigotref01_Cmp.calls (k : Nat) (a0_0 : Int) (a0_1 : Int) (a1_0 : Int) (a1_1 : Int) (r : Int) (w : World) (h : spigotref01_Cmp.f k a0_0 a0_1 a1_0 a1_1 = some r) :
  Calls Try.prog 67 #[.agg #[.int .u64 a0_0, .int .u64 a0_1], .agg #[.int .u64 a1_0, .int .u64 a1_1]] w fun e w' => e = .returned (.int .i64 r) ∧ Below w.heap.size w w' := by
 have hu92 := Try.underlying92
 have HB := Aside0.mk (Below.refl w.heap.size w)
 have H : (if a0_0 < a1_0 then (spigotref01_Cmp.j0 k true a0_0 a0_1 a1_0 a1_1) else (if a0_0 = a1_0 then (spigotref01_Cmp.j0 k (decide (a0_1 < a1_1)) a0_0 a0_1 a1_0 a1_1) else (spigotref01_Cmp.j0 k false a0_0 a0_1 a1_0 a1_1))) = some r := h
 clear h
 have HC3 := Aside0.mk H
 clear H
 go_enter Try.func67, Try.ntmps67
 go_upto_region 1 with (first | ((with_reducible refine gate_dst (N := 2) rfl ?_); (try refine ug_ (by rfl) ?_); refine bx_ #[.int .u64 a0_0, .int .u64 a0_1] 92 ?_; intro gb145 hg w4 BK145 hb; have GW145 := bz_ w hg; replace HB := bs_ w hb; clear hb hg) | ((with_reducible refine gate_dst (N := 3) rfl ?_); (try refine ug_ (by rfl) ?_); refine bx_ #[.int .u64 a1_0, .int .u64 a1_1] 92 ?_; intro gb146 hg w5 BK146 hb; have GW146 := bz_ w hg; have NB145_146 := bn_ BK145 hg; have NB146_145 := bm_ BK145 hg; replace BK145 := bb_ BK145 hb; replace HB := bs_ w hb; clear hb hg))
 (try simp only [Act.put, List.setIfInBounds_toArray, List.set_cons_zero, List.set_cons_succ])
 go_cut [23] (fun v23 wc => ∃ (kq : Nat) (x23_2 : Bool), v23 = .bool x23_2 ∧ Aside0 (spigotref01_Cmp.j0 kq x23_2 a0_0 a0_1 a1_0 a1_1 = some r) ∧ Aside0 (kq ≤ k) ∧ Aside0 (wc.heap[gb145]? = some (.cells #[.int .u64 a0_0, .int .u64 a0_1] 92 (0, 0))) ∧ Aside0 (wc.heap[gb146]? = some (.cells #[.int .u64 a1_0, .int .u64 a1_1] 92 (0, 0))) ∧ Aside0 (Below w.heap.size w wc))
 case first =>
  have H := HC3.out
  clear HC3
  by_cases c6 : a0_0 < a1_0
  ·rw [if_pos c6] at H
   have c6b0 : decide (a0_0 < a1_0) = true := decide_eq_true c6
   clear c6
   (first | rw [c6b0] | (simp only [i64_w, i32_w]; rw [c6b0]) | skip)
   have H' := Aside0.mk H
   clear H
   replace hn145_146 := NB145_146.out
   replace hn146_145 := NB146_145.out
   replace hc145 := ce2_ BK145
   replace hc146 := ce2_ BK146
   go_wp2
   go_meet
   case rel => exact ⟨_, (true), rf_, H', al_, ⟨bq_ BK145⟩, ⟨bq_ BK146⟩, bw_⟩
  ·rw [if_neg c6] at H
   have c6b0 : decide (a0_0 < a1_0) = false := decide_eq_false c6
   clear c6
   (first | rw [c6b0] | (simp only [i64_w, i32_w]; rw [c6b0]) | skip)
   by_cases c10 : a0_0 = a1_0
   ·rw [if_pos c10] at H
    have c10b0 : (a0_0 == a1_0) = true := beq_iff_eq.mpr c10
    have c10b1 : (a0_0 != a1_0) = false := bne_eq_false_iff_eq.mpr c10
    clear c10
    have H' := Aside0.mk H
    clear H
    replace hn145_146 := NB145_146.out
    replace hn146_145 := NB146_145.out
    replace hc145 := ce2_ BK145
    replace hc146 := ce2_ BK146
    go_wp2
    go_meet
    case rel => exact ⟨_, (decide (a0_1 < a1_1)), rf_, H', al_, ⟨bq_ BK145⟩, ⟨bq_ BK146⟩, bw_⟩
   ·rw [if_neg c10] at H
    have c10b0 : (a0_0 == a1_0) = false := beq_eq_false_iff_ne.mpr c10
    have c10b1 : (a0_0 != a1_0) = true := bne_iff_ne.mpr c10
    have H' := Aside0.mk H
    clear H
    replace hn145_146 := NB145_146.out
    replace hn146_145 := NB146_145.out
    replace hc145 := ce2_ BK145
    replace hc146 := ce2_ BK146
    go_wp2
    go_meet
    case rel => exact ⟨_, (false), rf_, H', al_, ⟨bq_ BK145⟩, ⟨bq_ BK146⟩, bw_⟩
 case rest =>
  clear HC3
  obtain ⟨kq, x23_2, rfl, HA, HJ2, BK145, BK146, HB⟩ := hcut
  cases kq with
  | zero => exact absurd HA.out (by simp [spigotref01_Cmp.j0])
  | succ kj2 =>
   have H := HA.out
   clear HA
   simp only [spigotref01_Cmp.j0] at H
   by_cases c17 : x23_2 = true
   ·subst c17
    replace H : (some (-1)) = some r := by rw [if_pos rfl] at H; exact H
    obtain rfl := Option.some.inj H
    go_wp2
    go_ret
    exact fi_
   ·replace c17 := Bool.eq_false_iff.mpr c17
    subst c17
    rw [if_neg (show ¬ (false = true) by decide)] at H
    try dsimp only at H
    by_cases c18 : (a0_0 == a1_0 && (a0_1 == a1_1)) = true
    ·rw [if_pos c18] at H
     have c18b0 : (a0_0 == a1_0 && (a0_1 == a1_1)) = true := c18
     (try (have c18b1 : decide (a0_0 = a1_0 && (a0_1 == a1_1)) = true := by simpa using c18))
     (try (have c18b2 : (a0_0 == a1_0 && (a0_1 == a1_1)) = true := by simpa using c18))
     clear c18
     obtain rfl := Option.some.inj H
     replace hn145_146 := NB145_146.out
     replace hn146_145 := NB146_145.out
     replace hc145 := ce2_ BK145
     replace hc146 := ce2_ BK146
     go_wp2
     go_ret
     exact fi_
    ·rw [if_neg c18] at H
     have c18b0 : (a0_0 == a1_0 && (a0_1 == a1_1)) = false := by simpa using c18
     (try (have c18b1 : decide (a0_0 = a1_0 && (a0_1 == a1_1)) = false := by simpa using c18))
     (try (have c18b2 : (a0_0 == a1_0 && (a0_1 == a1_1)) = false := by simpa using c18))
     (try (have c18b3 : ¬ (a0_0 = a1_0 && (a0_1 == a1_1)) := by simpa using c18))
     clear c18
     obtain rfl := Option.some.inj H
     replace hn145_146 := NB145_146.out
     replace hn146_145 := NB146_145.out
     replace hc145 := ce2_ BK145
     replace hc146 := ce2_ BK146
     go_wp2
     go_ret
     exact fi_

def spigotref01_Less.f (a0_0 : Int) (a0_1 : Int) (a1_0 : Int) (a1_1 : Int) : Option (Int × Int) := if a1_1 > a0_1 then (some (IntKind.u64.wrap ((IntKind.u64.wrap (a0_0 - a1_0)) - 1), IntKind.u64.wrap (a0_1 - a1_1))) else (some (IntKind.u64.wrap (a0_0 - a1_0), IntKind.u64.wrap (a0_1 - a1_1)))
set_option maxHeartbeats 8000000 in
set_option maxRecDepth 100000 in
theorem spigotref01_Less.calls (a0_0 : Int) (a0_1 : Int) (a1_0 : Int) (a1_1 : Int) (r1 : Int) (r2 : Int) (w : World) (h : spigotref01_Less.f a0_0 a0_1 a1_0 a1_1 = some (r1, r2)) :
  Calls Try.prog 68 #[.agg #[.int .u64 a0_0, .int .u64 a0_1], .agg #[.int .u64 a1_0, .int .u64 a1_1]] w fun e w' => e = .returned (.agg #[.int .u64 r1, .int .u64 r2]) ∧ Below w.heap.size w w' := by
 have hu92 := Try.underlying92
 have HB := Aside0.mk (Below.refl w.heap.size w)
 have H : (if a1_1 > a0_1 then (some (IntKind.u64.wrap ((IntKind.u64.wrap (a0_0 - a1_0)) - 1), IntKind.u64.wrap (a0_1 - a1_1))) else (some (IntKind.u64.wrap (a0_0 - a1_0), IntKind.u64.wrap (a0_1 - a1_1)))) = some (r1, r2) := h
 clear h
 by_cases c3 : a1_1 > a0_1
 ·rw [if_pos c3] at H
  have c3b0 : decide (a0_1 < a1_1) = true := decide_eq_true c3
  clear c3
  simp only [Option.some.injEq, Prod.mk.injEq] at H
  obtain ⟨rfl, rfl⟩ := H
  go_enter Try.func68, Try.ntmps68
  go_wp2_with (first | ((with_reducible refine gate_dst (N := 2) rfl ?_); refine bx_ #[.int .u64 a0_0, .int .u64 a0_1] 92 ?_; intro gb147 hg w4 BK147 hb; have GW147 := bz_ w hg; have GE147 := GW147; replace HB := bs_ w hb; clear hb hg) | ((with_reducible refine gate_dst (N := 3) rfl ?_); refine bx_ #[.int .u64 a1_0, .int .u64 a1_1] 92 ?_; intro gb148 hg w5 BK148 hb; have GW148 := bz_ w hg; have GE148 := GW148; have NB147_148 := bn_ BK147 hg; have NB148_147 := bm_ BK147 hg; replace BK147 := bb_ BK147 hb; replace HB := bs_ w hb; clear hb hg) | ((with_reducible refine gate_dst (N := 4) rfl ?_); refine bx_ #[.int .u64 0, .int .u64 0] 92 ?_; intro gb149 hg w6 BK149 hb; have GW149 := bz_ w hg; have GE149 := GW149; have NB147_149 := bn_ BK147 hg; have NB149_147 := bm_ BK147 hg; have NB148_149 := bn_ BK148 hg; have NB149_148 := bm_ BK148 hg; replace BK147 := bb_ BK147 hb; replace BK148 := bb_ BK148 hb; replace HB := bs_ w hb; clear hb hg; replace hn148_147 := NB148_147.out; replace hn147_148 := NB147_148.out; replace hn148_149 := NB148_149.out; replace hn149_148 := NB149_148.out; replace hc148 := ce2_ BK148; replace hn147_149 := NB147_149.out; replace hn149_147 := NB149_147.out; replace hc147 := ce2_ BK147; replace hc149 := ce2_ BK149))
  refine bodyPost_ret (results_cell_row rfl _ _ gb149 92 #[.int .u64 (IntKind.u64.wrap ((IntKind.u64.wrap (a0_0 - a1_0)) - 1)), .int .u64 (IntKind.u64.wrap (a0_1 - a1_1))] (0, 0) _ rfl (bp2_ (bq_ BK149)) Try.underlying92 rfl (by kernel_rfl)) rfl ?_
  exact fi_
 ·rw [if_neg c3] at H
  have c3b0 : decide (a0_1 < a1_1) = false := decide_eq_false c3
  clear c3
  simp only [Option.some.injEq, Prod.mk.injEq] at H
  obtain ⟨rfl, rfl⟩ := H
  go_enter Try.func68, Try.ntmps68
  go_wp2_with (first | ((with_reducible refine gate_dst (N := 2) rfl ?_); refine bx_ #[.int .u64 a0_0, .int .u64 a0_1] 92 ?_; intro gb147 hg w13 BK147 hb; have GW147 := bz_ w hg; have GE147 := GW147; replace HB := bs_ w hb; clear hb hg) | ((with_reducible refine gate_dst (N := 3) rfl ?_); refine bx_ #[.int .u64 a1_0, .int .u64 a1_1] 92 ?_; intro gb148 hg w14 BK148 hb; have GW148 := bz_ w hg; have GE148 := GW148; have NB147_148 := bn_ BK147 hg; have NB148_147 := bm_ BK147 hg; replace BK147 := bb_ BK147 hb; replace HB := bs_ w hb; clear hb hg) | ((with_reducible refine gate_dst (N := 4) rfl ?_); refine bx_ #[.int .u64 0, .int .u64 0] 92 ?_; intro gb149 hg w15 BK149 hb; have GW149 := bz_ w hg; have GE149 := GW149; have NB147_149 := bn_ BK147 hg; have NB149_147 := bm_ BK147 hg; have NB148_149 := bn_ BK148 hg; have NB149_148 := bm_ BK148 hg; replace BK147 := bb_ BK147 hb; replace BK148 := bb_ BK148 hb; replace HB := bs_ w hb; clear hb hg; replace hn148_147 := NB148_147.out; replace hn147_148 := NB147_148.out; replace hn148_149 := NB148_149.out; replace hn149_148 := NB149_148.out; replace hc148 := ce2_ BK148; replace hn147_149 := NB147_149.out; replace hn149_147 := NB149_147.out; replace hc147 := ce2_ BK147; replace hc149 := ce2_ BK149))
  refine bodyPost_ret (results_cell_row rfl _ _ gb149 92 #[.int .u64 (IntKind.u64.wrap (a0_0 - a1_0)), .int .u64 (IntKind.u64.wrap (a0_1 - a1_1))] (0, 0) _ rfl (bp2_ (bq_ BK149)) Try.underlying92 rfl (by kernel_rfl)) rfl ?_
  exact fi_

end Go.Proofs.Ytimhghmfhfggoaa.X
