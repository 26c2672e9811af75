-- written by xprint.py, a program of this session over the kit's print
import Derived.Test.YtimhghmfhfggoaaX0
import Derived.Test.YtimhghmfhfggoaaX12
namespace Go.Proofs.Ytimhghmfhfggoaa.X
open Go.RowKit Go.Proofs.YtimhghmfhfggoaaW.PrintWords Go.Proofs.YtimhghmfhfggoaaW.PrintLast Go.Proofs.YtimhghmfhfggoaaW.PrintMore
attribute [local go_sem] max2_int min2_int max_two min_two max_three min_three max_four min_four   -- for this text's walks alone
set_option linter.unusedVariables false
set_option linter.unusedSimpArgs false

mutual
def spigotref01_Div.l0 : Nat → Int → Int → Int → Int → Int → Int → Int → Int → Option (Int × Int × Int × Int)
  | 0, _, _, _, _, _, _, _, _ => none
  | k + 1, x1, x9, x151000, x151001, x153000, x153001, x154000, x154001 => if x9 ≥ 0 then (if 0 ≤ x9 then (if x9 > 63 then (if 0 ≤ (wrap64 (x9 - 64)) then (spigotref01_Div.j1 k x1 x9 (Go.bits .and .u64 (shr .u64 x151000 (wrap64 (x9 - 64))) 1) x151000 x151001 x153000 x153001 x154000 x154001) else (none)) else (spigotref01_Div.j1 k x1 x9 (Go.bits .and .u64 (shr .u64 x151001 x9) 1) x151000 x151001 x153000 x153001 x154000 x154001)) else (none)) else (some (x153000, x153001, x154001, 0))
def spigotref01_Div.j1 : Nat → Int → Int → Int → Int → Int → Int → Int → Int → Int → Option (Int × Int × Int × Int)
  | 0, _, _, _, _, _, _, _, _, _ => none
  | k + 1, x1, x9, x10, x151000, x151001, x153000, x153001, x154000, x154001 => (spigotref01_Cmp.f k (IntKind.u64.wrap ((IntKind.u64.wrap (x154000 * 2)) + (x154001 / 9223372036854775808))) (IntKind.u64.wrap ((IntKind.u64.wrap (x154001 * 2)) + x10)) 0 x1).bind fun t154 => (if t154 ≥ 0 then ((spigotref01_Less.f (IntKind.u64.wrap ((IntKind.u64.wrap (x154000 * 2)) + (x154001 / 9223372036854775808))) (IntKind.u64.wrap ((IntKind.u64.wrap (x154001 * 2)) + x10)) 0 x1).bind fun bt155 => (spigotref01_Div.l0 k x1 (wrap64 (x9 - 1)) x151000 x151001 (IntKind.u64.wrap ((IntKind.u64.wrap (x153000 * 2)) + (x153001 / 9223372036854775808))) (IntKind.u64.wrap ((IntKind.u64.wrap (x153001 * 2)) + 1)) bt155.1 bt155.2)) else (spigotref01_Div.l0 k x1 (wrap64 (x9 - 1)) x151000 x151001 (IntKind.u64.wrap ((IntKind.u64.wrap (x153000 * 2)) + (x153001 / 9223372036854775808))) (IntKind.u64.wrap (x153001 * 2)) (IntKind.u64.wrap ((IntKind.u64.wrap (x154000 * 2)) + (x154001 / 9223372036854775808))) (IntKind.u64.wrap ((IntKind.u64.wrap (x154001 * 2)) + x10))))
end
def spigotref01_Div.f (k : Nat) (a0_0 : Int) (a0_1 : Int) (a1 : Int) : Option (Int × Int × Int × Int) := if a1 = 0 then (some (0, 0, 0, 26)) else (spigotref01_Div.l0 k a1 127 a0_0 a0_1 0 0 0 0)
set_option maxHeartbeats 8000000 in
set_option maxRecDepth 100000 in
theorem spigotref01_Div.calls (k : Nat) (a0_0 : Int) (a0_1 : Int) (a1 : Int) (r1 : Int) (r2 : Int) (r3 : Int) (r4 : Int) (w : World) (h : spigotref01_Div.f k a0_0 a0_1 a1 = some (r1, r2, r3, r4)) :
  Calls Try.prog 52 #[.agg #[.int .u64 a0_0, .int .u64 a0_1], .int .u64 a1] w fun e w' => e = .returned (.tuple #[.agg #[.int .u64 r1, .int .u64 r2], .int .u64 r3, .int .i64 r4]) ∧ Below w.heap.size w w' := by
 have hu92 := Try.underlying92
 have HB := Aside0.mk (Below.refl w.heap.size w)
 have H : (if a1 = 0 then (some (0, 0, 0, 26)) else (spigotref01_Div.l0 k a1 127 a0_0 a0_1 0 0 0 0)) = some (r1, r2, r3, r4) := h
 clear h
 by_cases c3 : a1 = 0
 ·rw [if_pos c3] at H
  have c3b0 : (a1 == 0) = true := beq_iff_eq.mpr c3
  have c3b1 : (a1 != 0) = false := bne_eq_false_iff_eq.mpr c3
  clear c3
  simp only [Option.some.injEq, Prod.mk.injEq] at H
  obtain ⟨rfl, rfl, rfl, rfl⟩ := H
  go_enter Try.func52, Try.ntmps52
  go_wp2_with (first | ((with_reducible refine gate_dst (N := 2) rfl ?_); refine bx_ #[.int .u64 a0_0, .int .u64 a0_1] 92 ?_; intro gb150 hg w4 BK150 hb; have GW150 := bz_ w hg; have GE150 := GW150; replace HB := bs_ w hb; clear hb hg) | ((with_reducible refine gate_dst (N := 4) rfl ?_); refine bx_ #[.int .u64 0, .int .u64 0] 92 ?_; intro gb151 hg w5 BK151 hb; have GW151 := bz_ w hg; have GE151 := GW151; have NB150_151 := bn_ BK150 hg; have NB151_150 := bm_ BK150 hg; replace BK150 := bb_ BK150 hb; replace HB := bs_ w hb; clear hb hg; replace hn151_150 := NB151_150.out; replace hn150_151 := NB150_151.out; replace hc151 := ce2_ BK151))
  refine bodyPost_ret (results_ctt rfl _ _ gb151 92 #[.int .u64 0, .int .u64 0] (0, 0) _ rfl (bp2_ (bq_ BK151)) Try.underlying92 rfl (by kernel_rfl)) rfl ?_
  exact fi_
 ·rw [if_neg c3] at H
  have c3b0 : (a1 == 0) = false := beq_eq_false_iff_ne.mpr c3
  have c3b1 : (a1 != 0) = true := bne_iff_ne.mpr c3
  have H' := Aside0.mk H
  clear H
  go_enter Try.func52, Try.ntmps52
  go_wp2_with (first | ((with_reducible refine gate_dst (N := 2) rfl ?_); refine bx_ #[.int .u64 a0_0, .int .u64 a0_1] 92 ?_; intro gb150 hg w8 BK150 hb; have GW150 := bz_ w hg; have GE150 := GW150; replace HB := bs_ w hb; clear hb hg) | ((with_reducible refine gate_dst (N := 4) rfl ?_); refine bx_ #[.int .u64 0, .int .u64 0] 92 ?_; intro gb151 hg w9 BK151 hb; have GW151 := bz_ w hg; have GE151 := GW151; have NB150_151 := bn_ BK150 hg; have NB151_150 := bm_ BK150 hg; replace BK150 := bb_ BK150 hb; replace HB := bs_ w hb; clear hb hg) | ((with_reducible refine gate_dst (N := 7) rfl ?_); refine bx_ #[.int .u64 0, .int .u64 0] 92 ?_; intro gb152 hg w10 BK152 hb; have GW152 := bz_ w hg; have NB150_152 := bn_ BK150 hg; have NB152_150 := bm_ BK150 hg; have NB151_152 := bn_ BK151 hg; have NB152_151 := bm_ BK151 hg; replace BK150 := bb_ BK150 hb; replace BK151 := bb_ BK151 hb; replace HB := bs_ w hb; clear hb hg) | ((with_reducible refine gate_dst (N := 8) rfl ?_); refine bx_ #[.int .u64 0, .int .u64 0] 92 ?_; intro gb153 hg w11 BK153 hb; have GW153 := bz_ w hg; have NB150_153 := bn_ BK150 hg; have NB153_150 := bm_ BK150 hg; have NB151_153 := bn_ BK151 hg; have NB153_151 := bm_ BK151 hg; have NB152_153 := bn_ BK152 hg; have NB153_152 := bm_ BK152 hg; replace BK150 := bb_ BK150 hb; replace BK151 := bb_ BK151 hb; replace BK152 := bb_ BK152 hb; replace HB := bs_ w hb; clear hb hg))
  go_loopg [9] k (fun kq v9 w' => ∃ (x9_1 : Int) (x153000_1 : Int) (x153001_1 : Int) (x154000_1 : Int) (x154001_1 : Int), v9 = .int .i64 x9_1 ∧ Aside0 (spigotref01_Div.l0 kq a1 x9_1 a0_0 a0_1 x153000_1 x153001_1 x154000_1 x154001_1 = some (r1, r2, r3, r4)) ∧ Aside0 (kq ≤ k) ∧ Aside0 (w'.heap[gb150]? = some (.cells #[.int .u64 a0_0, .int .u64 a0_1] 92 (0, 0))) ∧ Aside0 (w'.heap[gb151]? = some (.cells #[.int .u64 0, .int .u64 0] 92 (0, 0))) ∧ Aside0 (w'.heap[gb152]? = some (.cells #[.int .u64 x153000_1, .int .u64 x153001_1] 92 (0, 0))) ∧ Aside0 (w'.heap[gb153]? = some (.cells #[.int .u64 x154000_1, .int .u64 x154001_1] 92 (0, 0))) ∧ Aside0 (Below w.heap.size w w'))
  case atStart => exact ⟨(127), (0), (0), (0), (0), rf_, H', ⟨Nat.le_refl _⟩, ⟨bq_ BK150⟩, ⟨bq_ BK151⟩, ⟨bq_ BK152⟩, ⟨bq_ BK153⟩, bw_⟩
  case round =>
   clear H'
   try clear c3
   try clear c3b0
   try clear c3b1
   obtain ⟨x9_1, x153000_1, x153001_1, x154000_1, x154001_1, rfl, HA, HK1, BK150, BK151, BK152, BK153, HB⟩ := hrel
   cases gk with
   | zero => exact absurd HA.out (by simp [spigotref01_Div.l0])
   | succ k1 =>
    have H := HA.out
    clear HA
    simp only [spigotref01_Div.l0] at H
    by_cases c12 : x9_1 ≥ 0
    ·rw [if_pos c12] at H
     have c12b0 : decide (0 ≤ x9_1) = true := decide_eq_true c12
     clear c12
     by_cases c13 : 0 ≤ x9_1
     rotate_left
     ·rw [if_neg c13] at H; exact absurd H (by simp)
     rw [if_pos c13] at H
     have c13b0 := eq_true c13
     have c13b1 : decide (0 ≤ x9_1) = true := decide_eq_true c13
     clear c13
     obtain ⟨ji14, hji14⟩ : ∃ j_ : Int, (shr .u64 a0_1 x9_1) = j_ := ⟨_, rfl⟩
     replace H : (if x9_1 > 63 then (if 0 ≤ (wrap64 (x9_1 - 64)) then (spigotref01_Div.j1 k1 a1 x9_1 (Go.bits .and .u64 (shr .u64 a0_0 (wrap64 (x9_1 - 64))) 1) a0_0 a0_1 x153000_1 x153001_1 x154000_1 x154001_1) else (none)) else (spigotref01_Div.j1 k1 a1 x9_1 (Go.bits .and .u64 (ji14) 1) a0_0 a0_1 x153000_1 x153001_1 x154000_1 x154001_1)) = some (r1, r2, r3, r4) := by first | (rw [hji14] at H; exact H) | (simp only [hji14] at H ⊢; exact H)
     have hji14_ : (a0_1 / 2 ^ min x9_1.toNat 64) = ji14 := hji14
     have hji14z : x9_1 ≤ 64 → (a0_1 / 2 ^ x9_1.toNat) = ji14 := shr_small hji14
     have HC15 := Aside0.mk H
     clear H
     replace hn150_151 := NB150_151.out
     replace hn151_150 := NB151_150.out
     replace hn150_152 := NB150_152.out
     replace hn152_150 := NB152_150.out
     replace hn150_153 := NB150_153.out
     replace hn153_150 := NB153_150.out
     replace hc150 := ce2_ BK150
     go_upto_if 24 with (fail)
     go_cut [10] (fun v10 wc => ∃ (kq : Nat) (x10_14 : Int), v10 = .int .u64 x10_14 ∧ Aside0 (spigotref01_Div.j1 kq a1 x9_1 x10_14 a0_0 a0_1 x153000_1 x153001_1 x154000_1 x154001_1 = some (r1, r2, r3, r4)) ∧ Aside0 (kq ≤ k1) ∧ Aside0 (wc.heap[gb150]? = some (.cells #[.int .u64 a0_0, .int .u64 a0_1] 92 (0, 0))) ∧ Aside0 (wc.heap[gb151]? = some (.cells #[.int .u64 0, .int .u64 0] 92 (0, 0))) ∧ Aside0 (wc.heap[gb152]? = some (.cells #[.int .u64 x153000_1, .int .u64 x153001_1] 92 (0, 0))) ∧ Aside0 (wc.heap[gb153]? = some (.cells #[.int .u64 x154000_1, .int .u64 x154001_1] 92 (0, 0))) ∧ Aside0 (Below w.heap.size w wc))
     case first =>
      have H := HC15.out
      clear HC15
      by_cases c20 : x9_1 > 63
      ·rw [if_pos c20] at H
       have c20b0 : decide (63 < x9_1) = true := decide_eq_true c20
       clear c20
       (first | rw [c20b0] | (simp only [i64_w, i32_w]; rw [c20b0]) | skip)
       obtain ⟨ji21, hji21⟩ : ∃ j_ : Int, (wrap64 (x9_1 - 64)) = j_ := ⟨_, rfl⟩
       replace H : (if 0 ≤ (ji21) then (spigotref01_Div.j1 k1 a1 x9_1 (Go.bits .and .u64 (shr .u64 a0_0 (ji21)) 1) a0_0 a0_1 x153000_1 x153001_1 x154000_1 x154001_1) else (none)) = some (r1, r2, r3, r4) := by first | (rw [hji21] at H; exact H) | (simp only [hji21] at H ⊢; exact H)
       have hji21w : (IntKind.i64.wrap (x9_1 - 64)) = ji21 := (i64_w _).trans hji21
       by_cases c22 : 0 ≤ (ji21)
       rotate_left
       ·rw [if_neg c22] at H; exact absurd H (by simp)
       rw [if_pos c22] at H
       have c22b0 := eq_true c22
       have c22b1 : decide (0 ≤ (ji21)) = true := decide_eq_true c22
       clear c22
       obtain ⟨ji23, hji23⟩ : ∃ j_ : Int, (shr .u64 a0_0 (ji21)) = j_ := ⟨_, rfl⟩
       replace H : (spigotref01_Div.j1 k1 a1 x9_1 (Go.bits .and .u64 (ji23) 1) a0_0 a0_1 x153000_1 x153001_1 x154000_1 x154001_1) = some (r1, r2, r3, r4) := by first | (rw [hji23] at H; exact H) | (simp only [hji23] at H ⊢; exact H)
       have hji23_ : (a0_0 / 2 ^ min (ji21).toNat 64) = ji23 := hji23
       have hji23z : (ji21) ≤ 64 → (a0_0 / 2 ^ (ji21).toNat) = ji23 := shr_small hji23
       have H' := Aside0.mk H
       clear H
       replace hn150_151 := NB150_151.out
       replace hn151_150 := NB151_150.out
       replace hn150_152 := NB150_152.out
       replace hn152_150 := NB152_150.out
       replace hn150_153 := NB150_153.out
       replace hn153_150 := NB153_150.out
       replace hc150 := ce2_ BK150
       go_wp2
       go_meet
       case rel => exact ⟨_, (Go.bits .and .u64 (ji23) 1), (by first | rfl | (simp; done) | (simp only [← hji23] <;> (first | rfl | simp)) | (simp [*]; done)), H', ⟨by have := HK1.out; first | omega | exact Nat.le_refl _⟩, ⟨bq_ BK150⟩, ⟨bq_ BK151⟩, ⟨bq_ BK152⟩, ⟨bq_ BK153⟩, bw_⟩
      ·rw [if_neg c20] at H
       have c20b0 : decide (63 < x9_1) = false := decide_eq_false c20
       clear c20
       (first | rw [c20b0] | (simp only [i64_w, i32_w]; rw [c20b0]) | skip)
       have H' := Aside0.mk H
       clear H
       go_wp2
       go_meet
       case rel => exact ⟨_, (Go.bits .and .u64 (ji14) 1), (by first | rfl | (simp; done) | (simp only [← hji14] <;> (first | rfl | simp)) | (simp [*]; done)), H', ⟨by have := HK1.out; first | omega | exact Nat.le_refl _⟩, ⟨bq_ BK150⟩, ⟨bq_ BK151⟩, ⟨bq_ BK152⟩, ⟨bq_ BK153⟩, bw_⟩
     case rest =>
      clear HC15
      try clear c3
      try clear c3b0
      try clear c3b1
      try clear c12
      try clear c12b0
      try clear c13
      try clear c13b0
      try clear c13b1
      obtain ⟨kq, x10_14, rfl, HA, HJ14, BK150, BK151, BK152, BK153, HB⟩ := hcut
      cases kq with
      | zero => exact absurd HA.out (by simp [spigotref01_Div.j1])
      | succ kj14 =>
       have H := HA.out
       clear HA
       simp only [spigotref01_Div.j1] at H
       have H0_ := bo_ H; clear H; obtain ⟨t154, A28, H⟩ := H0_
       try dsimp only at H
       by_cases c29 : t154 ≥ 0
       ·rw [if_pos c29] at H
        have c29b0 : decide (0 ≤ t154) = true := decide_eq_true c29
        clear c29
        have H0_ := bo_ H; clear H; obtain ⟨⟨t155, t156⟩, A30, H⟩ := H0_
        try dsimp only at H
        have H' := Aside0.mk H
        clear H
        replace hn153_150 := NB153_150.out
        replace hn150_153 := NB150_153.out
        replace hn153_151 := NB153_151.out
        replace hn151_153 := NB151_153.out
        replace hn153_152 := NB153_152.out
        replace hn152_153 := NB152_153.out
        replace hc153 := ce2_ BK153
        replace hn152_150 := NB152_150.out
        replace hn150_152 := NB150_152.out
        replace hn152_151 := NB152_151.out
        replace hn151_152 := NB151_152.out
        replace hc152 := ce2_ BK152
        go_wp2_with (first | ((with_reducible refine gate_callee (f := 67) rfl ?_); refine goesA_ (some 58) Try.func67 #[.agg #[.int .u64 (IntKind.u64.wrap ((IntKind.u64.wrap (x154000_1 * 2)) + (x154001_1 / 9223372036854775808))), .int .u64 (IntKind.u64.wrap ((IntKind.u64.wrap (x154001_1 * 2)) + x10_14))], .agg #[.int .u64 0, .int .u64 a1]] ?_; (with_reducible refine (spigotref01_Cmp.calls kj14 (IntKind.u64.wrap ((IntKind.u64.wrap (x154000_1 * 2)) + (x154001_1 / 9223372036854775808))) (IntKind.u64.wrap ((IntKind.u64.wrap (x154001_1 * 2)) + x10_14)) 0 a1 t154 _ A28.out).mono ?_); rintro e w38 ⟨rfl, hb⟩; refine ⟨_, rfl, ?_⟩; replace BK150 := bf_ BK150 hb; replace BK151 := bf_ BK151 hb; replace BK152 := Aside0.mk (blk_below (g := gb152) (o := .cells #[.int .u64 (IntKind.u64.wrap ((IntKind.u64.wrap (x153000_1 * 2)) + (x153001_1 / 9223372036854775808))), .int .u64 (IntKind.u64.wrap (x153001_1 * 2))] 92 (0, 0)) (blk_put (cs := #[.int .u64 (IntKind.u64.wrap ((IntKind.u64.wrap (x153000_1 * 2)) + (x153001_1 / 9223372036854775808))), .int .u64 x153001_1]) (blk_put (cs := #[.int .u64 x153000_1, .int .u64 x153001_1]) (bt_ BK152) 0 _ rfl) 1 _ rfl) hb); replace BK153 := Aside0.mk (blk_below (g := gb153) (o := .cells #[.int .u64 (IntKind.u64.wrap ((IntKind.u64.wrap (x154000_1 * 2)) + (x154001_1 / 9223372036854775808))), .int .u64 (IntKind.u64.wrap ((IntKind.u64.wrap (x154001_1 * 2)) + x10_14))] 92 (0, 0)) (blk_far (blk_far (bp2_ (bq_ BK153)) NB153_152.out _) NB153_152.out _) hb); replace HB := bs_ w hb; clear hb; have hcz39_0 : w38.cell? ⟨gb153, 0, none⟩ = some (.int .u64 (IntKind.u64.wrap ((IntKind.u64.wrap (x154000_1 * 2)) + (x154001_1 / 9223372036854775808)))) := (blk_cell BK153.out 0).trans rfl; have hcz39_1 : w38.cell? ⟨gb153, 1, none⟩ = some (.int .u64 (IntKind.u64.wrap ((IntKind.u64.wrap (x154001_1 * 2)) + x10_14))) := (blk_cell BK153.out 1).trans rfl; have hfz39_0 := blk_frozen BK153.out 0; have hfz39_1 := blk_frozen BK153.out 1) | ((with_reducible refine gate_callee (f := 68) rfl ?_); refine goesA_ (some 63) Try.func68 #[.agg #[.int .u64 (IntKind.u64.wrap ((IntKind.u64.wrap (x154000_1 * 2)) + (x154001_1 / 9223372036854775808))), .int .u64 (IntKind.u64.wrap ((IntKind.u64.wrap (x154001_1 * 2)) + x10_14))], .agg #[.int .u64 0, .int .u64 a1]] ?_; (with_reducible refine (spigotref01_Less.calls (IntKind.u64.wrap ((IntKind.u64.wrap (x154000_1 * 2)) + (x154001_1 / 9223372036854775808))) (IntKind.u64.wrap ((IntKind.u64.wrap (x154001_1 * 2)) + x10_14)) 0 a1 t155 t156 _ A30.out).mono ?_); rintro e w40 ⟨rfl, hb⟩; refine ⟨_, rfl, ?_⟩; replace BK150 := bb_ BK150 hb; replace BK151 := bb_ BK151 hb; replace BK152 := bb_ BK152 hb; replace BK153 := bb_ BK153 hb; replace HB := bs_ w hb; clear hb; have hcz41_0 : w40.cell? ⟨gb153, 0, none⟩ = some (.int .u64 (IntKind.u64.wrap ((IntKind.u64.wrap (x154000_1 * 2)) + (x154001_1 / 9223372036854775808)))) := (blk_cell BK153.out 0).trans rfl; have hcz41_1 : w40.cell? ⟨gb153, 1, none⟩ = some (.int .u64 (IntKind.u64.wrap ((IntKind.u64.wrap (x154001_1 * 2)) + x10_14))) := (blk_cell BK153.out 1).trans rfl; have hfz41_0 := blk_frozen BK153.out 0; have hfz41_1 := blk_frozen BK153.out 1; have hcz42_0 : w40.cell? ⟨gb152, 0, none⟩ = some (.int .u64 (IntKind.u64.wrap ((IntKind.u64.wrap (x153000_1 * 2)) + (x153001_1 / 9223372036854775808)))) := (blk_cell BK152.out 0).trans rfl; have hcz42_1 : w40.cell? ⟨gb152, 1, none⟩ = some (.int .u64 (IntKind.u64.wrap (x153001_1 * 2))) := (blk_cell BK152.out 1).trans rfl; have hfz42_0 := blk_frozen BK152.out 0; have hfz42_1 := blk_frozen BK152.out 1))
        go_roundg kj14
        case measure => have := HK1.out; have := HJ14.out; omega
        case rel => exact ⟨(wrap64 (x9_1 - 1)), (IntKind.u64.wrap ((IntKind.u64.wrap (x153000_1 * 2)) + (x153001_1 / 9223372036854775808))), (IntKind.u64.wrap ((IntKind.u64.wrap (x153001_1 * 2)) + 1)), (t155), (t156), rf_, H', ⟨by have := HK1.out; have := HJ14.out; omega⟩, ⟨(bt_ BK150)⟩, ⟨(bt_ BK151)⟩, ⟨(blk_put (cs := #[.int .u64 (IntKind.u64.wrap ((IntKind.u64.wrap (x153000_1 * 2)) + (x153001_1 / 9223372036854775808))), .int .u64 (IntKind.u64.wrap (x153001_1 * 2))]) (bt_ BK152) 1 _ rfl)⟩, ⟨(blk_far (bp2_ (bq_ BK153)) NB153_152.out _)⟩, bw_⟩
       ·rw [if_neg c29] at H
        have c29b0 : decide (0 ≤ t154) = false := decide_eq_false c29
        clear c29
        have H' := Aside0.mk H
        clear H
        replace hn153_150 := NB153_150.out
        replace hn150_153 := NB150_153.out
        replace hn153_151 := NB153_151.out
        replace hn151_153 := NB151_153.out
        replace hn153_152 := NB153_152.out
        replace hn152_153 := NB152_153.out
        replace hc153 := ce2_ BK153
        replace hn152_150 := NB152_150.out
        replace hn150_152 := NB150_152.out
        replace hn152_151 := NB152_151.out
        replace hn151_152 := NB151_152.out
        replace hc152 := ce2_ BK152
        go_wp2_with (first | ((with_reducible refine gate_callee (f := 67) rfl ?_); refine goesA_ (some 58) Try.func67 #[.agg #[.int .u64 (IntKind.u64.wrap ((IntKind.u64.wrap (x154000_1 * 2)) + (x154001_1 / 9223372036854775808))), .int .u64 (IntKind.u64.wrap ((IntKind.u64.wrap (x154001_1 * 2)) + x10_14))], .agg #[.int .u64 0, .int .u64 a1]] ?_; (with_reducible refine (spigotref01_Cmp.calls kj14 (IntKind.u64.wrap ((IntKind.u64.wrap (x154000_1 * 2)) + (x154001_1 / 9223372036854775808))) (IntKind.u64.wrap ((IntKind.u64.wrap (x154001_1 * 2)) + x10_14)) 0 a1 t154 _ A28.out).mono ?_); rintro e w50 ⟨rfl, hb⟩; refine ⟨_, rfl, ?_⟩; replace BK150 := bf_ BK150 hb; replace BK151 := bf_ BK151 hb; replace BK152 := Aside0.mk (blk_below (g := gb152) (o := .cells #[.int .u64 (IntKind.u64.wrap ((IntKind.u64.wrap (x153000_1 * 2)) + (x153001_1 / 9223372036854775808))), .int .u64 (IntKind.u64.wrap (x153001_1 * 2))] 92 (0, 0)) (blk_put (cs := #[.int .u64 (IntKind.u64.wrap ((IntKind.u64.wrap (x153000_1 * 2)) + (x153001_1 / 9223372036854775808))), .int .u64 x153001_1]) (blk_put (cs := #[.int .u64 x153000_1, .int .u64 x153001_1]) (bt_ BK152) 0 _ rfl) 1 _ rfl) hb); replace BK153 := Aside0.mk (blk_below (g := gb153) (o := .cells #[.int .u64 (IntKind.u64.wrap ((IntKind.u64.wrap (x154000_1 * 2)) + (x154001_1 / 9223372036854775808))), .int .u64 (IntKind.u64.wrap ((IntKind.u64.wrap (x154001_1 * 2)) + x10_14))] 92 (0, 0)) (blk_far (blk_far (bp2_ (bq_ BK153)) NB153_152.out _) NB153_152.out _) hb); replace HB := bs_ w hb; clear hb))
        go_roundg kj14
        case measure => have := HK1.out; have := HJ14.out; omega
        case rel => exact ⟨(wrap64 (x9_1 - 1)), (IntKind.u64.wrap ((IntKind.u64.wrap (x153000_1 * 2)) + (x153001_1 / 9223372036854775808))), (IntKind.u64.wrap (x153001_1 * 2)), (IntKind.u64.wrap ((IntKind.u64.wrap (x154000_1 * 2)) + (x154001_1 / 9223372036854775808))), (IntKind.u64.wrap ((IntKind.u64.wrap (x154001_1 * 2)) + x10_14)), rf_, H', ⟨by have := HK1.out; have := HJ14.out; omega⟩, ⟨bq_ BK150⟩, ⟨bq_ BK151⟩, ⟨bq_ BK152⟩, ⟨bq_ BK153⟩, bw_⟩
    ·rw [if_neg c12] at H
     have c12b0 : decide (0 ≤ x9_1) = false := decide_eq_false c12
     clear c12
     simp only [Option.some.injEq, Prod.mk.injEq] at H
     obtain ⟨rfl, rfl, rfl, rfl⟩ := H
     try go_wp2
     replace BK150 := Aside0.mk (blk_drew BK150.out)
     replace BK151 := Aside0.mk (blk_drew BK151.out)
     replace BK152 := Aside0.mk (blk_drew BK152.out)
     replace BK153 := Aside0.mk (blk_drew BK153.out)
     replace HB := Aside0.mk (below_drew1 HB.out)
     refine start_ (n := 6) (S := fun w' => w'.cell? ⟨gb152, 0, none⟩ = some (.int .u64 x153000_1) ∧ w'.cell? ⟨gb152, 1, none⟩ = some (.int .u64 x153001_1) ∧ w'.cell? ⟨gb153, 0, none⟩ = some (.int .u64 x154000_1) ∧ w'.cell? ⟨gb153, 1, none⟩ = some (.int .u64 x154001_1)) (ds := []) (bl_ 6 0) (by kernel_rfl) rfl (by kernel_rfl) ⟨(blk_cell BK152.out 0).trans rfl, (blk_cell BK152.out 1).trans rfl, (blk_cell BK153.out 0).trans rfl, (blk_cell BK153.out 1).trans rfl⟩ (fun hHeld => ?_)
     generalize wr.drew = w51 at BK150 BK151 BK152 BK153 HB hHeld ⊢
     refine pure_ (i := 1) (N := some 69) (v := ?_) (a' := ?_) (bl_ 6 2) rfl rfl (by kernel_rfl) (fun _ _ _ h => h) (Or.inl ⟨by rfl, ?_⟩) ?_ ?_
     rotate_left
     ·intro w'
      go_simp
      with_reducible rfl
     rotate_left
     ·simp only [Act.put, List.setIfInBounds_toArray, List.set_cons_zero, List.set_cons_succ, i64_w, i32_w]
      rfl
     refine take_ (i := 0) (N := some 68) (v := ?_) (a' := ?_) (bl_ 6 3) rfl rfl (by kernel_rfl) (fun _ _ _ h => h) (Or.inl ⟨by rfl, ?_⟩) hHeld ?_ ?_
     rotate_left
     ·rintro w' ⟨s0, s1, s2, s3⟩
      go_simp
      with_reducible rfl
     rotate_left
     ·simp only [Act.put, List.setIfInBounds_toArray, List.set_cons_zero, List.set_cons_succ, i64_w, i32_w]
      rfl
     refine take_ (i := 2) (N := some 70) (v := ?_) (a' := ?_) (bl_ 6 7) rfl rfl (by kernel_rfl) (fun _ _ _ h => h) (Or.inl ⟨by rfl, ?_⟩) hHeld ?_ ?_
     rotate_left
     ·rintro w' ⟨s0, s1, s2, s3⟩
      go_simp
      with_reducible rfl
     rotate_left
     ·simp only [Act.put, List.setIfInBounds_toArray, List.set_cons_zero, List.set_cons_succ, i64_w, i32_w]
      rfl
     refine one_ (i := 3) (N := none) (bl_ 6 15) rfl rfl (by kernel_rfl) (by decide) (fun K hK => ?_)
     have hs52 : w51.cell? ⟨gb151, 0, none⟩ = some (.int .u64 0) := (blk_cell BK151.out 0).trans rfl
     have hfs52 := blk_frozen BK151.out 0
     have hns52_0 := NB150_151.out
     have hns52_2 := NB152_151.out
     have hns52_3 := NB153_151.out
     have hms52_0 := NB151_150.out
     have hms52_2 := NB151_152.out
     have hms52_3 := NB151_153.out
     have hs53 : w51.cell? ⟨gb151, 1, none⟩ = some (.int .u64 0) := (blk_cell BK151.out 1).trans rfl
     have hfs53 := blk_frozen BK151.out 1
     have hns53_0 := NB150_151.out
     have hns53_2 := NB152_151.out
     have hns53_3 := NB153_151.out
     have hms53_0 := NB151_150.out
     have hms53_2 := NB151_152.out
     have hms53_3 := NB151_153.out
     refine sk_ ?_
     refine hK.out _ _ ⟨((cell_far (p := ⟨gb151, _, none⟩) NB152_151.out _).trans (((cell_far (p := ⟨gb151, _, none⟩) NB152_151.out _).trans (hHeld.1)))), ((cell_far (p := ⟨gb151, _, none⟩) NB152_151.out _).trans (((cell_far (p := ⟨gb151, _, none⟩) NB152_151.out _).trans (hHeld.2.1)))), ((cell_far (p := ⟨gb151, _, none⟩) NB153_151.out _).trans (((cell_far (p := ⟨gb151, _, none⟩) NB153_151.out _).trans (hHeld.2.2.1)))), ((cell_far (p := ⟨gb151, _, none⟩) NB153_151.out _).trans (((cell_far (p := ⟨gb151, _, none⟩) NB153_151.out _).trans (hHeld.2.2.2))))⟩ (fun hHeld => ?_)
     clear hK K
     refine pure_ (i := 4) (N := some 5) (v := ?_) (a' := ?_) (bl_ 6 31) rfl rfl (by kernel_rfl) (fun _ _ _ h => h) (Or.inl ⟨by rfl, ?_⟩) ?_ ?_
     rotate_left
     ·intro w'
      go_simp
      with_reducible rfl
     rotate_left
     ·simp only [Act.put, List.setIfInBounds_toArray, List.set_cons_zero, List.set_cons_succ, i64_w, i32_w]
      rfl
     refine pure_ (i := 5) (N := some 6) (v := ?_) (a' := ?_) (bl_ 6 63) rfl rfl (by kernel_rfl) (fun _ _ _ h => h) (Or.inl ⟨by rfl, ?_⟩) ?_ ?_
     rotate_left
     ·intro w'
      go_simp
      with_reducible rfl
     rotate_left
     ·simp only [Act.put, List.setIfInBounds_toArray, List.set_cons_zero, List.set_cons_succ, i64_w, i32_w]
      rfl
     refine done_ (by kernel_rfl) ?_
     try go_wp2
     refine bodyPost_ret (results_ctt rfl _ _ gb151 92 #[.int .u64 x153000_1, .int .u64 x153001_1] (0, 0) _ rfl (bp2_ (bq_ BK151)) Try.underlying92 rfl (by kernel_rfl)) rfl ?_
     exact fi_

end Go.Proofs.Ytimhghmfhfggoaa.X
