-- written by xprint.py, a program of this session over the kit's print
import Derived.Test.YtnijohomnajngaaX0
import Derived.Test.YtnijohomnajngaaX6
import Derived.Test.YtnijohomnajngaaX11
namespace Go.Proofs.Ytnijohomnajngaa.X
open Go.RowKit Go.Proofs.YtnijohomnajngaaW.PrintWords Go.Proofs.YtnijohomnajngaaW.PrintLast Go.Proofs.YtnijohomnajngaaW.PrintMore
attribute [local go_sem] max2_int min2_int max_two min_two max_three min_three max_four min_four   -- for this text's walks alone
set_option linter.unusedVariables false
set_option linter.unusedSimpArgs false

/-! ### spigotref37_raised: function 49 -/
def spigotref37_raised.f (k : Nat) (a0_0 : Int) (a0_1 : Int) (a0_2 : Int) (a0_3 : Int) (a0_4 : Int) (a0_5 : Int) (a1 : Int) : Option (Int × Int × Int × Int × Int × Int) := if a1 > a0_5 then ((spigotref37_Time.f a0_0 a0_1 a0_2 a1).bind fun bt382 => ((spigotref01_Cmp.f k a0_3 a0_4 bt382.1 bt382.2).bind fun t384 => (if t384 < 0 then ((spigotref37_Time.f a0_0 a0_1 a0_2 a1).bind fun bt385 => (some (a0_0, a0_1, a0_2, bt385.1, bt385.2, a1))) else (some (a0_0, a0_1, a0_2, a0_3, a0_4, a1))))) else (some (a0_0, a0_1, a0_2, a0_3, a0_4, a0_5))
theorem spigotref37_raised.mono : ∀ a0 a1 a2 a3 a4 a5 a6 k, LeO (spigotref37_raised.f k a0 a1 a2 a3 a4 a5 a6) (spigotref37_raised.f (k + 1) a0 a1 a2 a3 a4 a5 a6) := by
  intro a0 a1 a2 a3 a4 a5 a6 k
  unfold spigotref37_raised.f
  repeat' first
      | (with_reducible exact spigotref01_Cmp.mono _ _ _ _ _)
      | (with_reducible exact LeO.refl _)
      | (with_reducible exact LeO.none _)
      | (with_reducible refine LeO.ite ?_ ?_)
      | (with_reducible refine LeO.bind ?_ (fun _ => ?_))
      | exact spigotref01_Cmp.mono _ _ _ _ _
      | exact LeO.none _
      | refine LeO.ite ?_ ?_
      | refine LeO.bind ?_ (fun _ => ?_)
def spigotref37_raised.T3 : Bool × List (List Nat × List Nat) := (true, [([], []), ([0], [0]), ([], []), ([2], [2]), ([], []), ([3, 4], [3, 4]), ([1, 5, 5], [1, 5]), ([6], [6])])
def spigotref37_raised.B3 : List Nat := [0, 1, 0, 4, 0, 28, 63, 127]
theorem spigotref37_raised.tab3 : rtab .any (opsOf Try.f49 3) = spigotref37_raised.T3 := by kernel_rfl
theorem spigotref37_raised.bits3 : waitsOk spigotref37_raised.T3.2 spigotref37_raised.B3 = true := by kernel_rfl
set_option maxHeartbeats 8000000 in
set_option maxRecDepth 100000 in
theorem spigotref37_raised.calls (k : Nat) (a0_0 : Int) (a0_1 : Int) (a0_2 : Int) (a0_3 : Int) (a0_4 : Int) (a0_5 : Int) (a1 : Int) (r1 : Int) (r2 : Int) (r3 : Int) (r4 : Int) (r5 : Int) (r6 : Int) (w : World) (h : spigotref37_raised.f k a0_0 a0_1 a0_2 a0_3 a0_4 a0_5 a1 = some (r1, r2, r3, r4, r5, r6)) :
  Calls Try.prog 49 #[.agg #[.int .i64 a0_0, .int .i64 a0_1, .int .i64 a0_2, .int .u64 a0_3, .int .u64 a0_4, .int .u64 a0_5], .int .u64 a1] w fun e w' => e = .returned (.agg #[.int .i64 r1, .int .i64 r2, .int .i64 r3, .int .u64 r4, .int .u64 r5, .int .u64 r6]) ∧ Below w.heap.size w w' := by
 have hu28 := Try.underlying28
 have hu26 := Try.underlying26
 have hu23 := Try.underlying23
 have HB := Aside0.mk (Below.refl w.heap.size w)
 have H : (if a1 > a0_5 then ((spigotref37_Time.f a0_0 a0_1 a0_2 a1).bind fun bt382 => ((spigotref01_Cmp.f k a0_3 a0_4 bt382.1 bt382.2).bind fun t384 => (if t384 < 0 then ((spigotref37_Time.f a0_0 a0_1 a0_2 a1).bind fun bt385 => (some (a0_0, a0_1, a0_2, bt385.1, bt385.2, a1))) else (some (a0_0, a0_1, a0_2, a0_3, a0_4, a1))))) else (some (a0_0, a0_1, a0_2, a0_3, a0_4, a0_5))) = some (r1, r2, r3, r4, r5, r6) := h
 clear h
 by_cases c3 : a1 > a0_5
 ·rw [if_pos c3] at H
  have c3b0 : decide (a0_5 < a1) = true := decide_eq_true c3
  clear c3
  have H0_ := bo_ H; clear H; obtain ⟨⟨t382, t383⟩, A4, H⟩ := H0_
  try dsimp only at H
  have H0_ := bo_ H; clear H; obtain ⟨t384, A5, H⟩ := H0_
  try dsimp only at H
  by_cases c6 : t384 < 0
  ·rw [if_pos c6] at H
   have c6b0 : decide (t384 < 0) = true := decide_eq_true c6
   clear c6
   have H0_ := bo_ H; clear H; obtain ⟨⟨t385, t386⟩, A7, H⟩ := H0_
   replace H : (some (a0_0, a0_1, a0_2, t385, t386, a1)) = some (r1, r2, r3, r4, r5, r6) := H
   simp only [Option.some.injEq, Prod.mk.injEq] at H
   obtain ⟨rfl, rfl, rfl, rfl, rfl, rfl⟩ := H
   go_enter Try.func49, Try.ntmps49
   try go_wp2_with (first | ((with_reducible refine gate_dst (N := 2) rfl ?_); refine bx_ #[.int .i64 a0_0, .int .i64 a0_1, .int .i64 a0_2, .int .u64 a0_3, .int .u64 a0_4, .int .u64 a0_5] 28 ?_; intro gb380 hg w8 BK380 hb; have GW380 := bz_ w hg; have GE380 := GW380; replace HB := bs_ w hb; clear hb hg) | ((with_reducible refine gate_dst (N := 4) rfl ?_); refine bx_ #[.int .i64 0, .int .i64 0, .int .i64 0, .int .u64 0, .int .u64 0, .int .u64 0] 28 ?_; intro gb381 hg w9 BK381 hb; have GW381 := bz_ w hg; have GE381 := GW381; have NB380_381 := bn_ BK380 hg; have NB381_380 := bm_ BK380 hg; replace BK380 := bb_ BK380 hb; replace HB := bs_ w hb; clear hb hg; replace hn380_381 := NB380_381.out; replace hn381_380 := NB381_380.out; replace hc380 := ce6_ BK380))
   have n0_ : Aside0 ((w9.setCell ⟨gb380, 5, none⟩ (.int .u64 a1)).heap[gb380]? = some (.cells #[.int .i64 a0_0, .int .i64 a0_1, .int .i64 a0_2, .int .u64 a0_3, .int .u64 a0_4, .int .u64 a1] 28 (0, 0))) := ⟨(blk_put (cs := #[.int .i64 a0_0, .int .i64 a0_1, .int .i64 a0_2, .int .u64 a0_3, .int .u64 a0_4, .int .u64 a0_5]) (bq_ BK380) 5 _ rfl)⟩
   have n1_ : Aside0 ((w9.setCell ⟨gb380, 5, none⟩ (.int .u64 a1)).heap[gb381]? = some (.cells #[.int .i64 0, .int .i64 0, .int .i64 0, .int .u64 0, .int .u64 0, .int .u64 0] 28 (0, 0))) := ⟨(bt_ BK381)⟩
   have n2_ : Aside0 (Below w.heap.size w (w9.setCell ⟨gb380, 5, none⟩ (.int .u64 a1))) := bw_
   (try clear BK380)
   (try clear BK381)
   (try clear HB)
   generalize (w9.setCell ⟨gb380, 5, none⟩ (.int .u64 a1)) = w12 at n0_ n1_ n2_ ⊢
   have BK380 := n0_
   have BK381 := n1_
   have HB := n2_
   clear n0_ n1_ n2_
   replace BK380 := Aside0.mk (blk_drew BK380.out)
   replace BK381 := Aside0.mk (blk_drew BK381.out)
   replace HB := Aside0.mk (below_drew1 HB.out)
   refine start_ (n := 8) (S := fun w' => w'.cell? ⟨gb380, 0, none⟩ = some (.int .i64 a0_0) ∧ w'.cell? ⟨gb380, 1, none⟩ = some (.int .i64 a0_1) ∧ w'.cell? ⟨gb380, 2, none⟩ = some (.int .i64 a0_2) ∧ w'.cell? ⟨gb380, 3, none⟩ = some (.int .u64 a0_3) ∧ w'.cell? ⟨gb380, 4, none⟩ = some (.int .u64 a0_4) ∧ w'.cell? ⟨gb380, 5, none⟩ = some (.int .u64 a1)) (ds := []) (bl_ 8 0) (by kernel_rfl) rfl (by kernel_rfl) (cc6_ BK380) (fun hHeld => ?_); refine with_tabW spigotref37_raised.tab3 spigotref37_raised.bits3 (fun HT_ HW_ => ?_)
   generalize w12.drew = w13 at BK380 BK381 HB hHeld ⊢
   refine pa_ 0 (some 11) (bl_ 8 1) HT_ ?_
   refine pa_ 2 (some 13) (bl_ 8 5) HT_ ?_
   refine pa_ 4 (some 15) (bl_ 8 21) HT_ ?_
   refine ta_ 1 (some 12) (bl_ 8 23) HT_ HW_ hHeld ?_
   refine ta_ 3 (some 14) (bl_ 8 31) HT_ HW_ hHeld ?_
   refine oa_ 5 (some 16) (bl_ 8 63) HT_ fun K hK => ?_
   refine goesB_ Try.func33 #[.agg #[.int .i64 a0_0, .int .i64 a0_1, .int .i64 a0_2], .int .u64 a1] ?_
   with_reducible refine (spigotref37_Time.calls a0_0 a0_1 a0_2 a1 t382 t383 _ A4.out).mono ?_
   rintro e w14 ⟨rfl, hb⟩
   refine ⟨_, rfl, ?_⟩
   replace BK380 := bb_ BK380 hb
   replace BK381 := bb_ BK381 hb
   replace HB := bs_ w hb
   clear hb
   refine hK.out _ _ (cc6_ BK380) (fun hHeld => ?_)
   clear hK K
   refine nm_ (some 16) ?_
   refine oa_ 6 (some 17) (bl_ 8 127) HT_ fun K hK => ?_
   refine goesB_ Try.func46 #[.agg #[.int .u64 a0_3, .int .u64 a0_4], .agg #[.int .u64 t382, .int .u64 t383]] ?_
   with_reducible refine (spigotref01_Cmp.calls k a0_3 a0_4 t382 t383 t384 _ A5.out).mono ?_
   rintro e w15 ⟨rfl, hb⟩
   refine ⟨_, rfl, ?_⟩
   replace BK380 := bb_ BK380 hb
   replace BK381 := bb_ BK381 hb
   replace HB := bs_ w hb
   clear hb
   refine hK.out _ _ (cc6_ BK380) (fun hHeld => ?_)
   clear hK K
   refine nm_ (some 17) ?_
   refine pa_ 7 (some 18) (bl_ 8 255) HT_ ?_
   refine done_ (done_of HT_.out (by kernel_rfl)) ?_
   replace hc380 := ce6_ BK380
   try go_wp2_with (first | ((with_reducible refine gate_callee (f := 33) rfl ?_); refine goesA_ (some 22) Try.func33 #[.agg #[.int .i64 a0_0, .int .i64 a0_1, .int .i64 a0_2], .int .u64 a1] ?_; (with_reducible refine (spigotref37_Time.calls a0_0 a0_1 a0_2 a1 t385 t386 _ A7.out).mono ?_); rintro e w17 ⟨rfl, hb⟩; refine ⟨_, rfl, ?_⟩; replace BK380 := bb_ BK380 hb; replace BK381 := bb_ BK381 hb; replace HB := bs_ w hb; clear hb; replace hc380 := ce6_ BK380; replace hc381 := ce6_ BK381))
   refine bodyPost_ret (results_cell_row rfl _ _ gb381 28 #[.int .i64 a0_0, .int .i64 a0_1, .int .i64 a0_2, .int .u64 t385, .int .u64 t386, .int .u64 a1] (0, 0) _ rfl (bp6_ (bt_ BK381)) Try.underlying28 rfl (by kernel_rfl)) rfl ?_
   exact fi_
  ·rw [if_neg c6] at H
   have c6b0 : decide (t384 < 0) = false := decide_eq_false c6
   clear c6
   simp only [Option.some.injEq, Prod.mk.injEq] at H
   obtain ⟨rfl, rfl, rfl, rfl, rfl, rfl⟩ := H
   go_enter Try.func49, Try.ntmps49
   try go_wp2_with (first | ((with_reducible refine gate_dst (N := 2) rfl ?_); refine bx_ #[.int .i64 a0_0, .int .i64 a0_1, .int .i64 a0_2, .int .u64 a0_3, .int .u64 a0_4, .int .u64 a0_5] 28 ?_; intro gb380 hg w20 BK380 hb; have GW380 := bz_ w hg; have GE380 := GW380; replace HB := bs_ w hb; clear hb hg) | ((with_reducible refine gate_dst (N := 4) rfl ?_); refine bx_ #[.int .i64 0, .int .i64 0, .int .i64 0, .int .u64 0, .int .u64 0, .int .u64 0] 28 ?_; intro gb381 hg w21 BK381 hb; have GW381 := bz_ w hg; have GE381 := GW381; have NB380_381 := bn_ BK380 hg; have NB381_380 := bm_ BK380 hg; replace BK380 := bb_ BK380 hb; replace HB := bs_ w hb; clear hb hg; replace hn380_381 := NB380_381.out; replace hn381_380 := NB381_380.out; replace hc380 := ce6_ BK380))
   have n0_ : Aside0 ((w21.setCell ⟨gb380, 5, none⟩ (.int .u64 a1)).heap[gb380]? = some (.cells #[.int .i64 a0_0, .int .i64 a0_1, .int .i64 a0_2, .int .u64 a0_3, .int .u64 a0_4, .int .u64 a1] 28 (0, 0))) := ⟨(blk_put (cs := #[.int .i64 a0_0, .int .i64 a0_1, .int .i64 a0_2, .int .u64 a0_3, .int .u64 a0_4, .int .u64 a0_5]) (bq_ BK380) 5 _ rfl)⟩
   have n1_ : Aside0 ((w21.setCell ⟨gb380, 5, none⟩ (.int .u64 a1)).heap[gb381]? = some (.cells #[.int .i64 0, .int .i64 0, .int .i64 0, .int .u64 0, .int .u64 0, .int .u64 0] 28 (0, 0))) := ⟨(bt_ BK381)⟩
   have n2_ : Aside0 (Below w.heap.size w (w21.setCell ⟨gb380, 5, none⟩ (.int .u64 a1))) := bw_
   (try clear BK380)
   (try clear BK381)
   (try clear HB)
   generalize (w21.setCell ⟨gb380, 5, none⟩ (.int .u64 a1)) = w24 at n0_ n1_ n2_ ⊢
   have BK380 := n0_
   have BK381 := n1_
   have HB := n2_
   clear n0_ n1_ n2_
   replace BK380 := Aside0.mk (blk_drew BK380.out)
   replace BK381 := Aside0.mk (blk_drew BK381.out)
   replace HB := Aside0.mk (below_drew1 HB.out)
   refine start_ (n := 8) (S := fun w' => w'.cell? ⟨gb380, 0, none⟩ = some (.int .i64 a0_0) ∧ w'.cell? ⟨gb380, 1, none⟩ = some (.int .i64 a0_1) ∧ w'.cell? ⟨gb380, 2, none⟩ = some (.int .i64 a0_2) ∧ w'.cell? ⟨gb380, 3, none⟩ = some (.int .u64 a0_3) ∧ w'.cell? ⟨gb380, 4, none⟩ = some (.int .u64 a0_4) ∧ w'.cell? ⟨gb380, 5, none⟩ = some (.int .u64 a1)) (ds := []) (bl_ 8 0) (by kernel_rfl) rfl (by kernel_rfl) (cc6_ BK380) (fun hHeld => ?_); refine with_tabW spigotref37_raised.tab3 spigotref37_raised.bits3 (fun HT_ HW_ => ?_)
   generalize w24.drew = w25 at BK380 BK381 HB hHeld ⊢
   refine pa_ 0 (some 11) (bl_ 8 1) HT_ ?_
   refine pa_ 2 (some 13) (bl_ 8 5) HT_ ?_
   refine pa_ 4 (some 15) (bl_ 8 21) HT_ ?_
   refine ta_ 1 (some 12) (bl_ 8 23) HT_ HW_ hHeld ?_
   refine ta_ 3 (some 14) (bl_ 8 31) HT_ HW_ hHeld ?_
   refine oa_ 5 (some 16) (bl_ 8 63) HT_ fun K hK => ?_
   refine goesB_ Try.func33 #[.agg #[.int .i64 a0_0, .int .i64 a0_1, .int .i64 a0_2], .int .u64 a1] ?_
   with_reducible refine (spigotref37_Time.calls a0_0 a0_1 a0_2 a1 t382 t383 _ A4.out).mono ?_
   rintro e w26 ⟨rfl, hb⟩
   refine ⟨_, rfl, ?_⟩
   replace BK380 := bb_ BK380 hb
   replace BK381 := bb_ BK381 hb
   replace HB := bs_ w hb
   clear hb
   refine hK.out _ _ (cc6_ BK380) (fun hHeld => ?_)
   clear hK K
   refine nm_ (some 16) ?_
   refine oa_ 6 (some 17) (bl_ 8 127) HT_ fun K hK => ?_
   refine goesB_ Try.func46 #[.agg #[.int .u64 a0_3, .int .u64 a0_4], .agg #[.int .u64 t382, .int .u64 t383]] ?_
   with_reducible refine (spigotref01_Cmp.calls k a0_3 a0_4 t382 t383 t384 _ A5.out).mono ?_
   rintro e w27 ⟨rfl, hb⟩
   refine ⟨_, rfl, ?_⟩
   replace BK380 := bb_ BK380 hb
   replace BK381 := bb_ BK381 hb
   replace HB := bs_ w hb
   clear hb
   refine hK.out _ _ (cc6_ BK380) (fun hHeld => ?_)
   clear hK K
   refine nm_ (some 17) ?_
   refine pa_ 7 (some 18) (bl_ 8 255) HT_ ?_
   refine done_ (done_of HT_.out (by kernel_rfl)) ?_
   replace hc380 := ce6_ BK380
   replace hc381 := ce6_ BK381
   try go_wp2
   refine bodyPost_ret (results_cell_row rfl _ _ gb381 28 #[.int .i64 a0_0, .int .i64 a0_1, .int .i64 a0_2, .int .u64 a0_3, .int .u64 a0_4, .int .u64 a1] (0, 0) _ rfl (bp6_ (bq_ BK381)) Try.underlying28 rfl (by kernel_rfl)) rfl ?_
   exact fi_
 ·rw [if_neg c3] at H
  have c3b0 : decide (a0_5 < a1) = false := decide_eq_false c3
  clear c3
  simp only [Option.some.injEq, Prod.mk.injEq] at H
  obtain ⟨rfl, rfl, rfl, rfl, rfl, rfl⟩ := H
  go_enter Try.func49, Try.ntmps49
  go_wp2_with (first | ((with_reducible refine gate_dst (N := 2) rfl ?_); refine bx_ #[.int .i64 a0_0, .int .i64 a0_1, .int .i64 a0_2, .int .u64 a0_3, .int .u64 a0_4, .int .u64 a0_5] 28 ?_; intro gb380 hg w30 BK380 hb; have GW380 := bz_ w hg; have GE380 := GW380; replace HB := bs_ w hb; clear hb hg) | ((with_reducible refine gate_dst (N := 4) rfl ?_); refine bx_ #[.int .i64 0, .int .i64 0, .int .i64 0, .int .u64 0, .int .u64 0, .int .u64 0] 28 ?_; intro gb381 hg w31 BK381 hb; have GW381 := bz_ w hg; have GE381 := GW381; have NB380_381 := bn_ BK380 hg; have NB381_380 := bm_ BK380 hg; replace BK380 := bb_ BK380 hb; replace HB := bs_ w hb; clear hb hg; replace hn380_381 := NB380_381.out; replace hn381_380 := NB381_380.out; replace hc380 := ce6_ BK380; replace hc381 := ce6_ BK381))
  refine bodyPost_ret (results_cell_row rfl _ _ gb381 28 #[.int .i64 a0_0, .int .i64 a0_1, .int .i64 a0_2, .int .u64 a0_3, .int .u64 a0_4, .int .u64 a0_5] (0, 0) _ rfl (bp6_ (bq_ BK381)) Try.underlying28 rfl (by kernel_rfl)) rfl ?_
  exact fi_

end Go.Proofs.Ytnijohomnajngaa.X
