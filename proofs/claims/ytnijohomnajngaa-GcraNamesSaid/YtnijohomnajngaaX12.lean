-- written by xprint.py, a program of this session over the kit's print
import Derived.Test.YtnijohomnajngaaX0
import Derived.Test.YtnijohomnajngaaX6
import Derived.Test.YtnijohomnajngaaX10
namespace Go.Proofs.Ytnijohomnajngaa.X
open Go.RowKit Go.Proofs.YtnijohomnajngaaW.PrintWords Go.Proofs.YtnijohomnajngaaW.PrintLast Go.Proofs.YtnijohomnajngaaW.PrintMore
attribute [local go_sem] max2_int min2_int max_two min_two max_three min_three max_four min_four   -- for this text's walks alone
set_option linter.unusedVariables false
set_option linter.unusedSimpArgs false

/-! ### spigotref37_end: function 42 -/
def spigotref37_end.f (a0_0 : Int) (a0_1 : Int) (a0_2 : Int) (a1 : Int) : Option (Int × Int) := (spigotref37_Time.f a0_0 a0_1 a0_2 a1).bind fun bt203 => ((spigotref37_tokens.f a0_0 a0_1 a0_2 a0_0).bind fun bt205 => ((spigotref37_sum.f bt203.1 bt203.2 bt205.1 bt205.2).bind fun bt207 => (some (bt207.1, bt207.2))))
def spigotref37_end.T1 : Bool × List (List Nat × List Nat) := (true, [([], []), ([], []), ([0, 1], [0, 1]), ([], []), ([], []), ([4], [4]), ([3, 5, 2], [3, 5]), ([2, 6, 6], [2, 6]), ([7, 7, 0, 1, 2, 3, 4, 5, 6, 7], [7])])
def spigotref37_end.B1 : List Nat := [0, 0, 3, 0, 0, 16, 63, 127, 255]
theorem spigotref37_end.tab1 : rtab .any (opsOf Try.f42 1) = spigotref37_end.T1 := by kernel_rfl
theorem spigotref37_end.bits1 : waitsOk spigotref37_end.T1.2 spigotref37_end.B1 = true := by kernel_rfl
set_option maxHeartbeats 8000000 in
set_option maxRecDepth 100000 in
theorem spigotref37_end.calls (a0_0 : Int) (a0_1 : Int) (a0_2 : Int) (a1 : Int) (r1 : Int) (r2 : Int) (w : World) (h : spigotref37_end.f a0_0 a0_1 a0_2 a1 = some (r1, r2)) :
  Calls Try.prog 42 #[.agg #[.int .i64 a0_0, .int .i64 a0_1, .int .i64 a0_2], .int .u64 a1] w fun e w' => e = .returned (.agg #[.int .u64 r1, .int .u64 r2]) ∧ Below w.heap.size w w' := by
 have hu23 := Try.underlying23
 have hu26 := Try.underlying26
 have HB := Aside0.mk (Below.refl w.heap.size w)
 have H : ((spigotref37_Time.f a0_0 a0_1 a0_2 a1).bind fun bt203 => ((spigotref37_tokens.f a0_0 a0_1 a0_2 a0_0).bind fun bt205 => ((spigotref37_sum.f bt203.1 bt203.2 bt205.1 bt205.2).bind fun bt207 => (some (bt207.1, bt207.2))))) = some (r1, r2) := h
 clear h
 have H0_ := bo_ H; clear H; obtain ⟨⟨t203, t204⟩, A3, H⟩ := H0_
 try dsimp only at H
 have H0_ := bo_ H; clear H; obtain ⟨⟨t205, t206⟩, A4, H⟩ := H0_
 replace H : ((spigotref37_sum.f t203 t204 t205 t206).bind fun bt207 => (some (bt207.1, bt207.2))) = some (r1, r2) := H
 have H0_ := bo_ H; clear H; obtain ⟨⟨t207, t208⟩, A5, H⟩ := H0_
 replace H : (some (t207, t208)) = some (r1, r2) := H
 simp only [Option.some.injEq, Prod.mk.injEq] at H
 obtain ⟨rfl, rfl⟩ := H
 go_enter Try.func42, Try.ntmps42
 try go_wp2_with (first | ((with_reducible refine gate_dst (N := 2) rfl ?_); refine bx_ #[.int .i64 a0_0, .int .i64 a0_1, .int .i64 a0_2] 23 ?_; intro gb201 hg w6 BK201 hb; have GW201 := bz_ w hg; replace HB := bs_ w hb; clear hb hg) | ((with_reducible refine gate_dst (N := 4) rfl ?_); refine bx_ #[.int .u64 0, .int .u64 0] 26 ?_; intro gb202 hg w7 BK202 hb; have GW202 := bz_ w hg; have NB201_202 := bn_ BK201 hg; have NB202_201 := bm_ BK201 hg; replace BK201 := bb_ BK201 hb; replace HB := bs_ w hb; clear hb hg))
 replace BK201 := Aside0.mk (blk_drew BK201.out)
 replace BK202 := Aside0.mk (blk_drew BK202.out)
 replace HB := Aside0.mk (below_drew1 HB.out)
 refine start_ (n := 9) (S := fun w' => w'.cell? ⟨gb201, 0, none⟩ = some (.int .i64 a0_0) ∧ w'.cell? ⟨gb201, 1, none⟩ = some (.int .i64 a0_1) ∧ w'.cell? ⟨gb201, 2, none⟩ = some (.int .i64 a0_2)) (ds := []) (bl_ 9 0) (by kernel_rfl) rfl (by kernel_rfl) (cc3_ BK201) (fun hHeld => ?_); refine with_tabW spigotref37_end.tab1 spigotref37_end.bits1 (fun HT_ HW_ => ?_)
 generalize w7.drew = w8 at BK201 BK202 HB hHeld ⊢
 refine pa_ 1 (some 6) (bl_ 9 2) HT_ ?_
 refine pa_ 4 (some 9) (bl_ 9 18) HT_ ?_
 refine ta_ 0 (some 5) (bl_ 9 19) HT_ HW_ hHeld ?_
 refine ta_ 3 (some 8) (bl_ 9 27) HT_ HW_ hHeld ?_
 refine ta_ 5 (some 10) (bl_ 9 59) HT_ HW_ hHeld ?_
 refine oa_ 2 (some 7) (bl_ 9 63) HT_ fun K hK => ?_
 refine goesB_ Try.func33 #[.agg #[.int .i64 a0_0, .int .i64 a0_1, .int .i64 a0_2], .int .u64 a1] ?_
 with_reducible refine (spigotref37_Time.calls a0_0 a0_1 a0_2 a1 t203 t204 _ A3.out).mono ?_
 rintro e w9 ⟨rfl, hb⟩
 refine ⟨_, rfl, ?_⟩
 replace BK201 := bb_ BK201 hb
 replace BK202 := bb_ BK202 hb
 replace HB := bs_ w hb
 clear hb
 refine hK.out _ _ (cc3_ BK201) (fun hHeld => ?_)
 clear hK K
 refine nm_ (some 7) ?_
 refine oa_ 6 (some 11) (bl_ 9 127) HT_ fun K hK => ?_
 refine goesB_ Try.func40 #[.agg #[.int .i64 a0_0, .int .i64 a0_1, .int .i64 a0_2], .int .i64 a0_0] ?_
 with_reducible refine (spigotref37_tokens.calls a0_0 a0_1 a0_2 a0_0 t205 t206 _ A4.out).mono ?_
 rintro e w10 ⟨rfl, hb⟩
 refine ⟨_, rfl, ?_⟩
 replace BK201 := bb_ BK201 hb
 replace BK202 := bb_ BK202 hb
 replace HB := bs_ w hb
 clear hb
 refine hK.out _ _ (cc3_ BK201) (fun hHeld => ?_)
 clear hK K
 refine nm_ (some 11) ?_
 refine oa_ 7 (some 12) (bl_ 9 255) HT_ fun K hK => ?_
 refine goesB_ Try.func39 #[.agg #[.int .u64 t203, .int .u64 t204], .agg #[.int .u64 t205, .int .u64 t206]] ?_
 with_reducible refine (spigotref37_sum.calls t203 t204 t205 t206 t207 t208 _ A5.out).mono ?_
 rintro e w11 ⟨rfl, hb⟩
 refine ⟨_, rfl, ?_⟩
 replace BK201 := bb_ BK201 hb
 replace BK202 := bb_ BK202 hb
 replace HB := bs_ w hb
 clear hb
 refine hK.out _ _ (cc3_ BK201) (fun hHeld => ?_)
 clear hK K
 refine nm_ (some 12) ?_
 refine oa_ 8 none (bl_ 9 511) HT_ fun K hK => ?_
 have hs12 : w11.cell? ⟨gb202, 0, none⟩ = some (.int .u64 0) := (blk_cell BK202.out 0).trans rfl
 have hfs12 := blk_frozen BK202.out 0
 have hns12_0 := NB201_202.out
 have hms12_0 := NB202_201.out
 have hs13 : w11.cell? ⟨gb202, 1, none⟩ = some (.int .u64 0) := (blk_cell BK202.out 1).trans rfl
 have hfs13 := blk_frozen BK202.out 1
 have hns13_0 := NB201_202.out
 have hms13_0 := NB202_201.out
 refine sk_ ?_
 refine hK.out _ _ (cf3_ hHeld) (fun hHeld => ?_)
 clear hK K
 refine done_ (done_of HT_.out (by kernel_rfl)) ?_
 try go_wp2
 refine bodyPost_ret (results_cell_row rfl _ _ gb202 26 #[.int .u64 t207, .int .u64 t208] (0, 0) _ rfl (bp2_ (bq_ BK202)) Try.underlying26 rfl (by kernel_rfl)) rfl ?_
 exact fi_

end Go.Proofs.Ytnijohomnajngaa.X
