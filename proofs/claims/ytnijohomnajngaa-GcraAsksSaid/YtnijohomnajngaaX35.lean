-- written by xprint.py, a program of this session over the kit's print
import Derived.Test.YtnijohomnajngaaX0
import Derived.Test.YtnijohomnajngaaX14
import Derived.Test.YtnijohomnajngaaX15
import Derived.Test.YtnijohomnajngaaX17
namespace Go.Proofs.Ytnijohomnajngaa.X
open Go.RowKit Go.Proofs.YtnijohomnajngaaW.PrintWords Go.Proofs.YtnijohomnajngaaW.PrintLast Go.Proofs.YtnijohomnajngaaW.PrintMore
attribute [local go_sem] max2_int min2_int max_two min_two max_three min_three max_four min_four   -- for this text's walks alone
set_option linter.unusedVariables false
set_option linter.unusedSimpArgs false

/-! ### spigotref37_fits: function 50 -/
def spigotref37_fits.f (k : Nat) (a0_0 : Int) (a0_1 : Int) (a0_2 : Int) (a0_3 : Int) (a0_4 : Int) (a0_5 : Int) (a1 : Int) : Option (Bool) := (spigotref37_tokens.f a0_0 a0_1 a0_2 a1).bind fun bt388 => ((spigotref37_sum.f a0_3 a0_4 bt388.1 bt388.2).bind fun bt390 => ((spigotref37_end.f a0_0 a0_1 a0_2 a0_5).bind fun bt392 => ((spigotref01_Cmp.f k bt390.1 bt390.2 bt392.1 bt392.2).bind fun t394 => (some (decide (t394 ≤ 0))))))
theorem spigotref37_fits.mono : ∀ a0 a1 a2 a3 a4 a5 a6 k, LeO (spigotref37_fits.f k a0 a1 a2 a3 a4 a5 a6) (spigotref37_fits.f (k + 1) a0 a1 a2 a3 a4 a5 a6) := by
  intro a0 a1 a2 a3 a4 a5 a6 k
  unfold spigotref37_fits.f
  repeat' first
      | (with_reducible exact spigotref01_Cmp.mono _ _ _ _ _)
      | (with_reducible exact LeO.refl _)
      | (with_reducible exact LeO.none _)
      | (with_reducible refine LeO.ite ?_ ?_)
      | (with_reducible refine LeO.bind ?_ (fun _ => ?_))
      | exact spigotref01_Cmp.mono _ _ _ _ _
      | exact LeO.none _
      | refine LeO.ite ?_ ?_
      | refine LeO.bind ?_ (fun _ => ?_)
def spigotref37_fits.T1 : Bool × List (List Nat × List Nat) := (true, [([], []), ([0], [0]), ([], []), ([2], [2]), ([], []), ([3, 4], [3, 4]), ([1, 5, 5], [1, 5]), ([], []), ([7], [7]), ([], []), ([9], [9]), ([8, 10, 6], [8, 10]), ([6, 11, 11], [6, 11]), ([12], [12]), ([13, 12, 0, 1, 2, 3, 4, 5, 6, 7, 8, 9, 10, 11, 12, 13], [13])])
def spigotref37_fits.B1 : List Nat := [0, 1, 0, 4, 0, 28, 63, 0, 128, 0, 512, 2047, 4095, 8191, 16383]
theorem spigotref37_fits.tab1 : rtab .any (opsOf Try.f50 1) = spigotref37_fits.T1 := by kernel_rfl
theorem spigotref37_fits.bits1 : waitsOk spigotref37_fits.T1.2 spigotref37_fits.B1 = true := by kernel_rfl
set_option maxHeartbeats 8000000 in
set_option maxRecDepth 100000 in
theorem spigotref37_fits.calls (k : Nat) (a0_0 : Int) (a0_1 : Int) (a0_2 : Int) (a0_3 : Int) (a0_4 : Int) (a0_5 : Int) (a1 : Int) (r : Bool) (w : World) (h : spigotref37_fits.f k a0_0 a0_1 a0_2 a0_3 a0_4 a0_5 a1 = some r) :
  Calls Try.prog 50 #[.agg #[.int .i64 a0_0, .int .i64 a0_1, .int .i64 a0_2, .int .u64 a0_3, .int .u64 a0_4, .int .u64 a0_5], .int .i64 a1] w fun e w' => e = .returned (.bool r) ∧ Below w.heap.size w w' := by
 have hu28 := Try.underlying28
 have hu26 := Try.underlying26
 have hu23 := Try.underlying23
 have HB := Aside0.mk (Below.refl w.heap.size w)
 have H : ((spigotref37_tokens.f a0_0 a0_1 a0_2 a1).bind fun bt388 => ((spigotref37_sum.f a0_3 a0_4 bt388.1 bt388.2).bind fun bt390 => ((spigotref37_end.f a0_0 a0_1 a0_2 a0_5).bind fun bt392 => ((spigotref01_Cmp.f k bt390.1 bt390.2 bt392.1 bt392.2).bind fun t394 => (some (decide (t394 ≤ 0))))))) = some r := h
 clear h
 obtain ⟨⟨t388, t389⟩, A3, H⟩ := bo_ H
 try dsimp only at H
 obtain ⟨⟨t390, t391⟩, A4, H⟩ := bo_ H
 try dsimp only at H
 obtain ⟨⟨t392, t393⟩, A5, H⟩ := bo_ H
 replace H : ((spigotref01_Cmp.f k t390 t391 t392 t393).bind fun t394 => (some (decide (t394 ≤ 0)))) = some r := H
 obtain ⟨t394, A6, H⟩ := bo_ H
 replace H : (some (decide (t394 ≤ 0))) = some r := H
 obtain rfl := Option.some.inj H
 go_enter Try.func50, Try.ntmps50
 try go_wp2_with (first | ((with_reducible refine gate_dst (N := 2) rfl ?_); refine bx_ #[.int .i64 a0_0, .int .i64 a0_1, .int .i64 a0_2, .int .u64 a0_3, .int .u64 a0_4, .int .u64 a0_5] 28 ?_; intro gb387 hg w7 BK387 hb; have GW387 := bz_ w hg; replace HB := bs_ w hb; clear hb hg))
 replace BK387 := Aside0.mk (blk_drew BK387.out)
 replace HB := Aside0.mk (below_drew1 HB.out)
 refine start_ (n := 15) (S := fun w' => w'.cell? ⟨gb387, 0, none⟩ = some (.int .i64 a0_0) ∧ w'.cell? ⟨gb387, 1, none⟩ = some (.int .i64 a0_1) ∧ w'.cell? ⟨gb387, 2, none⟩ = some (.int .i64 a0_2) ∧ w'.cell? ⟨gb387, 3, none⟩ = some (.int .u64 a0_3) ∧ w'.cell? ⟨gb387, 4, none⟩ = some (.int .u64 a0_4) ∧ w'.cell? ⟨gb387, 5, none⟩ = some (.int .u64 a0_5)) (ds := []) (bl_ 15 0) (by kernel_rfl) rfl (by kernel_rfl) (cc6_ BK387) (fun hHeld => ?_); refine with_tabW spigotref37_fits.tab1 spigotref37_fits.bits1 (fun HT_ HW_ => ?_)
 generalize w7.drew = w8 at BK387 HB hHeld ⊢
 refine pa_ 0 (some 5) (bl_ 15 1) HT_ ?_
 refine pa_ 2 (some 7) (bl_ 15 5) HT_ ?_
 refine pa_ 4 (some 9) (bl_ 15 21) HT_ ?_
 refine pa_ 7 (some 12) (bl_ 15 149) HT_ ?_
 refine pa_ 9 (some 14) (bl_ 15 661) HT_ ?_
 refine ta_ 1 (some 6) (bl_ 15 663) HT_ HW_ hHeld ?_
 refine ta_ 3 (some 8) (bl_ 15 671) HT_ HW_ hHeld ?_
 refine ta_ 8 (some 13) (bl_ 15 927) HT_ HW_ hHeld ?_
 refine ta_ 10 (some 15) (bl_ 15 1951) HT_ HW_ hHeld ?_
 refine oa_ 5 (some 10) (bl_ 15 1983) HT_ fun K hK => ?_
 refine goesB_ Try.func40 #[.agg #[.int .i64 a0_0, .int .i64 a0_1, .int .i64 a0_2], .int .i64 a1] ?_
 with_reducible refine (spigotref37_tokens.calls a0_0 a0_1 a0_2 a1 t388 t389 _ A3.out).mono ?_
 rintro e w9 ⟨rfl, hb⟩
 refine ⟨_, rfl, ?_⟩
 replace BK387 := bb_ BK387 hb
 replace HB := bs_ w hb
 clear hb
 refine hK.out _ _ (cc6_ BK387) (fun hHeld => ?_)
 clear hK K
 refine nm_ (some 10) ?_
 refine oa_ 6 (some 11) (bl_ 15 2047) HT_ fun K hK => ?_
 refine goesB_ Try.func39 #[.agg #[.int .u64 a0_3, .int .u64 a0_4], .agg #[.int .u64 t388, .int .u64 t389]] ?_
 with_reducible refine (spigotref37_sum.calls a0_3 a0_4 t388 t389 t390 t391 _ A4.out).mono ?_
 rintro e w10 ⟨rfl, hb⟩
 refine ⟨_, rfl, ?_⟩
 replace BK387 := bb_ BK387 hb
 replace HB := bs_ w hb
 clear hb
 refine hK.out _ _ (cc6_ BK387) (fun hHeld => ?_)
 clear hK K
 refine nm_ (some 11) ?_
 refine oa_ 11 (some 16) (bl_ 15 4095) HT_ fun K hK => ?_
 refine goesB_ Try.func42 #[.agg #[.int .i64 a0_0, .int .i64 a0_1, .int .i64 a0_2], .int .u64 a0_5] ?_
 with_reducible refine (spigotref37_end.calls a0_0 a0_1 a0_2 a0_5 t392 t393 _ A5.out).mono ?_
 rintro e w11 ⟨rfl, hb⟩
 refine ⟨_, rfl, ?_⟩
 replace BK387 := bb_ BK387 hb
 replace HB := bs_ w hb
 clear hb
 refine hK.out _ _ (cc6_ BK387) (fun hHeld => ?_)
 clear hK K
 refine nm_ (some 16) ?_
 refine oa_ 12 (some 17) (bl_ 15 8191) HT_ fun K hK => ?_
 refine goesB_ Try.func46 #[.agg #[.int .u64 t390, .int .u64 t391], .agg #[.int .u64 t392, .int .u64 t393]] ?_
 with_reducible refine (spigotref01_Cmp.calls k t390 t391 t392 t393 t394 _ A6.out).mono ?_
 rintro e w12 ⟨rfl, hb⟩
 refine ⟨_, rfl, ?_⟩
 replace BK387 := bb_ BK387 hb
 replace HB := bs_ w hb
 clear hb
 refine hK.out _ _ (cc6_ BK387) (fun hHeld => ?_)
 clear hK K
 refine nm_ (some 17) ?_
 refine pa_ 13 (some 18) (bl_ 15 16383) HT_ ?_
 refine pa_ 14 (some 4) (bl_ 15 32767) HT_ ?_
 refine done_ (done_of HT_.out (by kernel_rfl)) ?_
 try go_wp2
 go_ret
 exact fi_

end Go.Proofs.Ytnijohomnajngaa.X
