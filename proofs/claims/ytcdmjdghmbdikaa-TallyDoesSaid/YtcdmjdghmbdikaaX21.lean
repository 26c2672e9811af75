-- written by xprint.py, a program of this session over the kit's print
import Derived.Test.YtcdmjdghmbdikaaX0
import Derived.Test.YtcdmjdghmbdikaaX1
import Derived.Test.YtcdmjdghmbdikaaX4
import Derived.Test.YtcdmjdghmbdikaaX5
import Derived.Test.YtcdmjdghmbdikaaX11
import Derived.Test.YtcdmjdghmbdikaaX12
import Derived.Test.YtcdmjdghmbdikaaX19
import Derived.Test.YtcdmjdghmbdikaaX20
namespace Go.Proofs.Ytcdmjdghmbdikaa.X
open Go.RowKit Go.Proofs.YtcdmjdghmbdikaaW.PrintWords Go.Proofs.YtcdmjdghmbdikaaW.PrintLast Go.Proofs.YtcdmjdghmbdikaaW.PrintMore
attribute [local go_sem] max2_int min2_int max_two min_two max_three min_three max_four min_four   -- for this text's walks alone
set_option linter.unusedVariables false
set_option linter.unusedSimpArgs false

attribute [local go_sem high] eqA25
/-! ### spigotlaw21_TallyDoes: function 5 -/
def spigotlaw21_TallyDoes.f (k : Nat) (a0_0 : Int) (a0_1 : Int) (a0_2 : Int) (a1_0 : Int) (a1_1 : Int) (a1_2 : Int) (a2 : Bool) (a3 : Int) (a4 : Int) : Option (Bool) := (tally_Share.f k a0_0 a0_1 a0_2 a4).bind fun bt255 => ((spigotref21_Share.f k a0_0 a0_1 a0_2 a4).bind fun bt257 => ((tally_Count.f a0_0 a0_1 a0_2 a2 a3).bind fun bt259 => ((spigotref21_Count.f a0_0 a0_1 a0_2 a2 a3).bind fun bt262 => (if (bt259.1 == bt262.1 && (bt259.2.1 == bt262.2.1 && (bt259.2.2 == bt262.2.2))) = true then ((tally_Add.f a0_0 a0_1 a0_2 a1_0 a1_1 a1_2).bind fun bt265 => ((spigotref21_Add.f a0_0 a0_1 a0_2 a1_0 a1_1 a1_2).bind fun bt268 => (if (bt265.1 == bt268.1 && (bt265.2.1 == bt268.2.1 && (bt265.2.2 == bt268.2.2))) = true then (if bt255.1 = bt257.1 then (some (bt255.2 == bt257.2)) else (none)) else (none)))) else (none)))))
theorem spigotlaw21_TallyDoes.mono : ∀ a0 a1 a2 a3 a4 a5 a6 a7 a8 k, LeO (spigotlaw21_TallyDoes.f k a0 a1 a2 a3 a4 a5 a6 a7 a8) (spigotlaw21_TallyDoes.f (k + 1) a0 a1 a2 a3 a4 a5 a6 a7 a8) := by
  intro a0 a1 a2 a3 a4 a5 a6 a7 a8 k
  unfold spigotlaw21_TallyDoes.f
  repeat' first
      | (with_reducible exact spigotref21_Share.mono _ _ _ _ _)
      | (with_reducible exact tally_Share.mono _ _ _ _ _)
      | (with_reducible exact LeO.refl _)
      | (with_reducible exact LeO.none _)
      | (with_reducible refine LeO.ite ?_ ?_)
      | (with_reducible refine LeO.bind ?_ (fun _ => ?_))
      | exact spigotref21_Share.mono _ _ _ _ _
      | exact tally_Share.mono _ _ _ _ _
      | exact LeO.none _
      | refine LeO.ite ?_ ?_
      | refine LeO.bind ?_ (fun _ => ?_)
def spigotlaw21_TallyDoes.T3 : Bool × List (List Nat × List Nat) := (true, [([], []), ([], []), ([], []), ([0, 1, 2], [0, 1, 2]), ([], []), ([], []), ([], []), ([4, 5, 6, 3], [4, 5, 6]), ([3, 7], [3, 7]), ([8, 7], [8]), ([9], [9]), ([9], [9]), ([10, 11, 9, 9], [9, 10, 11]), ([9], [9]), ([9], [9]), ([13, 14, 12, 9], [9, 13, 14]), ([12, 15, 9], [9, 12, 15]), ([9, 16], [9, 16]), ([17, 15], [17]), ([18], [18]), ([18], [18]), ([19, 20, 18], [18, 19, 20]), ([18, 21], [18, 21]), ([22, 18], [22]), ([23], [23]), ([23], [23]), ([24, 25, 23], [23, 24, 25]), ([23, 26], [23, 26]), ([27, 23, 0, 1, 2, 3, 4, 5, 6, 7, 8, 9, 10, 11, 12, 13, 14, 15, 16, 17, 18, 19, 20, 21, 22, 23, 24, 25, 26, 27], [27])])
def spigotlaw21_TallyDoes.B3 : List Nat := [0, 0, 0, 7, 0, 0, 0, 127, 255, 511, 1023, 1023, 4095, 1023, 1023, 32767, 65535, 131071, 262143, 524287, 524287, 2097151, 4194303, 8388607, 16777215, 16777215, 67108863, 134217727, 268435455]
theorem spigotlaw21_TallyDoes.tab3 : rtab .any (opsOf Try.f5 3) = spigotlaw21_TallyDoes.T3 := by kernel_rfl
theorem spigotlaw21_TallyDoes.bits3 : waitsOk spigotlaw21_TallyDoes.T3.2 spigotlaw21_TallyDoes.B3 = true := by kernel_rfl
set_option maxHeartbeats 8000000 in
set_option maxRecDepth 100000 in
theorem spigotlaw21_TallyDoes.calls (k : Nat) (a0_0 : Int) (a0_1 : Int) (a0_2 : Int) (a1_0 : Int) (a1_1 : Int) (a1_2 : Int) (a2 : Bool) (a3 : Int) (a4 : Int) (r : Bool) (w : World) (h : spigotlaw21_TallyDoes.f k a0_0 a0_1 a0_2 a1_0 a1_1 a1_2 a2 a3 a4 = some r) :
  Calls Try.prog 5 #[.agg #[.int .u64 a0_0, .int .u64 a0_1, .int .u64 a0_2], .agg #[.int .u64 a1_0, .int .u64 a1_1, .int .u64 a1_2], .bool a2, .int .u32 a3, .int .u64 a4] w fun e w' => e = .returned (.bool r) ∧ Below w.heap.size w w' := by
 have hu25 := Try.underlying25
 have HB := Aside0.mk (Below.refl w.heap.size w)
 have H : ((tally_Share.f k a0_0 a0_1 a0_2 a4).bind fun bt255 => ((spigotref21_Share.f k a0_0 a0_1 a0_2 a4).bind fun bt257 => ((tally_Count.f a0_0 a0_1 a0_2 a2 a3).bind fun bt259 => ((spigotref21_Count.f a0_0 a0_1 a0_2 a2 a3).bind fun bt262 => (if (bt259.1 == bt262.1 && (bt259.2.1 == bt262.2.1 && (bt259.2.2 == bt262.2.2))) = true then ((tally_Add.f a0_0 a0_1 a0_2 a1_0 a1_1 a1_2).bind fun bt265 => ((spigotref21_Add.f a0_0 a0_1 a0_2 a1_0 a1_1 a1_2).bind fun bt268 => (if (bt265.1 == bt268.1 && (bt265.2.1 == bt268.2.1 && (bt265.2.2 == bt268.2.2))) = true then (if bt255.1 = bt257.1 then (some (bt255.2 == bt257.2)) else (none)) else (none)))) else (none)))))) = some r := h
 clear h
 have H0_ := bo_ H; clear H; obtain ⟨⟨t255, t256⟩, A6, H⟩ := H0_
 try dsimp only at H
 have H0_ := bo_ H; clear H; obtain ⟨⟨t257, t258⟩, A7, H⟩ := H0_
 try dsimp only at H
 have H0_ := bo_ H; clear H; obtain ⟨⟨t259, t260, t261⟩, A8, H⟩ := H0_
 try dsimp only at H
 have H0_ := bo_ H; clear H; obtain ⟨⟨t262, t263, t264⟩, A9, H⟩ := H0_
 try dsimp only at H
 by_cases c10 : (t259 == t262 && (t260 == t263 && (t261 == t264))) = true
 rotate_left
 ·rw [if_neg c10] at H; exact absurd H (by simp)
 rw [if_pos c10] at H
 have c10b0 : (t259 == t262 && (t260 == t263 && (t261 == t264))) = true := c10
 (try (have c10b1 : decide (t259 = t262 && (t260 == t263 && (t261 == t264))) = true := by simpa using c10))
 (try (have c10b2 : (t259 == t262 && (t260 == t263 && (t261 == t264))) = true := by simpa using c10))
 clear c10
 have H0_ := bo_ H; clear H; obtain ⟨⟨t265, t266, t267⟩, A11, H⟩ := H0_
 try dsimp only at H
 have H0_ := bo_ H; clear H; obtain ⟨⟨t268, t269, t270⟩, A12, H⟩ := H0_
 replace H : (if (t265 == t268 && (t266 == t269 && (t267 == t270))) = true then (if t255 = t257 then (some (t256 == t258)) else (none)) else (none)) = some r := H
 by_cases c13 : (t265 == t268 && (t266 == t269 && (t267 == t270))) = true
 rotate_left
 ·rw [if_neg c13] at H; exact absurd H (by simp)
 rw [if_pos c13] at H
 have c13b0 : (t265 == t268 && (t266 == t269 && (t267 == t270))) = true := c13
 (try (have c13b1 : decide (t265 = t268 && (t266 == t269 && (t267 == t270))) = true := by simpa using c13))
 (try (have c13b2 : (t265 == t268 && (t266 == t269 && (t267 == t270))) = true := by simpa using c13))
 clear c13
 obtain ⟨c14b0, c14b1, H⟩ := ct_ H
 obtain rfl := Option.some.inj H
 go_enter Try.func5, Try.ntmps5
 try go_wp2_with (first | ((with_reducible refine gate_dst (N := 5) rfl ?_); (try refine ug_ (by rfl) ?_); refine bx_ #[.int .u64 a0_0, .int .u64 a0_1, .int .u64 a0_2] 25 ?_; intro gb253 hg w15 BK253 hb; have GW253 := bz_ w hg; replace HB := bs_ w hb; clear hb hg) | ((with_reducible refine gate_dst (N := 6) rfl ?_); (try refine ug_ (by rfl) ?_); refine bx_ #[.int .u64 a1_0, .int .u64 a1_1, .int .u64 a1_2] 25 ?_; intro gb254 hg w16 BK254 hb; have GW254 := bz_ w hg; have NB253_254 := bn_ BK253 hg; have NB254_253 := bm_ BK253 hg; replace BK253 := bb_ BK253 hb; replace HB := bs_ w hb; clear hb hg; replace hn253_254 := NB253_254.out; replace hn254_253 := NB254_253.out; replace hc253 := ce3_ BK253) | ((with_reducible refine gate_callee (f := 18) rfl ?_); (try refine ug_ (by rfl) ?_); refine goesA_ (some 18) Try.func18 #[.agg #[.int .u64 a0_0, .int .u64 a0_1, .int .u64 a0_2], .int .u64 a4] ?_; (with_reducible refine (tally_Share.calls k a0_0 a0_1 a0_2 a4 t255 t256 _ A6.out).mono ?_); rintro e w19 ⟨rfl, hb⟩; refine ⟨_, rfl, ?_⟩; replace BK253 := bb_ BK253 hb; replace BK254 := bb_ BK254 hb; replace HB := bs_ w hb; clear hb; replace hc253 := ce3_ BK253) | ((with_reducible refine gate_callee (f := 19) rfl ?_); (try refine ug_ (by rfl) ?_); refine goesA_ (some 24) Try.func19 #[.agg #[.int .u64 a0_0, .int .u64 a0_1, .int .u64 a0_2], .int .u64 a4] ?_; (with_reducible refine (spigotref21_Share.calls k a0_0 a0_1 a0_2 a4 t257 t258 _ A7.out).mono ?_); rintro e w21 ⟨rfl, hb⟩; refine ⟨_, rfl, ?_⟩; replace BK253 := bb_ BK253 hb; replace BK254 := bb_ BK254 hb; replace HB := bs_ w hb; clear hb))
 replace BK253 := Aside0.mk (blk_drew BK253.out)
 replace BK254 := Aside0.mk (blk_drew BK254.out)
 replace HB := Aside0.mk (below_drew1 HB.out)
 refine start_ (n := 29) (S := fun w' => w'.cell? ⟨gb253, 0, none⟩ = some (.int .u64 a0_0) ∧ w'.cell? ⟨gb253, 1, none⟩ = some (.int .u64 a0_1) ∧ w'.cell? ⟨gb253, 2, none⟩ = some (.int .u64 a0_2) ∧ w'.cell? ⟨gb254, 0, none⟩ = some (.int .u64 a1_0) ∧ w'.cell? ⟨gb254, 1, none⟩ = some (.int .u64 a1_1) ∧ w'.cell? ⟨gb254, 2, none⟩ = some (.int .u64 a1_2)) (ds := []) (bl_ 29 0) (by kernel_rfl) rfl (by kernel_rfl) ⟨(blk_cell BK253.out 0).trans rfl, (blk_cell BK253.out 1).trans rfl, (blk_cell BK253.out 2).trans rfl, (blk_cell BK254.out 0).trans rfl, (blk_cell BK254.out 1).trans rfl, (blk_cell BK254.out 2).trans rfl⟩ (fun hHeld => ?_); refine with_tabW spigotlaw21_TallyDoes.tab3 spigotlaw21_TallyDoes.bits3 (fun HT_ HW_ => ?_)
 generalize w21.drew = w22 at BK253 BK254 HB hHeld ⊢
 refine pa_ 1 (some 28) (bl_ 29 2) HT_ ?_
 refine pa_ 2 (some 29) (bl_ 29 6) HT_ ?_
 refine pa_ 5 (some 32) (bl_ 29 38) HT_ ?_
 refine pa_ 6 (some 33) (bl_ 29 102) HT_ ?_
 refine ta_ 0 (some 27) (bl_ 29 103) HT_ HW_ hHeld ?_
 refine ta_ 4 (some 31) (bl_ 29 119) HT_ HW_ hHeld ?_
 refine oa_ 3 (some 30) (bl_ 29 127) HT_ fun K hK => ?_
 refine goesB_ Try.func20 #[.agg #[.int .u64 a0_0, .int .u64 a0_1, .int .u64 a0_2], .bool a2, .int .u32 a3] ?_
 with_reducible refine (tally_Count.calls a0_0 a0_1 a0_2 a2 a3 t259 t260 t261 _ A8.out).mono ?_
 rintro e w23 ⟨rfl, hb⟩
 refine ⟨_, rfl, ?_⟩
 replace BK253 := bb_ BK253 hb
 replace BK254 := bb_ BK254 hb
 replace HB := bs_ w hb
 clear hb
 refine hK.out _ _ ⟨(blk_cell BK253.out 0).trans rfl, (blk_cell BK253.out 1).trans rfl, (blk_cell BK253.out 2).trans rfl, (blk_cell BK254.out 0).trans rfl, (blk_cell BK254.out 1).trans rfl, (blk_cell BK254.out 2).trans rfl⟩ (fun hHeld => ?_)
 clear hK K
 refine nm_ (some 30) ?_
 refine oa_ 7 (some 34) (bl_ 29 255) HT_ fun K hK => ?_
 refine goesB_ Try.func21 #[.agg #[.int .u64 a0_0, .int .u64 a0_1, .int .u64 a0_2], .bool a2, .int .u32 a3] ?_
 with_reducible refine (spigotref21_Count.calls a0_0 a0_1 a0_2 a2 a3 t262 t263 t264 _ A9.out).mono ?_
 rintro e w24 ⟨rfl, hb⟩
 refine ⟨_, rfl, ?_⟩
 replace BK253 := bb_ BK253 hb
 replace BK254 := bb_ BK254 hb
 replace HB := bs_ w hb
 clear hb
 refine hK.out _ _ ⟨(blk_cell BK253.out 0).trans rfl, (blk_cell BK253.out 1).trans rfl, (blk_cell BK253.out 2).trans rfl, (blk_cell BK254.out 0).trans rfl, (blk_cell BK254.out 1).trans rfl, (blk_cell BK254.out 2).trans rfl⟩ (fun hHeld => ?_)
 clear hK K
 refine nm_ (some 34) ?_
 refine pa_ 8 (some 35) (bl_ 29 511) HT_ ?_
 refine pa_ 9 (some 36) (bl_ 29 1023) HT_ ?_
 refine ta_ 10 (some 37) (bl_ 29 2047) HT_ HW_ hHeld ?_
 refine ta_ 11 (some 38) (bl_ 29 4095) HT_ HW_ hHeld ?_
 refine ta_ 13 (some 40) (bl_ 29 12287) HT_ HW_ hHeld ?_
 refine ta_ 14 (some 41) (bl_ 29 28671) HT_ HW_ hHeld ?_
 refine oa_ 12 (some 39) (bl_ 29 32767) HT_ fun K hK => ?_
 refine goesB_ Try.func22 #[.agg #[.int .u64 a0_0, .int .u64 a0_1, .int .u64 a0_2], .agg #[.int .u64 a1_0, .int .u64 a1_1, .int .u64 a1_2]] ?_
 with_reducible refine (tally_Add.calls a0_0 a0_1 a0_2 a1_0 a1_1 a1_2 t265 t266 t267 _ A11.out).mono ?_
 rintro e w25 ⟨rfl, hb⟩
 refine ⟨_, rfl, ?_⟩
 replace BK253 := bb_ BK253 hb
 replace BK254 := bb_ BK254 hb
 replace HB := bs_ w hb
 clear hb
 refine hK.out _ _ ⟨(blk_cell BK253.out 0).trans rfl, (blk_cell BK253.out 1).trans rfl, (blk_cell BK253.out 2).trans rfl, (blk_cell BK254.out 0).trans rfl, (blk_cell BK254.out 1).trans rfl, (blk_cell BK254.out 2).trans rfl⟩ (fun hHeld => ?_)
 clear hK K
 refine nm_ (some 39) ?_
 refine oa_ 15 (some 42) (bl_ 29 65535) HT_ fun K hK => ?_
 refine goesB_ Try.func23 #[.agg #[.int .u64 a0_0, .int .u64 a0_1, .int .u64 a0_2], .agg #[.int .u64 a1_0, .int .u64 a1_1, .int .u64 a1_2]] ?_
 with_reducible refine (spigotref21_Add.calls a0_0 a0_1 a0_2 a1_0 a1_1 a1_2 t268 t269 t270 _ A12.out).mono ?_
 rintro e w26 ⟨rfl, hb⟩
 refine ⟨_, rfl, ?_⟩
 replace BK253 := bb_ BK253 hb
 replace BK254 := bb_ BK254 hb
 replace HB := bs_ w hb
 clear hb
 refine hK.out _ _ ⟨(blk_cell BK253.out 0).trans rfl, (blk_cell BK253.out 1).trans rfl, (blk_cell BK253.out 2).trans rfl, (blk_cell BK254.out 0).trans rfl, (blk_cell BK254.out 1).trans rfl, (blk_cell BK254.out 2).trans rfl⟩ (fun hHeld => ?_)
 clear hK K
 refine nm_ (some 42) ?_
 refine pa_ 16 (some 43) (bl_ 29 131071) HT_ ?_
 refine pa_ 17 (some 44) (bl_ 29 262143) HT_ ?_
 refine pa_ 18 (some 45) (bl_ 29 524287) HT_ ?_
 refine pa_ 19 (some 46) (bl_ 29 1048575) HT_ ?_
 refine pa_ 20 (some 47) (bl_ 29 2097151) HT_ ?_
 refine pa_ 21 (some 48) (bl_ 29 4194303) HT_ ?_
 refine pa_ 22 (some 49) (bl_ 29 8388607) HT_ ?_
 refine pa_ 23 (some 50) (bl_ 29 16777215) HT_ ?_
 refine pa_ 24 (some 51) (bl_ 29 33554431) HT_ ?_
 refine pa_ 25 (some 52) (bl_ 29 67108863) HT_ ?_
 refine pa_ 26 (some 53) (bl_ 29 134217727) HT_ ?_
 refine pa_ 27 (some 54) (bl_ 29 268435455) HT_ ?_
 refine pa_ 28 (some 10) (bl_ 29 536870911) HT_ ?_
 refine done_ (done_of HT_.out (by kernel_rfl)) ?_
 try go_wp2
 go_ret
 exact fi_

end Go.Proofs.Ytcdmjdghmbdikaa.X
