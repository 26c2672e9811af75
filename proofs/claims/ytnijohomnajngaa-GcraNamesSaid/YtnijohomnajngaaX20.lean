-- written by xprint.py, a program of this session over the kit's print
import Derived.Test.YtnijohomnajngaaX0
import Derived.Test.YtnijohomnajngaaX6
import Derived.Test.YtnijohomnajngaaX11
import Derived.Test.YtnijohomnajngaaX12
namespace Go.Proofs.Ytnijohomnajngaa.X
open Go.RowKit Go.Proofs.YtnijohomnajngaaW.PrintWords Go.Proofs.YtnijohomnajngaaW.PrintLast Go.Proofs.YtnijohomnajngaaW.PrintMore
attribute [local go_sem] max2_int min2_int max_two min_two max_three min_three max_four min_four   -- for this text's walks alone
set_option linter.unusedVariables false
set_option linter.unusedSimpArgs false

/-! ### spigotref37_Check: function 16 -/
def spigotref37_Check.f (k : Nat) (a0_0 : Int) (a0_1 : Int) (a0_2 : Int) (a0_3 : Int) (a0_4 : Int) (a0_5 : Int) : Option (Int) := (spigotref03_CheckLimit.f a0_0 a0_1 a0_2).bind fun t273 => (if t273 = 0 then ((spigotref37_Time.f a0_0 a0_1 a0_2 a0_5).bind fun bt274 => ((spigotref01_Cmp.f k a0_3 a0_4 bt274.1 bt274.2).bind fun t276 => (if t276 < 0 then (some 8) else ((spigotref37_end.f a0_0 a0_1 a0_2 a0_5).bind fun bt277 => ((spigotref01_Cmp.f k a0_3 a0_4 bt277.1 bt277.2).bind fun t279 => (if t279 > 0 then (some 8) else (some 0))))))) else (some 8))
theorem spigotref37_Check.mono : ∀ a0 a1 a2 a3 a4 a5 k, LeO (spigotref37_Check.f k a0 a1 a2 a3 a4 a5) (spigotref37_Check.f (k + 1) a0 a1 a2 a3 a4 a5) := by
  intro a0 a1 a2 a3 a4 a5 k
  unfold spigotref37_Check.f
  repeat' first
      | (with_reducible exact spigotref01_Cmp.mono _ _ _ _ _)
      | (with_reducible exact LeO.refl _)
      | (with_reducible exact LeO.none _)
      | (with_reducible refine LeO.ite ?_ ?_)
      | (with_reducible refine LeO.bind ?_ (fun _ => ?_))
      | exact spigotref01_Cmp.mono _ _ _ _ _
      | exact LeO.none _
      | refine LeO.ite ?_ ?_
      | refine LeO.bind ?_ (fun _ => ?_)
def spigotref37_Check.T3 : Bool × List (List Nat × List Nat) := (true, [([], []), ([0], [0]), ([], []), ([2], [2]), ([], []), ([4], [4]), ([3, 5], [3, 5]), ([1, 6, 6], [1, 6]), ([7], [7]), ([8, 7], [8]), ([9], [9]), ([10, 9], [9, 10]), ([9], [9]), ([12, 9], [9, 12]), ([9], [9]), ([14, 9], [9, 14]), ([13, 15, 9, 9], [9, 13, 15]), ([11, 16, 16, 9], [9, 11, 16]), ([17, 9], [9, 17]), ([9, 18], [9, 18])])
def spigotref37_Check.B3 : List Nat := [0, 1, 0, 4, 0, 16, 60, 127, 255, 511, 1023, 2047, 1023, 5119, 1023, 17407, 62463, 131071, 262143, 524287]
theorem spigotref37_Check.tab3 : rtab .any (opsOf Try.f16 3) = spigotref37_Check.T3 := by kernel_rfl
theorem spigotref37_Check.bits3 : waitsOk spigotref37_Check.T3.2 spigotref37_Check.B3 = true := by kernel_rfl
set_option maxHeartbeats 8000000 in
set_option maxRecDepth 100000 in
theorem spigotref37_Check.calls (k : Nat) (a0_0 : Int) (a0_1 : Int) (a0_2 : Int) (a0_3 : Int) (a0_4 : Int) (a0_5 : Int) (r : Int) (w : World) (h : spigotref37_Check.f k a0_0 a0_1 a0_2 a0_3 a0_4 a0_5 = some r) :
  Calls Try.prog 16 #[.agg #[.int .i64 a0_0, .int .i64 a0_1, .int .i64 a0_2, .int .u64 a0_3, .int .u64 a0_4, .int .u64 a0_5]] w fun e w' => e = .returned (.int .i64 r) ∧ Below w.heap.size w w' := by
 have hu28 := Try.underlying28
 have hu23 := Try.underlying23
 have hu26 := Try.underlying26
 have HB := Aside0.mk (Below.refl w.heap.size w)
 have H : ((spigotref03_CheckLimit.f a0_0 a0_1 a0_2).bind fun t273 => (if t273 = 0 then ((spigotref37_Time.f a0_0 a0_1 a0_2 a0_5).bind fun bt274 => ((spigotref01_Cmp.f k a0_3 a0_4 bt274.1 bt274.2).bind fun t276 => (if t276 < 0 then (some 8) else ((spigotref37_end.f a0_0 a0_1 a0_2 a0_5).bind fun bt277 => ((spigotref01_Cmp.f k a0_3 a0_4 bt277.1 bt277.2).bind fun t279 => (if t279 > 0 then (some 8) else (some 0))))))) else (some 8))) = some r := h
 clear h
 have H0_ := bo_ H; clear H; obtain ⟨t273, A2, H⟩ := H0_
 try dsimp only at H
 by_cases c3 : t273 = 0
 ·rw [if_pos c3] at H
  have c3b0 : (t273 == 0) = true := beq_iff_eq.mpr c3
  have c3b1 : (t273 != 0) = false := bne_eq_false_iff_eq.mpr c3
  clear c3
  have H0_ := bo_ H; clear H; obtain ⟨⟨t274, t275⟩, A4, H⟩ := H0_
  try dsimp only at H
  have H0_ := bo_ H; clear H; obtain ⟨t276, A5, H⟩ := H0_
  try dsimp only at H
  by_cases c6 : t276 < 0
  ·rw [if_pos c6] at H
   have c6b0 : decide (t276 < 0) = true := decide_eq_true c6
   clear c6
   obtain rfl := Option.some.inj H
   go_enter Try.func16, Try.ntmps16
   try go_wp2_with (first | ((with_reducible refine gate_dst (N := 1) rfl ?_); (try refine ug_ (by rfl) ?_); refine bx_ #[.int .i64 a0_0, .int .i64 a0_1, .int .i64 a0_2, .int .u64 a0_3, .int .u64 a0_4, .int .u64 a0_5] 28 ?_; intro gb272 hg w7 BK272 hb; have GW272 := bz_ w hg; have GE272 := GW272; replace HB := bs_ w hb; clear hb hg; replace hc272 := ce6_ BK272) | ((with_reducible refine gate_callee (f := 32) rfl ?_); (try refine ug_ (by rfl) ?_); refine goesA_ (some 5) Try.func32 #[.agg #[.int .i64 a0_0, .int .i64 a0_1, .int .i64 a0_2]] ?_; (with_reducible refine (spigotref03_CheckLimit.calls a0_0 a0_1 a0_2 t273 _ A2.out).mono ?_); rintro e w9 ⟨rfl, hb⟩; refine ⟨_, rfl, ?_⟩; replace BK272 := bb_ BK272 hb; replace HB := bs_ w hb; clear hb))
   replace BK272 := Aside0.mk (blk_drew BK272.out)
   replace HB := Aside0.mk (below_drew1 HB.out)
   refine start_ (n := 20) (S := fun w' => w'.cell? ⟨gb272, 0, none⟩ = some (.int .i64 a0_0) ∧ w'.cell? ⟨gb272, 1, none⟩ = some (.int .i64 a0_1) ∧ w'.cell? ⟨gb272, 2, none⟩ = some (.int .i64 a0_2) ∧ w'.cell? ⟨gb272, 3, none⟩ = some (.int .u64 a0_3) ∧ w'.cell? ⟨gb272, 4, none⟩ = some (.int .u64 a0_4) ∧ w'.cell? ⟨gb272, 5, none⟩ = some (.int .u64 a0_5)) (ds := []) (bl_ 20 0) (by kernel_rfl) rfl (by kernel_rfl) (cc6_ BK272) (fun hHeld => ?_); refine with_tabW spigotref37_Check.tab3 spigotref37_Check.bits3 (fun HT_ HW_ => ?_)
   generalize w9.drew = w10 at BK272 HB hHeld ⊢
   refine pa_ 0 (some 7) (bl_ 20 1) HT_ ?_
   refine pa_ 2 (some 9) (bl_ 20 5) HT_ ?_
   refine pa_ 4 (some 11) (bl_ 20 21) HT_ ?_
   refine ta_ 1 (some 8) (bl_ 20 23) HT_ HW_ hHeld ?_
   refine ta_ 3 (some 10) (bl_ 20 31) HT_ HW_ hHeld ?_
   refine ta_ 5 (some 12) (bl_ 20 63) HT_ HW_ hHeld ?_
   refine oa_ 6 (some 13) (bl_ 20 127) HT_ fun K hK => ?_
   refine goesB_ Try.func33 #[.agg #[.int .i64 a0_0, .int .i64 a0_1, .int .i64 a0_2], .int .u64 a0_5] ?_
   with_reducible refine (spigotref37_Time.calls a0_0 a0_1 a0_2 a0_5 t274 t275 _ A4.out).mono ?_
   rintro e w11 ⟨rfl, hb⟩
   refine ⟨_, rfl, ?_⟩
   replace BK272 := bb_ BK272 hb
   replace HB := bs_ w hb
   clear hb
   refine hK.out _ _ (cc6_ BK272) (fun hHeld => ?_)
   clear hK K
   refine nm_ (some 13) ?_
   refine oa_ 7 (some 14) (bl_ 20 255) HT_ fun K hK => ?_
   refine goesB_ Try.func46 #[.agg #[.int .u64 a0_3, .int .u64 a0_4], .agg #[.int .u64 t274, .int .u64 t275]] ?_
   with_reducible refine (spigotref01_Cmp.calls k a0_3 a0_4 t274 t275 t276 _ A5.out).mono ?_
   rintro e w12 ⟨rfl, hb⟩
   refine ⟨_, rfl, ?_⟩
   replace BK272 := bb_ BK272 hb
   replace HB := bs_ w hb
   clear hb
   refine hK.out _ _ (cc6_ BK272) (fun hHeld => ?_)
   clear hK K
   refine nm_ (some 14) ?_
   refine pa_ 8 (some 15) (bl_ 20 511) HT_ ?_
   refine pa_ 9 (some 16) (bl_ 20 1023) HT_ ?_
   refine pz_ 10 (some 17) (bl_ 20 2047) HT_ ?_
   refine pz_ 11 (some 18) (bl_ 20 4095) HT_ ?_
   refine pz_ 12 (some 19) (bl_ 20 8191) HT_ ?_
   refine pz_ 13 (some 20) (bl_ 20 16383) HT_ ?_
   refine pz_ 14 (some 21) (bl_ 20 32767) HT_ ?_
   refine pz_ 15 (some 22) (bl_ 20 65535) HT_ ?_
   refine pz_ 16 (some 23) (bl_ 20 131071) HT_ ?_
   refine pz_ 17 (some 24) (bl_ 20 262143) HT_ ?_
   refine pz_ 18 (some 25) (bl_ 20 524287) HT_ ?_
   refine pa_ 19 (some 26) (bl_ 20 1048575) HT_ ?_
   refine done_ (done_of HT_.out (by kernel_rfl)) ?_
   try go_wp2
   go_ret
   exact fi_
  ·rw [if_neg c6] at H
   have c6b0 : decide (t276 < 0) = false := decide_eq_false c6
   clear c6
   have H0_ := bo_ H; clear H; obtain ⟨⟨t277, t278⟩, A13, H⟩ := H0_
   replace H : ((spigotref01_Cmp.f k a0_3 a0_4 t277 t278).bind fun t279 => (if t279 > 0 then (some 8) else (some 0))) = some r := H
   have H0_ := bo_ H; clear H; obtain ⟨t279, A14, H⟩ := H0_
   replace H : (if t279 > 0 then (some 8) else (some 0)) = some r := H
   by_cases c15 : t279 > 0
   ·rw [if_pos c15] at H
    have c15b0 : decide (0 < t279) = true := decide_eq_true c15
    clear c15
    obtain rfl := Option.some.inj H
    go_enter Try.func16, Try.ntmps16
    try go_wp2_with (first | ((with_reducible refine gate_dst (N := 1) rfl ?_); (try refine ug_ (by rfl) ?_); refine bx_ #[.int .i64 a0_0, .int .i64 a0_1, .int .i64 a0_2, .int .u64 a0_3, .int .u64 a0_4, .int .u64 a0_5] 28 ?_; intro gb272 hg w16 BK272 hb; have GW272 := bz_ w hg; have GE272 := GW272; replace HB := bs_ w hb; clear hb hg; replace hc272 := ce6_ BK272) | ((with_reducible refine gate_callee (f := 32) rfl ?_); (try refine ug_ (by rfl) ?_); refine goesA_ (some 5) Try.func32 #[.agg #[.int .i64 a0_0, .int .i64 a0_1, .int .i64 a0_2]] ?_; (with_reducible refine (spigotref03_CheckLimit.calls a0_0 a0_1 a0_2 t273 _ A2.out).mono ?_); rintro e w18 ⟨rfl, hb⟩; refine ⟨_, rfl, ?_⟩; replace BK272 := bb_ BK272 hb; replace HB := bs_ w hb; clear hb))
    replace BK272 := Aside0.mk (blk_drew BK272.out)
    replace HB := Aside0.mk (below_drew1 HB.out)
    refine start_ (n := 20) (S := fun w' => w'.cell? ⟨gb272, 0, none⟩ = some (.int .i64 a0_0) ∧ w'.cell? ⟨gb272, 1, none⟩ = some (.int .i64 a0_1) ∧ w'.cell? ⟨gb272, 2, none⟩ = some (.int .i64 a0_2) ∧ w'.cell? ⟨gb272, 3, none⟩ = some (.int .u64 a0_3) ∧ w'.cell? ⟨gb272, 4, none⟩ = some (.int .u64 a0_4) ∧ w'.cell? ⟨gb272, 5, none⟩ = some (.int .u64 a0_5)) (ds := []) (bl_ 20 0) (by kernel_rfl) rfl (by kernel_rfl) (cc6_ BK272) (fun hHeld => ?_); refine with_tabW spigotref37_Check.tab3 spigotref37_Check.bits3 (fun HT_ HW_ => ?_)
    generalize w18.drew = w19 at BK272 HB hHeld ⊢
    refine pa_ 0 (some 7) (bl_ 20 1) HT_ ?_
    refine pa_ 2 (some 9) (bl_ 20 5) HT_ ?_
    refine pa_ 4 (some 11) (bl_ 20 21) HT_ ?_
    refine ta_ 1 (some 8) (bl_ 20 23) HT_ HW_ hHeld ?_
    refine ta_ 3 (some 10) (bl_ 20 31) HT_ HW_ hHeld ?_
    refine ta_ 5 (some 12) (bl_ 20 63) HT_ HW_ hHeld ?_
    refine oa_ 6 (some 13) (bl_ 20 127) HT_ fun K hK => ?_
    refine goesB_ Try.func33 #[.agg #[.int .i64 a0_0, .int .i64 a0_1, .int .i64 a0_2], .int .u64 a0_5] ?_
    with_reducible refine (spigotref37_Time.calls a0_0 a0_1 a0_2 a0_5 t274 t275 _ A4.out).mono ?_
    rintro e w20 ⟨rfl, hb⟩
    refine ⟨_, rfl, ?_⟩
    replace BK272 := bb_ BK272 hb
    replace HB := bs_ w hb
    clear hb
    refine hK.out _ _ (cc6_ BK272) (fun hHeld => ?_)
    clear hK K
    refine nm_ (some 13) ?_
    refine oa_ 7 (some 14) (bl_ 20 255) HT_ fun K hK => ?_
    refine goesB_ Try.func46 #[.agg #[.int .u64 a0_3, .int .u64 a0_4], .agg #[.int .u64 t274, .int .u64 t275]] ?_
    with_reducible refine (spigotref01_Cmp.calls k a0_3 a0_4 t274 t275 t276 _ A5.out).mono ?_
    rintro e w21 ⟨rfl, hb⟩
    refine ⟨_, rfl, ?_⟩
    replace BK272 := bb_ BK272 hb
    replace HB := bs_ w hb
    clear hb
    refine hK.out _ _ (cc6_ BK272) (fun hHeld => ?_)
    clear hK K
    refine nm_ (some 14) ?_
    refine pa_ 8 (some 15) (bl_ 20 511) HT_ ?_
    refine pa_ 9 (some 16) (bl_ 20 1023) HT_ ?_
    refine pa_ 10 (some 17) (bl_ 20 2047) HT_ ?_
    refine pa_ 12 (some 19) (bl_ 20 6143) HT_ ?_
    refine pa_ 14 (some 21) (bl_ 20 22527) HT_ ?_
    refine ta_ 11 (some 18) (bl_ 20 24575) HT_ HW_ hHeld ?_
    refine ta_ 13 (some 20) (bl_ 20 32767) HT_ HW_ hHeld ?_
    refine ta_ 15 (some 22) (bl_ 20 65535) HT_ HW_ hHeld ?_
    refine oa_ 16 (some 23) (bl_ 20 131071) HT_ fun K hK => ?_
    refine goesB_ Try.func42 #[.agg #[.int .i64 a0_0, .int .i64 a0_1, .int .i64 a0_2], .int .u64 a0_5] ?_
    with_reducible refine (spigotref37_end.calls a0_0 a0_1 a0_2 a0_5 t277 t278 _ A13.out).mono ?_
    rintro e w22 ⟨rfl, hb⟩
    refine ⟨_, rfl, ?_⟩
    replace BK272 := bb_ BK272 hb
    replace HB := bs_ w hb
    clear hb
    refine hK.out _ _ (cc6_ BK272) (fun hHeld => ?_)
    clear hK K
    refine nm_ (some 23) ?_
    refine oa_ 17 (some 24) (bl_ 20 262143) HT_ fun K hK => ?_
    refine goesB_ Try.func46 #[.agg #[.int .u64 a0_3, .int .u64 a0_4], .agg #[.int .u64 t277, .int .u64 t278]] ?_
    with_reducible refine (spigotref01_Cmp.calls k a0_3 a0_4 t277 t278 t279 _ A14.out).mono ?_
    rintro e w23 ⟨rfl, hb⟩
    refine ⟨_, rfl, ?_⟩
    replace BK272 := bb_ BK272 hb
    replace HB := bs_ w hb
    clear hb
    refine hK.out _ _ (cc6_ BK272) (fun hHeld => ?_)
    clear hK K
    refine nm_ (some 24) ?_
    refine pa_ 18 (some 25) (bl_ 20 524287) HT_ ?_
    refine pa_ 19 (some 26) (bl_ 20 1048575) HT_ ?_
    refine done_ (done_of HT_.out (by kernel_rfl)) ?_
    try go_wp2
    go_ret
    exact fi_
   ·rw [if_neg c15] at H
    have c15b0 : decide (0 < t279) = false := decide_eq_false c15
    clear c15
    obtain rfl := Option.some.inj H
    go_enter Try.func16, Try.ntmps16
    try go_wp2_with (first | ((with_reducible refine gate_dst (N := 1) rfl ?_); (try refine ug_ (by rfl) ?_); refine bx_ #[.int .i64 a0_0, .int .i64 a0_1, .int .i64 a0_2, .int .u64 a0_3, .int .u64 a0_4, .int .u64 a0_5] 28 ?_; intro gb272 hg w24 BK272 hb; have GW272 := bz_ w hg; have GE272 := GW272; replace HB := bs_ w hb; clear hb hg; replace hc272 := ce6_ BK272) | ((with_reducible refine gate_callee (f := 32) rfl ?_); (try refine ug_ (by rfl) ?_); refine goesA_ (some 5) Try.func32 #[.agg #[.int .i64 a0_0, .int .i64 a0_1, .int .i64 a0_2]] ?_; (with_reducible refine (spigotref03_CheckLimit.calls a0_0 a0_1 a0_2 t273 _ A2.out).mono ?_); rintro e w26 ⟨rfl, hb⟩; refine ⟨_, rfl, ?_⟩; replace BK272 := bb_ BK272 hb; replace HB := bs_ w hb; clear hb))
    replace BK272 := Aside0.mk (blk_drew BK272.out)
    replace HB := Aside0.mk (below_drew1 HB.out)
    refine start_ (n := 20) (S := fun w' => w'.cell? ⟨gb272, 0, none⟩ = some (.int .i64 a0_0) ∧ w'.cell? ⟨gb272, 1, none⟩ = some (.int .i64 a0_1) ∧ w'.cell? ⟨gb272, 2, none⟩ = some (.int .i64 a0_2) ∧ w'.cell? ⟨gb272, 3, none⟩ = some (.int .u64 a0_3) ∧ w'.cell? ⟨gb272, 4, none⟩ = some (.int .u64 a0_4) ∧ w'.cell? ⟨gb272, 5, none⟩ = some (.int .u64 a0_5)) (ds := []) (bl_ 20 0) (by kernel_rfl) rfl (by kernel_rfl) (cc6_ BK272) (fun hHeld => ?_); refine with_tabW spigotref37_Check.tab3 spigotref37_Check.bits3 (fun HT_ HW_ => ?_)
    generalize w26.drew = w27 at BK272 HB hHeld ⊢
    refine pa_ 0 (some 7) (bl_ 20 1) HT_ ?_
    refine pa_ 2 (some 9) (bl_ 20 5) HT_ ?_
    refine pa_ 4 (some 11) (bl_ 20 21) HT_ ?_
    refine ta_ 1 (some 8) (bl_ 20 23) HT_ HW_ hHeld ?_
    refine ta_ 3 (some 10) (bl_ 20 31) HT_ HW_ hHeld ?_
    refine ta_ 5 (some 12) (bl_ 20 63) HT_ HW_ hHeld ?_
    refine oa_ 6 (some 13) (bl_ 20 127) HT_ fun K hK => ?_
    refine goesB_ Try.func33 #[.agg #[.int .i64 a0_0, .int .i64 a0_1, .int .i64 a0_2], .int .u64 a0_5] ?_
    with_reducible refine (spigotref37_Time.calls a0_0 a0_1 a0_2 a0_5 t274 t275 _ A4.out).mono ?_
    rintro e w28 ⟨rfl, hb⟩
    refine ⟨_, rfl, ?_⟩
    replace BK272 := bb_ BK272 hb
    replace HB := bs_ w hb
    clear hb
    refine hK.out _ _ (cc6_ BK272) (fun hHeld => ?_)
    clear hK K
    refine nm_ (some 13) ?_
    refine oa_ 7 (some 14) (bl_ 20 255) HT_ fun K hK => ?_
    refine goesB_ Try.func46 #[.agg #[.int .u64 a0_3, .int .u64 a0_4], .agg #[.int .u64 t274, .int .u64 t275]] ?_
    with_reducible refine (spigotref01_Cmp.calls k a0_3 a0_4 t274 t275 t276 _ A5.out).mono ?_
    rintro e w29 ⟨rfl, hb⟩
    refine ⟨_, rfl, ?_⟩
    replace BK272 := bb_ BK272 hb
    replace HB := bs_ w hb
    clear hb
    refine hK.out _ _ (cc6_ BK272) (fun hHeld => ?_)
    clear hK K
    refine nm_ (some 14) ?_
    refine pa_ 8 (some 15) (bl_ 20 511) HT_ ?_
    refine pa_ 9 (some 16) (bl_ 20 1023) HT_ ?_
    refine pa_ 10 (some 17) (bl_ 20 2047) HT_ ?_
    refine pa_ 12 (some 19) (bl_ 20 6143) HT_ ?_
    refine pa_ 14 (some 21) (bl_ 20 22527) HT_ ?_
    refine ta_ 11 (some 18) (bl_ 20 24575) HT_ HW_ hHeld ?_
    refine ta_ 13 (some 20) (bl_ 20 32767) HT_ HW_ hHeld ?_
    refine ta_ 15 (some 22) (bl_ 20 65535) HT_ HW_ hHeld ?_
    refine oa_ 16 (some 23) (bl_ 20 131071) HT_ fun K hK => ?_
    refine goesB_ Try.func42 #[.agg #[.int .i64 a0_0, .int .i64 a0_1, .int .i64 a0_2], .int .u64 a0_5] ?_
    with_reducible refine (spigotref37_end.calls a0_0 a0_1 a0_2 a0_5 t277 t278 _ A13.out).mono ?_
    rintro e w30 ⟨rfl, hb⟩
    refine ⟨_, rfl, ?_⟩
    replace BK272 := bb_ BK272 hb
    replace HB := bs_ w hb
    clear hb
    refine hK.out _ _ (cc6_ BK272) (fun hHeld => ?_)
    clear hK K
    refine nm_ (some 23) ?_
    refine oa_ 17 (some 24) (bl_ 20 262143) HT_ fun K hK => ?_
    refine goesB_ Try.func46 #[.agg #[.int .u64 a0_3, .int .u64 a0_4], .agg #[.int .u64 t277, .int .u64 t278]] ?_
    with_reducible refine (spigotref01_Cmp.calls k a0_3 a0_4 t277 t278 t279 _ A14.out).mono ?_
    rintro e w31 ⟨rfl, hb⟩
    refine ⟨_, rfl, ?_⟩
    replace BK272 := bb_ BK272 hb
    replace HB := bs_ w hb
    clear hb
    refine hK.out _ _ (cc6_ BK272) (fun hHeld => ?_)
    clear hK K
    refine nm_ (some 24) ?_
    refine pa_ 18 (some 25) (bl_ 20 524287) HT_ ?_
    refine pa_ 19 (some 26) (bl_ 20 1048575) HT_ ?_
    refine done_ (done_of HT_.out (by kernel_rfl)) ?_
    try go_wp2
    go_ret
    exact fi_
 ·rw [if_neg c3] at H
  have c3b0 : (t273 == 0) = false := beq_eq_false_iff_ne.mpr c3
  have c3b1 : (t273 != 0) = true := bne_iff_ne.mpr c3
  obtain rfl := Option.some.inj H
  go_enter Try.func16, Try.ntmps16
  go_wp2_with (first | ((with_reducible refine gate_dst (N := 1) rfl ?_); (try refine ug_ (by rfl) ?_); refine bx_ #[.int .i64 a0_0, .int .i64 a0_1, .int .i64 a0_2, .int .u64 a0_3, .int .u64 a0_4, .int .u64 a0_5] 28 ?_; intro gb272 hg w32 BK272 hb; have GW272 := bz_ w hg; have GE272 := GW272; replace HB := bs_ w hb; clear hb hg; replace hc272 := ce6_ BK272) | ((with_reducible refine gate_callee (f := 32) rfl ?_); (try refine ug_ (by rfl) ?_); refine goesA_ (some 5) Try.func32 #[.agg #[.int .i64 a0_0, .int .i64 a0_1, .int .i64 a0_2]] ?_; (with_reducible refine (spigotref03_CheckLimit.calls a0_0 a0_1 a0_2 t273 _ A2.out).mono ?_); rintro e w34 ⟨rfl, hb⟩; refine ⟨_, rfl, ?_⟩; replace BK272 := bb_ BK272 hb; replace HB := bs_ w hb; clear hb))
  go_ret
  exact fi_

end Go.Proofs.Ytnijohomnajngaa.X
