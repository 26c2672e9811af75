-- written by xprint.py, a program of this session over the kit's print
import Derived.Test.YtnijohomnajngaaX0
import Derived.Test.YtnijohomnajngaaX5
import Derived.Test.YtnijohomnajngaaX8
import Derived.Test.YtnijohomnajngaaX15
namespace Go.Proofs.Ytnijohomnajngaa.X
open Go.RowKit Go.Proofs.YtnijohomnajngaaW.PrintWords Go.Proofs.YtnijohomnajngaaW.PrintLast Go.Proofs.YtnijohomnajngaaW.PrintMore
attribute [local go_sem] max2_int min2_int max_two min_two max_three min_three max_four min_four   -- for this text's walks alone
set_option linter.unusedVariables false
set_option linter.unusedSimpArgs false

/-! ### gcra_Check: function 15 -/
def gcra_Check.f (k : Nat) (a0_0 : Int) (a0_1 : Int) (a0_2 : Int) (a0_3 : Int) (a0_4 : Int) (a0_5 : Int) : Option (Int) := (bucket_CheckLimit.f a0_0 a0_1 a0_2).bind fun t235 => (if t235 = 0 then ((gcra_end.f a0_0 a0_1 a0_2 a0_5).bind fun bt236 => (if bt236.2.2 = 0 then ((gcra_at.f a0_0 a0_1 a0_2 a0_5).bind fun bt240 => ((wide_Cmp.f k a0_3 a0_4 bt240.1 bt240.2).bind fun t242 => (if t242 < 0 then (some 8) else ((wide_Cmp.f k a0_3 a0_4 bt236.1 bt236.2.1).bind fun t243 => (if t243 > 0 then (some 8) else (some 0)))))) else (some 8))) else (some t235))
theorem gcra_Check.mono : ∀ a0 a1 a2 a3 a4 a5 k, LeO (gcra_Check.f k a0 a1 a2 a3 a4 a5) (gcra_Check.f (k + 1) a0 a1 a2 a3 a4 a5) := by
  intro a0 a1 a2 a3 a4 a5 k
  unfold gcra_Check.f
  repeat' first
      | (with_reducible exact wide_Cmp.mono _ _ _ _ _)
      | (with_reducible exact LeO.refl _)
      | (with_reducible exact LeO.none _)
      | (with_reducible refine LeO.ite ?_ ?_)
      | (with_reducible refine LeO.bind ?_ (fun _ => ?_))
      | exact wide_Cmp.mono _ _ _ _ _
      | exact LeO.none _
      | refine LeO.ite ?_ ?_
      | refine LeO.bind ?_ (fun _ => ?_)
def gcra_Check.T5 : Bool × List (List Nat × List Nat) := (true, [([], []), ([0], [0]), ([1], [1]), ([2], [2]), ([3, 2], [2, 3]), ([2], [2]), ([5, 2], [2, 5]), ([2], [2]), ([7, 2], [2, 7]), ([6, 8, 2, 2], [2, 6, 8]), ([4, 9, 9, 2], [2, 4, 9]), ([10, 2], [2, 10]), ([2, 11], [2, 11]), ([12, 10], [12]), ([13], [13]), ([14, 13], [13, 14]), ([13], [13]), ([15, 16, 13, 13], [13, 15, 16]), ([17, 13], [13, 17]), ([13, 18], [13, 18])])
def gcra_Check.B5 : List Nat := [0, 1, 3, 7, 15, 7, 39, 7, 135, 487, 1023, 2047, 4095, 8191, 16383, 32767, 16383, 131071, 262143, 524287]
theorem gcra_Check.tab5 : rtab .any (opsOf Try.f15 5) = gcra_Check.T5 := by kernel_rfl
theorem gcra_Check.bits5 : waitsOk gcra_Check.T5.2 gcra_Check.B5 = true := by kernel_rfl
set_option maxHeartbeats 8000000 in
set_option maxRecDepth 100000 in
theorem gcra_Check.calls (k : Nat) (a0_0 : Int) (a0_1 : Int) (a0_2 : Int) (a0_3 : Int) (a0_4 : Int) (a0_5 : Int) (r : Int) (w : World) (h : gcra_Check.f k a0_0 a0_1 a0_2 a0_3 a0_4 a0_5 = some r) :
  Calls Try.prog 15 #[.agg #[.int .i64 a0_0, .int .i64 a0_1, .int .i64 a0_2, .int .u64 a0_3, .int .u64 a0_4, .int .u64 a0_5]] w fun e w' => e = .returned (.int .i64 r) ∧ Below w.heap.size w w' := by
 have hu28 := Try.underlying28
 have hu23 := Try.underlying23
 have hu26 := Try.underlying26
 have HB := Aside0.mk (Below.refl w.heap.size w)
 have H : ((bucket_CheckLimit.f a0_0 a0_1 a0_2).bind fun t235 => (if t235 = 0 then ((gcra_end.f a0_0 a0_1 a0_2 a0_5).bind fun bt236 => (if bt236.2.2 = 0 then ((gcra_at.f a0_0 a0_1 a0_2 a0_5).bind fun bt240 => ((wide_Cmp.f k a0_3 a0_4 bt240.1 bt240.2).bind fun t242 => (if t242 < 0 then (some 8) else ((wide_Cmp.f k a0_3 a0_4 bt236.1 bt236.2.1).bind fun t243 => (if t243 > 0 then (some 8) else (some 0)))))) else (some 8))) else (some t235))) = some r := h
 clear h
 have H0_ := bo_ H; clear H; obtain ⟨t235, A2, H⟩ := H0_
 try dsimp only at H
 by_cases c3 : t235 = 0
 ·rw [if_pos c3] at H
  have c3b0 : (t235 == 0) = true := beq_iff_eq.mpr c3
  have c3b1 : (t235 != 0) = false := bne_eq_false_iff_eq.mpr c3
  clear c3
  have H0_ := bo_ H; clear H; obtain ⟨⟨t236, t237, t238⟩, A4, H⟩ := H0_
  try dsimp only at H
  by_cases c5 : t238 = 0
  ·rw [if_pos c5] at H
   have c5b0 : (t238 == 0) = true := beq_iff_eq.mpr c5
   have c5b1 : (t238 != 0) = false := bne_eq_false_iff_eq.mpr c5
   clear c5
   have H0_ := bo_ H; clear H; obtain ⟨⟨t240, t241⟩, A6, H⟩ := H0_
   try dsimp only at H
   have H0_ := bo_ H; clear H; obtain ⟨t242, A7, H⟩ := H0_
   replace H : (if t242 < 0 then (some 8) else ((wide_Cmp.f k a0_3 a0_4 t236 t237).bind fun t243 => (if t243 > 0 then (some 8) else (some 0)))) = some r := H
   by_cases c8 : t242 < 0
   ·rw [if_pos c8] at H
    have c8b0 : decide (t242 < 0) = true := decide_eq_true c8
    clear c8
    obtain rfl := Option.some.inj H
    go_enter Try.func15, Try.ntmps15
    try go_wp2_with (first | ((with_reducible refine gate_dst (N := 1) rfl ?_); (try refine ug_ (by rfl) ?_); refine bx_ #[.int .i64 a0_0, .int .i64 a0_1, .int .i64 a0_2, .int .u64 a0_3, .int .u64 a0_4, .int .u64 a0_5] 28 ?_; intro gb234 hg w9 BK234 hb; have GW234 := bz_ w hg; have GE234 := GW234; replace HB := bs_ w hb; clear hb hg; replace hc234 := ce6_ BK234) | ((with_reducible refine gate_callee (f := 30) rfl ?_); (try refine ug_ (by rfl) ?_); refine goesA_ (some 8) Try.func30 #[.agg #[.int .i64 a0_0, .int .i64 a0_1, .int .i64 a0_2]] ?_; (with_reducible refine (bucket_CheckLimit.calls a0_0 a0_1 a0_2 t235 _ A2.out).mono ?_); rintro e w11 ⟨rfl, hb⟩; refine ⟨_, rfl, ?_⟩; replace BK234 := bb_ BK234 hb; replace HB := bs_ w hb; clear hb; replace hc234 := ce6_ BK234) | ((with_reducible refine gate_callee (f := 35) rfl ?_); (try refine ug_ (by rfl) ?_); refine goesA_ (some 17) Try.func35 #[.agg #[.int .i64 a0_0, .int .i64 a0_1, .int .i64 a0_2], .int .u64 a0_5] ?_; (with_reducible refine (gcra_end.calls a0_0 a0_1 a0_2 a0_5 t236 t237 t238 _ A4.out).mono ?_); rintro e w13 ⟨rfl, hb⟩; refine ⟨_, rfl, ?_⟩; replace BK234 := bb_ BK234 hb; replace HB := bs_ w hb; clear hb) | ((with_reducible refine gate_dst (N := 4) rfl ?_); (try refine ug_ (by rfl) ?_); refine bx_ #[.int .u64 0, .int .u64 0] 26 ?_; intro gb239 hg w14 BK239 hb; have GW239 := bz_ w hg; have GE239 := GW239; have NB234_239 := bn_ BK234 hg; have NB239_234 := bm_ BK234 hg; replace BK234 := bb_ BK234 hb; replace HB := bs_ w hb; clear hb hg; replace hn239_234 := NB239_234.out; replace hn234_239 := NB234_239.out; replace hc239 := ce2_ BK239))
    have n0_ : Aside0 (((w14.setCell ⟨gb239, 0, none⟩ (.int .u64 t236)).setCell ⟨gb239, 1, none⟩ (.int .u64 t237)).heap[gb234]? = some (.cells #[.int .i64 a0_0, .int .i64 a0_1, .int .i64 a0_2, .int .u64 a0_3, .int .u64 a0_4, .int .u64 a0_5] 28 (0, 0))) := ⟨(bt_ BK234)⟩
    have n1_ : Aside0 (((w14.setCell ⟨gb239, 0, none⟩ (.int .u64 t236)).setCell ⟨gb239, 1, none⟩ (.int .u64 t237)).heap[gb239]? = some (.cells #[.int .u64 t236, .int .u64 t237] 26 (0, 0))) := ⟨(bp2_ (bq_ BK239))⟩
    have n2_ : Aside0 (Below w.heap.size w ((w14.setCell ⟨gb239, 0, none⟩ (.int .u64 t236)).setCell ⟨gb239, 1, none⟩ (.int .u64 t237))) := bw_
    (try clear BK234)
    (try clear BK239)
    (try clear HB)
    generalize ((w14.setCell ⟨gb239, 0, none⟩ (.int .u64 t236)).setCell ⟨gb239, 1, none⟩ (.int .u64 t237)) = w17 at n0_ n1_ n2_ ⊢
    have BK234 := n0_
    have BK239 := n1_
    have HB := n2_
    clear n0_ n1_ n2_
    replace BK234 := Aside0.mk (blk_drew BK234.out)
    replace BK239 := Aside0.mk (blk_drew BK239.out)
    replace HB := Aside0.mk (below_drew1 HB.out)
    refine start_ (n := 20) (S := fun w' => w'.cell? ⟨gb234, 0, none⟩ = some (.int .i64 a0_0) ∧ w'.cell? ⟨gb234, 1, none⟩ = some (.int .i64 a0_1) ∧ w'.cell? ⟨gb234, 2, none⟩ = some (.int .i64 a0_2) ∧ w'.cell? ⟨gb234, 3, none⟩ = some (.int .u64 a0_3) ∧ w'.cell? ⟨gb234, 4, none⟩ = some (.int .u64 a0_4) ∧ w'.cell? ⟨gb234, 5, none⟩ = some (.int .u64 a0_5)) (ds := []) (bl_ 20 0) (by kernel_rfl) rfl (by kernel_rfl) (cc6_ BK234) (fun hHeld => ?_); refine with_tabW gcra_Check.tab5 gcra_Check.bits5 (fun HT_ HW_ => ?_)
    generalize w17.drew = w18 at BK234 BK239 HB hHeld ⊢
    refine pa_ 0 (some 20) (bl_ 20 1) HT_ ?_
    refine pa_ 1 (some 21) (bl_ 20 3) HT_ ?_
    refine pa_ 2 (some 22) (bl_ 20 7) HT_ ?_
    refine pa_ 3 (some 23) (bl_ 20 15) HT_ ?_
    refine pa_ 5 (some 25) (bl_ 20 47) HT_ ?_
    refine pa_ 7 (some 27) (bl_ 20 175) HT_ ?_
    refine ta_ 4 (some 24) (bl_ 20 191) HT_ HW_ hHeld ?_
    refine ta_ 6 (some 26) (bl_ 20 255) HT_ HW_ hHeld ?_
    refine ta_ 8 (some 28) (bl_ 20 511) HT_ HW_ hHeld ?_
    refine oa_ 9 (some 29) (bl_ 20 1023) HT_ fun K hK => ?_
    refine goesB_ Try.func31 #[.agg #[.int .i64 a0_0, .int .i64 a0_1, .int .i64 a0_2], .int .u64 a0_5] ?_
    with_reducible refine (gcra_at.calls a0_0 a0_1 a0_2 a0_5 t240 t241 _ A6.out).mono ?_
    rintro e w19 ⟨rfl, hb⟩
    refine ⟨_, rfl, ?_⟩
    replace BK234 := bb_ BK234 hb
    replace BK239 := bb_ BK239 hb
    replace HB := bs_ w hb
    clear hb
    refine hK.out _ _ (cc6_ BK234) (fun hHeld => ?_)
    clear hK K
    refine nm_ (some 29) ?_
    refine oa_ 10 (some 30) (bl_ 20 2047) HT_ fun K hK => ?_
    refine goesB_ Try.func45 #[.agg #[.int .u64 a0_3, .int .u64 a0_4], .agg #[.int .u64 t240, .int .u64 t241]] ?_
    with_reducible refine (wide_Cmp.calls k a0_3 a0_4 t240 t241 t242 _ A7.out).mono ?_
    rintro e w20 ⟨rfl, hb⟩
    refine ⟨_, rfl, ?_⟩
    replace BK234 := bb_ BK234 hb
    replace BK239 := bb_ BK239 hb
    replace HB := bs_ w hb
    clear hb
    refine hK.out _ _ (cc6_ BK234) (fun hHeld => ?_)
    clear hK K
    refine nm_ (some 30) ?_
    refine pa_ 11 (some 31) (bl_ 20 4095) HT_ ?_
    refine pa_ 12 (some 32) (bl_ 20 8191) HT_ ?_
    refine pa_ 13 (some 33) (bl_ 20 16383) HT_ ?_
    refine pz_ 14 (some 34) (bl_ 20 32767) HT_ ?_
    refine pz_ 15 (some 35) (bl_ 20 65535) HT_ ?_
    refine pz_ 16 (some 36) (bl_ 20 131071) HT_ ?_
    refine pz_ 17 (some 37) (bl_ 20 262143) HT_ ?_
    refine pz_ 18 (some 38) (bl_ 20 524287) HT_ ?_
    refine pa_ 19 (some 39) (bl_ 20 1048575) HT_ ?_
    refine done_ (done_of HT_.out (by kernel_rfl)) ?_
    try go_wp2
    go_ret
    exact fi_
   ·rw [if_neg c8] at H
    have c8b0 : decide (t242 < 0) = false := decide_eq_false c8
    clear c8
    have H0_ := bo_ H; clear H; obtain ⟨t243, A21, H⟩ := H0_
    replace H : (if t243 > 0 then (some 8) else (some 0)) = some r := H
    by_cases c22 : t243 > 0
    ·rw [if_pos c22] at H
     have c22b0 : decide (0 < t243) = true := decide_eq_true c22
     clear c22
     obtain rfl := Option.some.inj H
     go_enter Try.func15, Try.ntmps15
     try go_wp2_with (first | ((with_reducible refine gate_dst (N := 1) rfl ?_); (try refine ug_ (by rfl) ?_); refine bx_ #[.int .i64 a0_0, .int .i64 a0_1, .int .i64 a0_2, .int .u64 a0_3, .int .u64 a0_4, .int .u64 a0_5] 28 ?_; intro gb234 hg w23 BK234 hb; have GW234 := bz_ w hg; have GE234 := GW234; replace HB := bs_ w hb; clear hb hg; replace hc234 := ce6_ BK234) | ((with_reducible refine gate_callee (f := 30) rfl ?_); (try refine ug_ (by rfl) ?_); refine goesA_ (some 8) Try.func30 #[.agg #[.int .i64 a0_0, .int .i64 a0_1, .int .i64 a0_2]] ?_; (with_reducible refine (bucket_CheckLimit.calls a0_0 a0_1 a0_2 t235 _ A2.out).mono ?_); rintro e w25 ⟨rfl, hb⟩; refine ⟨_, rfl, ?_⟩; replace BK234 := bb_ BK234 hb; replace HB := bs_ w hb; clear hb; replace hc234 := ce6_ BK234) | ((with_reducible refine gate_callee (f := 35) rfl ?_); (try refine ug_ (by rfl) ?_); refine goesA_ (some 17) Try.func35 #[.agg #[.int .i64 a0_0, .int .i64 a0_1, .int .i64 a0_2], .int .u64 a0_5] ?_; (with_reducible refine (gcra_end.calls a0_0 a0_1 a0_2 a0_5 t236 t237 t238 _ A4.out).mono ?_); rintro e w27 ⟨rfl, hb⟩; refine ⟨_, rfl, ?_⟩; replace BK234 := bb_ BK234 hb; replace HB := bs_ w hb; clear hb) | ((with_reducible refine gate_dst (N := 4) rfl ?_); (try refine ug_ (by rfl) ?_); refine bx_ #[.int .u64 0, .int .u64 0] 26 ?_; intro gb239 hg w28 BK239 hb; have GW239 := bz_ w hg; have GE239 := GW239; have NB234_239 := bn_ BK234 hg; have NB239_234 := bm_ BK234 hg; replace BK234 := bb_ BK234 hb; replace HB := bs_ w hb; clear hb hg; replace hn239_234 := NB239_234.out; replace hn234_239 := NB234_239.out; replace hc239 := ce2_ BK239))
     have n0_ : Aside0 (((w28.setCell ⟨gb239, 0, none⟩ (.int .u64 t236)).setCell ⟨gb239, 1, none⟩ (.int .u64 t237)).heap[gb234]? = some (.cells #[.int .i64 a0_0, .int .i64 a0_1, .int .i64 a0_2, .int .u64 a0_3, .int .u64 a0_4, .int .u64 a0_5] 28 (0, 0))) := ⟨(bt_ BK234)⟩
     have n1_ : Aside0 (((w28.setCell ⟨gb239, 0, none⟩ (.int .u64 t236)).setCell ⟨gb239, 1, none⟩ (.int .u64 t237)).heap[gb239]? = some (.cells #[.int .u64 t236, .int .u64 t237] 26 (0, 0))) := ⟨(bp2_ (bq_ BK239))⟩
     have n2_ : Aside0 (Below w.heap.size w ((w28.setCell ⟨gb239, 0, none⟩ (.int .u64 t236)).setCell ⟨gb239, 1, none⟩ (.int .u64 t237))) := bw_
     (try clear BK234)
     (try clear BK239)
     (try clear HB)
     generalize ((w28.setCell ⟨gb239, 0, none⟩ (.int .u64 t236)).setCell ⟨gb239, 1, none⟩ (.int .u64 t237)) = w31 at n0_ n1_ n2_ ⊢
     have BK234 := n0_
     have BK239 := n1_
     have HB := n2_
     clear n0_ n1_ n2_
     replace BK234 := Aside0.mk (blk_drew BK234.out)
     replace BK239 := Aside0.mk (blk_drew BK239.out)
     replace HB := Aside0.mk (below_drew1 HB.out)
     refine start_ (n := 20) (S := fun w' => w'.cell? ⟨gb234, 0, none⟩ = some (.int .i64 a0_0) ∧ w'.cell? ⟨gb234, 1, none⟩ = some (.int .i64 a0_1) ∧ w'.cell? ⟨gb234, 2, none⟩ = some (.int .i64 a0_2) ∧ w'.cell? ⟨gb234, 3, none⟩ = some (.int .u64 a0_3) ∧ w'.cell? ⟨gb234, 4, none⟩ = some (.int .u64 a0_4) ∧ w'.cell? ⟨gb234, 5, none⟩ = some (.int .u64 a0_5) ∧ w'.cell? ⟨gb239, 0, none⟩ = some (.int .u64 t236) ∧ w'.cell? ⟨gb239, 1, none⟩ = some (.int .u64 t237)) (ds := []) (bl_ 20 0) (by kernel_rfl) rfl (by kernel_rfl) ⟨(blk_cell BK234.out 0).trans rfl, (blk_cell BK234.out 1).trans rfl, (blk_cell BK234.out 2).trans rfl, (blk_cell BK234.out 3).trans rfl, (blk_cell BK234.out 4).trans rfl, (blk_cell BK234.out 5).trans rfl, (blk_cell BK239.out 0).trans rfl, (blk_cell BK239.out 1).trans rfl⟩ (fun hHeld => ?_); refine with_tabW gcra_Check.tab5 gcra_Check.bits5 (fun HT_ HW_ => ?_)
     generalize w31.drew = w32 at BK234 BK239 HB hHeld ⊢
     refine pa_ 0 (some 20) (bl_ 20 1) HT_ ?_
     refine pa_ 1 (some 21) (bl_ 20 3) HT_ ?_
     refine pa_ 2 (some 22) (bl_ 20 7) HT_ ?_
     refine pa_ 3 (some 23) (bl_ 20 15) HT_ ?_
     refine pa_ 5 (some 25) (bl_ 20 47) HT_ ?_
     refine pa_ 7 (some 27) (bl_ 20 175) HT_ ?_
     refine ta_ 4 (some 24) (bl_ 20 191) HT_ HW_ hHeld ?_
     refine ta_ 6 (some 26) (bl_ 20 255) HT_ HW_ hHeld ?_
     refine ta_ 8 (some 28) (bl_ 20 511) HT_ HW_ hHeld ?_
     refine oa_ 9 (some 29) (bl_ 20 1023) HT_ fun K hK => ?_
     refine goesB_ Try.func31 #[.agg #[.int .i64 a0_0, .int .i64 a0_1, .int .i64 a0_2], .int .u64 a0_5] ?_
     with_reducible refine (gcra_at.calls a0_0 a0_1 a0_2 a0_5 t240 t241 _ A6.out).mono ?_
     rintro e w33 ⟨rfl, hb⟩
     refine ⟨_, rfl, ?_⟩
     replace BK234 := bb_ BK234 hb
     replace BK239 := bb_ BK239 hb
     replace HB := bs_ w hb
     clear hb
     refine hK.out _ _ ⟨(blk_cell BK234.out 0).trans rfl, (blk_cell BK234.out 1).trans rfl, (blk_cell BK234.out 2).trans rfl, (blk_cell BK234.out 3).trans rfl, (blk_cell BK234.out 4).trans rfl, (blk_cell BK234.out 5).trans rfl, (blk_cell BK239.out 0).trans rfl, (blk_cell BK239.out 1).trans rfl⟩ (fun hHeld => ?_)
     clear hK K
     refine nm_ (some 29) ?_
     refine oa_ 10 (some 30) (bl_ 20 2047) HT_ fun K hK => ?_
     refine goesB_ Try.func45 #[.agg #[.int .u64 a0_3, .int .u64 a0_4], .agg #[.int .u64 t240, .int .u64 t241]] ?_
     with_reducible refine (wide_Cmp.calls k a0_3 a0_4 t240 t241 t242 _ A7.out).mono ?_
     rintro e w34 ⟨rfl, hb⟩
     refine ⟨_, rfl, ?_⟩
     replace BK234 := bb_ BK234 hb
     replace BK239 := bb_ BK239 hb
     replace HB := bs_ w hb
     clear hb
     refine hK.out _ _ ⟨(blk_cell BK234.out 0).trans rfl, (blk_cell BK234.out 1).trans rfl, (blk_cell BK234.out 2).trans rfl, (blk_cell BK234.out 3).trans rfl, (blk_cell BK234.out 4).trans rfl, (blk_cell BK234.out 5).trans rfl, (blk_cell BK239.out 0).trans rfl, (blk_cell BK239.out 1).trans rfl⟩ (fun hHeld => ?_)
     clear hK K
     refine nm_ (some 30) ?_
     refine pa_ 11 (some 31) (bl_ 20 4095) HT_ ?_
     refine pa_ 12 (some 32) (bl_ 20 8191) HT_ ?_
     refine pa_ 13 (some 33) (bl_ 20 16383) HT_ ?_
     refine pa_ 14 (some 34) (bl_ 20 32767) HT_ ?_
     refine ta_ 15 (some 35) (bl_ 20 65535) HT_ HW_ hHeld ?_
     refine ta_ 16 (some 36) (bl_ 20 131071) HT_ HW_ hHeld ?_
     refine oa_ 17 (some 37) (bl_ 20 262143) HT_ fun K hK => ?_
     refine goesB_ Try.func45 #[.agg #[.int .u64 a0_3, .int .u64 a0_4], .agg #[.int .u64 t236, .int .u64 t237]] ?_
     with_reducible refine (wide_Cmp.calls k a0_3 a0_4 t236 t237 t243 _ A21.out).mono ?_
     rintro e w35 ⟨rfl, hb⟩
     refine ⟨_, rfl, ?_⟩
     replace BK234 := bb_ BK234 hb
     replace BK239 := bb_ BK239 hb
     replace HB := bs_ w hb
     clear hb
     refine hK.out _ _ ⟨(blk_cell BK234.out 0).trans rfl, (blk_cell BK234.out 1).trans rfl, (blk_cell BK234.out 2).trans rfl, (blk_cell BK234.out 3).trans rfl, (blk_cell BK234.out 4).trans rfl, (blk_cell BK234.out 5).trans rfl, (blk_cell BK239.out 0).trans rfl, (blk_cell BK239.out 1).trans rfl⟩ (fun hHeld => ?_)
     clear hK K
     refine nm_ (some 37) ?_
     refine pa_ 18 (some 38) (bl_ 20 524287) HT_ ?_
     refine pa_ 19 (some 39) (bl_ 20 1048575) HT_ ?_
     refine done_ (done_of HT_.out (by kernel_rfl)) ?_
     try go_wp2
     go_ret
     exact fi_
    ·rw [if_neg c22] at H
     have c22b0 : decide (0 < t243) = false := decide_eq_false c22
     clear c22
     obtain rfl := Option.some.inj H
     go_enter Try.func15, Try.ntmps15
     try go_wp2_with (first | ((with_reducible refine gate_dst (N := 1) rfl ?_); (try refine ug_ (by rfl) ?_); refine bx_ #[.int .i64 a0_0, .int .i64 a0_1, .int .i64 a0_2, .int .u64 a0_3, .int .u64 a0_4, .int .u64 a0_5] 28 ?_; intro gb234 hg w36 BK234 hb; have GW234 := bz_ w hg; have GE234 := GW234; replace HB := bs_ w hb; clear hb hg; replace hc234 := ce6_ BK234) | ((with_reducible refine gate_callee (f := 30) rfl ?_); (try refine ug_ (by rfl) ?_); refine goesA_ (some 8) Try.func30 #[.agg #[.int .i64 a0_0, .int .i64 a0_1, .int .i64 a0_2]] ?_; (with_reducible refine (bucket_CheckLimit.calls a0_0 a0_1 a0_2 t235 _ A2.out).mono ?_); rintro e w38 ⟨rfl, hb⟩; refine ⟨_, rfl, ?_⟩; replace BK234 := bb_ BK234 hb; replace HB := bs_ w hb; clear hb; replace hc234 := ce6_ BK234) | ((with_reducible refine gate_callee (f := 35) rfl ?_); (try refine ug_ (by rfl) ?_); refine goesA_ (some 17) Try.func35 #[.agg #[.int .i64 a0_0, .int .i64 a0_1, .int .i64 a0_2], .int .u64 a0_5] ?_; (with_reducible refine (gcra_end.calls a0_0 a0_1 a0_2 a0_5 t236 t237 t238 _ A4.out).mono ?_); rintro e w40 ⟨rfl, hb⟩; refine ⟨_, rfl, ?_⟩; replace BK234 := bb_ BK234 hb; replace HB := bs_ w hb; clear hb) | ((with_reducible refine gate_dst (N := 4) rfl ?_); (try refine ug_ (by rfl) ?_); refine bx_ #[.int .u64 0, .int .u64 0] 26 ?_; intro gb239 hg w41 BK239 hb; have GW239 := bz_ w hg; have GE239 := GW239; have NB234_239 := bn_ BK234 hg; have NB239_234 := bm_ BK234 hg; replace BK234 := bb_ BK234 hb; replace HB := bs_ w hb; clear hb hg; replace hn239_234 := NB239_234.out; replace hn234_239 := NB234_239.out; replace hc239 := ce2_ BK239))
     have n0_ : Aside0 (((w41.setCell ⟨gb239, 0, none⟩ (.int .u64 t236)).setCell ⟨gb239, 1, none⟩ (.int .u64 t237)).heap[gb234]? = some (.cells #[.int .i64 a0_0, .int .i64 a0_1, .int .i64 a0_2, .int .u64 a0_3, .int .u64 a0_4, .int .u64 a0_5] 28 (0, 0))) := ⟨(bt_ BK234)⟩
     have n1_ : Aside0 (((w41.setCell ⟨gb239, 0, none⟩ (.int .u64 t236)).setCell ⟨gb239, 1, none⟩ (.int .u64 t237)).heap[gb239]? = some (.cells #[.int .u64 t236, .int .u64 t237] 26 (0, 0))) := ⟨(bp2_ (bq_ BK239))⟩
     have n2_ : Aside0 (Below w.heap.size w ((w41.setCell ⟨gb239, 0, none⟩ (.int .u64 t236)).setCell ⟨gb239, 1, none⟩ (.int .u64 t237))) := bw_
     (try clear BK234)
     (try clear BK239)
     (try clear HB)
     generalize ((w41.setCell ⟨gb239, 0, none⟩ (.int .u64 t236)).setCell ⟨gb239, 1, none⟩ (.int .u64 t237)) = w44 at n0_ n1_ n2_ ⊢
     have BK234 := n0_
     have BK239 := n1_
     have HB := n2_
     clear n0_ n1_ n2_
     replace BK234 := Aside0.mk (blk_drew BK234.out)
     replace BK239 := Aside0.mk (blk_drew BK239.out)
     replace HB := Aside0.mk (below_drew1 HB.out)
     refine start_ (n := 20) (S := fun w' => w'.cell? ⟨gb234, 0, none⟩ = some (.int .i64 a0_0) ∧ w'.cell? ⟨gb234, 1, none⟩ = some (.int .i64 a0_1) ∧ w'.cell? ⟨gb234, 2, none⟩ = some (.int .i64 a0_2) ∧ w'.cell? ⟨gb234, 3, none⟩ = some (.int .u64 a0_3) ∧ w'.cell? ⟨gb234, 4, none⟩ = some (.int .u64 a0_4) ∧ w'.cell? ⟨gb234, 5, none⟩ = some (.int .u64 a0_5) ∧ w'.cell? ⟨gb239, 0, none⟩ = some (.int .u64 t236) ∧ w'.cell? ⟨gb239, 1, none⟩ = some (.int .u64 t237)) (ds := []) (bl_ 20 0) (by kernel_rfl) rfl (by kernel_rfl) ⟨(blk_cell BK234.out 0).trans rfl, (blk_cell BK234.out 1).trans rfl, (blk_cell BK234.out 2).trans rfl, (blk_cell BK234.out 3).trans rfl, (blk_cell BK234.out 4).trans rfl, (blk_cell BK234.out 5).trans rfl, (blk_cell BK239.out 0).trans rfl, (blk_cell BK239.out 1).trans rfl⟩ (fun hHeld => ?_); refine with_tabW gcra_Check.tab5 gcra_Check.bits5 (fun HT_ HW_ => ?_)
     generalize w44.drew = w45 at BK234 BK239 HB hHeld ⊢
     refine pa_ 0 (some 20) (bl_ 20 1) HT_ ?_
     refine pa_ 1 (some 21) (bl_ 20 3) HT_ ?_
     refine pa_ 2 (some 22) (bl_ 20 7) HT_ ?_
     refine pa_ 3 (some 23) (bl_ 20 15) HT_ ?_
     refine pa_ 5 (some 25) (bl_ 20 47) HT_ ?_
     refine pa_ 7 (some 27) (bl_ 20 175) HT_ ?_
     refine ta_ 4 (some 24) (bl_ 20 191) HT_ HW_ hHeld ?_
     refine ta_ 6 (some 26) (bl_ 20 255) HT_ HW_ hHeld ?_
     refine ta_ 8 (some 28) (bl_ 20 511) HT_ HW_ hHeld ?_
     refine oa_ 9 (some 29) (bl_ 20 1023) HT_ fun K hK => ?_
     refine goesB_ Try.func31 #[.agg #[.int .i64 a0_0, .int .i64 a0_1, .int .i64 a0_2], .int .u64 a0_5] ?_
     with_reducible refine (gcra_at.calls a0_0 a0_1 a0_2 a0_5 t240 t241 _ A6.out).mono ?_
     rintro e w46 ⟨rfl, hb⟩
     refine ⟨_, rfl, ?_⟩
     replace BK234 := bb_ BK234 hb
     replace BK239 := bb_ BK239 hb
     replace HB := bs_ w hb
     clear hb
     refine hK.out _ _ ⟨(blk_cell BK234.out 0).trans rfl, (blk_cell BK234.out 1).trans rfl, (blk_cell BK234.out 2).trans rfl, (blk_cell BK234.out 3).trans rfl, (blk_cell BK234.out 4).trans rfl, (blk_cell BK234.out 5).trans rfl, (blk_cell BK239.out 0).trans rfl, (blk_cell BK239.out 1).trans rfl⟩ (fun hHeld => ?_)
     clear hK K
     refine nm_ (some 29) ?_
     refine oa_ 10 (some 30) (bl_ 20 2047) HT_ fun K hK => ?_
     refine goesB_ Try.func45 #[.agg #[.int .u64 a0_3, .int .u64 a0_4], .agg #[.int .u64 t240, .int .u64 t241]] ?_
     with_reducible refine (wide_Cmp.calls k a0_3 a0_4 t240 t241 t242 _ A7.out).mono ?_
     rintro e w47 ⟨rfl, hb⟩
     refine ⟨_, rfl, ?_⟩
     replace BK234 := bb_ BK234 hb
     replace BK239 := bb_ BK239 hb
     replace HB := bs_ w hb
     clear hb
     refine hK.out _ _ ⟨(blk_cell BK234.out 0).trans rfl, (blk_cell BK234.out 1).trans rfl, (blk_cell BK234.out 2).trans rfl, (blk_cell BK234.out 3).trans rfl, (blk_cell BK234.out 4).trans rfl, (blk_cell BK234.out 5).trans rfl, (blk_cell BK239.out 0).trans rfl, (blk_cell BK239.out 1).trans rfl⟩ (fun hHeld => ?_)
     clear hK K
     refine nm_ (some 30) ?_
     refine pa_ 11 (some 31) (bl_ 20 4095) HT_ ?_
     refine pa_ 12 (some 32) (bl_ 20 8191) HT_ ?_
     refine pa_ 13 (some 33) (bl_ 20 16383) HT_ ?_
     refine pa_ 14 (some 34) (bl_ 20 32767) HT_ ?_
     refine ta_ 15 (some 35) (bl_ 20 65535) HT_ HW_ hHeld ?_
     refine ta_ 16 (some 36) (bl_ 20 131071) HT_ HW_ hHeld ?_
     refine oa_ 17 (some 37) (bl_ 20 262143) HT_ fun K hK => ?_
     refine goesB_ Try.func45 #[.agg #[.int .u64 a0_3, .int .u64 a0_4], .agg #[.int .u64 t236, .int .u64 t237]] ?_
     with_reducible refine (wide_Cmp.calls k a0_3 a0_4 t236 t237 t243 _ A21.out).mono ?_
     rintro e w48 ⟨rfl, hb⟩
     refine ⟨_, rfl, ?_⟩
     replace BK234 := bb_ BK234 hb
     replace BK239 := bb_ BK239 hb
     replace HB := bs_ w hb
     clear hb
     refine hK.out _ _ ⟨(blk_cell BK234.out 0).trans rfl, (blk_cell BK234.out 1).trans rfl, (blk_cell BK234.out 2).trans rfl, (blk_cell BK234.out 3).trans rfl, (blk_cell BK234.out 4).trans rfl, (blk_cell BK234.out 5).trans rfl, (blk_cell BK239.out 0).trans rfl, (blk_cell BK239.out 1).trans rfl⟩ (fun hHeld => ?_)
     clear hK K
     refine nm_ (some 37) ?_
     refine pa_ 18 (some 38) (bl_ 20 524287) HT_ ?_
     refine pa_ 19 (some 39) (bl_ 20 1048575) HT_ ?_
     refine done_ (done_of HT_.out (by kernel_rfl)) ?_
     try go_wp2
     go_ret
     exact fi_
  ·rw [if_neg c5] at H
   have c5b0 : (t238 == 0) = false := beq_eq_false_iff_ne.mpr c5
   have c5b1 : (t238 != 0) = true := bne_iff_ne.mpr c5
   obtain rfl := Option.some.inj H
   go_enter Try.func15, Try.ntmps15
   try go_wp2_with (first | ((with_reducible refine gate_dst (N := 1) rfl ?_); (try refine ug_ (by rfl) ?_); refine bx_ #[.int .i64 a0_0, .int .i64 a0_1, .int .i64 a0_2, .int .u64 a0_3, .int .u64 a0_4, .int .u64 a0_5] 28 ?_; intro gb234 hg w49 BK234 hb; have GW234 := bz_ w hg; have GE234 := GW234; replace HB := bs_ w hb; clear hb hg; replace hc234 := ce6_ BK234) | ((with_reducible refine gate_callee (f := 30) rfl ?_); (try refine ug_ (by rfl) ?_); refine goesA_ (some 8) Try.func30 #[.agg #[.int .i64 a0_0, .int .i64 a0_1, .int .i64 a0_2]] ?_; (with_reducible refine (bucket_CheckLimit.calls a0_0 a0_1 a0_2 t235 _ A2.out).mono ?_); rintro e w51 ⟨rfl, hb⟩; refine ⟨_, rfl, ?_⟩; replace BK234 := bb_ BK234 hb; replace HB := bs_ w hb; clear hb; replace hc234 := ce6_ BK234) | ((with_reducible refine gate_callee (f := 35) rfl ?_); (try refine ug_ (by rfl) ?_); refine goesA_ (some 17) Try.func35 #[.agg #[.int .i64 a0_0, .int .i64 a0_1, .int .i64 a0_2], .int .u64 a0_5] ?_; (with_reducible refine (gcra_end.calls a0_0 a0_1 a0_2 a0_5 t236 t237 t238 _ A4.out).mono ?_); rintro e w53 ⟨rfl, hb⟩; refine ⟨_, rfl, ?_⟩; replace BK234 := bb_ BK234 hb; replace HB := bs_ w hb; clear hb) | ((with_reducible refine gate_dst (N := 4) rfl ?_); (try refine ug_ (by rfl) ?_); refine bx_ #[.int .u64 0, .int .u64 0] 26 ?_; intro gb239 hg w54 BK239 hb; have GW239 := bz_ w hg; have GE239 := GW239; have NB234_239 := bn_ BK234 hg; have NB239_234 := bm_ BK234 hg; replace BK234 := bb_ BK234 hb; replace HB := bs_ w hb; clear hb hg; replace hn239_234 := NB239_234.out; replace hn234_239 := NB234_239.out; replace hc239 := ce2_ BK239))
   have n0_ : Aside0 (((w54.setCell ⟨gb239, 0, none⟩ (.int .u64 t236)).setCell ⟨gb239, 1, none⟩ (.int .u64 t237)).heap[gb234]? = some (.cells #[.int .i64 a0_0, .int .i64 a0_1, .int .i64 a0_2, .int .u64 a0_3, .int .u64 a0_4, .int .u64 a0_5] 28 (0, 0))) := ⟨(bt_ BK234)⟩
   have n1_ : Aside0 (((w54.setCell ⟨gb239, 0, none⟩ (.int .u64 t236)).setCell ⟨gb239, 1, none⟩ (.int .u64 t237)).heap[gb239]? = some (.cells #[.int .u64 t236, .int .u64 t237] 26 (0, 0))) := ⟨(bp2_ (bq_ BK239))⟩
   have n2_ : Aside0 (Below w.heap.size w ((w54.setCell ⟨gb239, 0, none⟩ (.int .u64 t236)).setCell ⟨gb239, 1, none⟩ (.int .u64 t237))) := bw_
   (try clear BK234)
   (try clear BK239)
   (try clear HB)
   generalize ((w54.setCell ⟨gb239, 0, none⟩ (.int .u64 t236)).setCell ⟨gb239, 1, none⟩ (.int .u64 t237)) = w57 at n0_ n1_ n2_ ⊢
   have BK234 := n0_
   have BK239 := n1_
   have HB := n2_
   clear n0_ n1_ n2_
   replace BK234 := Aside0.mk (blk_drew BK234.out)
   replace BK239 := Aside0.mk (blk_drew BK239.out)
   replace HB := Aside0.mk (below_drew1 HB.out)
   refine start_ (n := 20) (S := fun w' => True) (ds := []) (bl_ 20 0) (by kernel_rfl) rfl (by kernel_rfl) trivial (fun hHeld => ?_); refine with_tabW gcra_Check.tab5 gcra_Check.bits5 (fun HT_ HW_ => ?_)
   generalize w57.drew = w58 at BK234 BK239 HB hHeld ⊢
   refine pa_ 0 (some 20) (bl_ 20 1) HT_ ?_
   refine pa_ 1 (some 21) (bl_ 20 3) HT_ ?_
   refine pa_ 2 (some 22) (bl_ 20 7) HT_ ?_
   refine pz_ 3 (some 23) (bl_ 20 15) HT_ ?_
   refine pz_ 4 (some 24) (bl_ 20 31) HT_ ?_
   refine pz_ 5 (some 25) (bl_ 20 63) HT_ ?_
   refine pz_ 6 (some 26) (bl_ 20 127) HT_ ?_
   refine pz_ 7 (some 27) (bl_ 20 255) HT_ ?_
   refine pz_ 8 (some 28) (bl_ 20 511) HT_ ?_
   refine pz_ 9 (some 29) (bl_ 20 1023) HT_ ?_
   refine pz_ 10 (some 30) (bl_ 20 2047) HT_ ?_
   refine pz_ 11 (some 31) (bl_ 20 4095) HT_ ?_
   refine pa_ 12 (some 32) (bl_ 20 8191) HT_ ?_
   refine pa_ 13 (some 33) (bl_ 20 16383) HT_ ?_
   refine pz_ 14 (some 34) (bl_ 20 32767) HT_ ?_
   refine pz_ 15 (some 35) (bl_ 20 65535) HT_ ?_
   refine pz_ 16 (some 36) (bl_ 20 131071) HT_ ?_
   refine pz_ 17 (some 37) (bl_ 20 262143) HT_ ?_
   refine pz_ 18 (some 38) (bl_ 20 524287) HT_ ?_
   refine pa_ 19 (some 39) (bl_ 20 1048575) HT_ ?_
   refine done_ (done_of HT_.out (by kernel_rfl)) ?_
   try go_wp2
   go_ret
   exact fi_
 ·rw [if_neg c3] at H
  have c3b0 : (t235 == 0) = false := beq_eq_false_iff_ne.mpr c3
  have c3b1 : (t235 != 0) = true := bne_iff_ne.mpr c3
  obtain rfl := Option.some.inj H
  go_enter Try.func15, Try.ntmps15
  go_wp2_with (first | ((with_reducible refine gate_dst (N := 1) rfl ?_); (try refine ug_ (by rfl) ?_); refine bx_ #[.int .i64 a0_0, .int .i64 a0_1, .int .i64 a0_2, .int .u64 a0_3, .int .u64 a0_4, .int .u64 a0_5] 28 ?_; intro gb234 hg w59 BK234 hb; have GW234 := bz_ w hg; have GE234 := GW234; replace HB := bs_ w hb; clear hb hg; replace hc234 := ce6_ BK234) | ((with_reducible refine gate_callee (f := 30) rfl ?_); (try refine ug_ (by rfl) ?_); refine goesA_ (some 8) Try.func30 #[.agg #[.int .i64 a0_0, .int .i64 a0_1, .int .i64 a0_2]] ?_; (with_reducible refine (bucket_CheckLimit.calls a0_0 a0_1 a0_2 t235 _ A2.out).mono ?_); rintro e w61 ⟨rfl, hb⟩; refine ⟨_, rfl, ?_⟩; replace BK234 := bb_ BK234 hb; replace HB := bs_ w hb; clear hb))
  go_ret
  exact fi_

end Go.Proofs.Ytnijohomnajngaa.X
