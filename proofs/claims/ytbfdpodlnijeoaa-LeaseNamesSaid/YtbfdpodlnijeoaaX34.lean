-- written by xprint.py, a program of this session over the kit's print
import Derived.Test.YtbfdpodlnijeoaaX0
import Derived.Test.YtbfdpodlnijeoaaX6
import Derived.Test.YtbfdpodlnijeoaaX9
import Derived.Test.YtbfdpodlnijeoaaX13
import Derived.Test.YtbfdpodlnijeoaaX33
namespace Go.Proofs.Ytbfdpodlnijeoaa.X
open Go.RowKit Go.Proofs.YtbfdpodlnijeoaaW.PrintWords Go.Proofs.YtbfdpodlnijeoaaW.PrintLast Go.Proofs.YtbfdpodlnijeoaaW.PrintMore
attribute [local go_sem] max2_int min2_int max_two min_two max_three min_three max_four min_four   -- for this text's walks alone
set_option linter.unusedVariables false
set_option linter.unusedSimpArgs false

/-! ### lease_Bound: function 25 -/
def lease_Bound.f (k : Nat) (a0_0 : Int) (a0_1 : Int) (a0_2 : Int) (a0_3 : Int) (a0_4 : Int) (a0_5 : Int) (a0_6 : Int) (l0_7 : List Int) (a1 : Int) : Option (Int × Int) := (lease_Out.f k a0_0 a0_1 a0_2 a0_3 a0_4 a0_5 a0_6 l0_7).bind fun bt614 => (if bt614.2 = 0 then ((wide_Mul.f a1 (IntKind.u64.wrap (a0_1))).bind fun bt616 => ((wide_Of.f (IntKind.u64.wrap (a0_4))).bind fun bt618 => ((wide_Add.f bt616.1 bt616.2 bt618.1 bt618.2).bind fun bt620 => (if bt620.2.2 = 0 then ((wide_Div.f k bt620.1 bt620.2.1 (IntKind.u64.wrap (a0_2))).bind fun bt624 => (if bt624.2.2.2 = 0 then ((wide_Of.f 1000000000000000).bind fun bt629 => ((wide_Cmp.f k bt624.1 bt624.2.1 bt629.1 bt629.2).bind fun t632 => (if t632 ≥ 0 then (some (1000000000000000, 0)) else (some (mn 1000000000000000 (wrap64 ((wrap64 (bt614.1 + a0_3)) + (wrap64 (bt624.2.1)))), 0))))) else (some (0, bt624.2.2.2)))) else (some (0, bt620.2.2)))))) else (some (0, bt614.2)))
theorem lease_Bound.mono : ∀ a0 a1 a2 a3 a4 a5 a6 a7 a8 k, LeO (lease_Bound.f k a0 a1 a2 a3 a4 a5 a6 a7 a8) (lease_Bound.f (k + 1) a0 a1 a2 a3 a4 a5 a6 a7 a8) := by
  intro a0 a1 a2 a3 a4 a5 a6 a7 a8 k
  unfold lease_Bound.f
  repeat' first
      | (with_reducible exact lease_Out.mono _ _ _ _ _ _ _ _ _)
      | (with_reducible exact wide_Cmp.mono _ _ _ _ _)
      | (with_reducible exact wide_Div.mono _ _ _ _)
      | (with_reducible exact LeO.refl _)
      | (with_reducible exact LeO.none _)
      | (with_reducible refine LeO.ite ?_ ?_)
      | (with_reducible refine LeO.bind ?_ (fun _ => ?_))
      | exact lease_Out.mono _ _ _ _ _ _ _ _ _
      | exact wide_Cmp.mono _ _ _ _ _
      | exact wide_Div.mono _ _ _ _
      | exact LeO.none _
      | refine LeO.ite ?_ ?_
      | refine LeO.bind ?_ (fun _ => ?_)
def lease_Bound.T4 : Bool × List (List Nat × List Nat) := (true, [([], []), ([], []), ([1], [1]), ([2], [2]), ([3], [3]), ([4], [4]), ([0, 5], [0, 5]), ([], []), ([7], [7]), ([8], [8]), ([9], [9]), ([10, 6], [10]), ([6, 11, 11], [6, 11]), ([12], [12]), ([13], [13]), ([13], [13]), ([], []), ([16, 14, 12, 0, 1, 2, 3, 4, 5, 6, 7, 8, 9, 10, 11, 12, 13, 14, 16], [14, 16]), ([15, 17, 0, 1, 2, 3, 4, 5, 6, 7, 8, 9, 10, 11, 12, 13, 14, 15, 16, 17], [15])])
def lease_Bound.B4 : List Nat := [0, 0, 2, 6, 14, 30, 63, 0, 128, 384, 896, 2047, 4095, 8191, 16383, 16383, 0, 98303, 262143]
theorem lease_Bound.tab4 : rtab .any (opsOf Try.f25 4) = lease_Bound.T4 := by kernel_rfl
theorem lease_Bound.bits4 : waitsOk lease_Bound.T4.2 lease_Bound.B4 = true := by kernel_rfl
set_option maxHeartbeats 8000000 in
set_option maxRecDepth 100000 in
theorem lease_Bound.calls (k : Nat) (a0_0 : Int) (a0_1 : Int) (a0_2 : Int) (a0_3 : Int) (a0_4 : Int) (a0_5 : Int) (a0_6 : Int) (A0_7 : Option Addr) (c0_7 : Nat) (l0_7 : List Int) (a1 : Int) (r1 : Int) (r2 : Int) (w : World) (hr0_7 : Kd.C (Kd.int .i64) w A0_7 l0_7.length l0_7) (hc0_7 : l0_7.length ≤ c0_7) (h : lease_Bound.f k a0_0 a0_1 a0_2 a0_3 a0_4 a0_5 a0_6 l0_7 a1 = some (r1, r2)) :
  Calls Try.prog 25 #[.agg #[.int .i64 a0_0, .int .i64 a0_1, .int .i64 a0_2, .int .i64 a0_3, .int .i64 a0_4, .int .u64 a0_5, .int .i64 a0_6, .slice A0_7 l0_7.length c0_7], .int .u64 a1] w fun e w' => e = .returned (.tuple #[.int .i64 r1, .int .i64 r2]) ∧ Below w.heap.size w w' := by
 have hu29 := Try.underlying29
 have hu82 := Try.underlying82
 have HR0_7 := Aside0.mk hr0_7
 have HC0_7 := Aside0.mk hc0_7
 clear hr0_7 hc0_7
 have HB := Aside0.mk (Below.refl w.heap.size w)
 have H : ((lease_Out.f k a0_0 a0_1 a0_2 a0_3 a0_4 a0_5 a0_6 l0_7).bind fun bt614 => (if bt614.2 = 0 then ((wide_Mul.f a1 (IntKind.u64.wrap (a0_1))).bind fun bt616 => ((wide_Of.f (IntKind.u64.wrap (a0_4))).bind fun bt618 => ((wide_Add.f bt616.1 bt616.2 bt618.1 bt618.2).bind fun bt620 => (if bt620.2.2 = 0 then ((wide_Div.f k bt620.1 bt620.2.1 (IntKind.u64.wrap (a0_2))).bind fun bt624 => (if bt624.2.2.2 = 0 then ((wide_Of.f 1000000000000000).bind fun bt629 => ((wide_Cmp.f k bt624.1 bt624.2.1 bt629.1 bt629.2).bind fun t632 => (if t632 ≥ 0 then (some (1000000000000000, 0)) else (some (mn 1000000000000000 (wrap64 ((wrap64 (bt614.1 + a0_3)) + (wrap64 (bt624.2.1)))), 0))))) else (some (0, bt624.2.2.2)))) else (some (0, bt620.2.2)))))) else (some (0, bt614.2)))) = some (r1, r2) := h
 clear h
 have H0_ := bo_ H; clear H; obtain ⟨⟨t614, t615⟩, A3, H⟩ := H0_
 try dsimp only at H
 by_cases c4 : t615 = 0
 ·rw [if_pos c4] at H
  have c4b0 : (t615 == 0) = true := beq_iff_eq.mpr c4
  have c4b1 : (t615 != 0) = false := bne_eq_false_iff_eq.mpr c4
  clear c4
  have H0_ := bo_ H; clear H; obtain ⟨⟨t616, t617⟩, A5, H⟩ := H0_
  try dsimp only at H
  have H0_ := bo_ H; clear H; obtain ⟨⟨t618, t619⟩, A6, H⟩ := H0_
  try dsimp only at H
  have H0_ := bo_ H; clear H; obtain ⟨⟨t620, t621, t622⟩, A7, H⟩ := H0_
  try dsimp only at H
  by_cases c8 : t622 = 0
  ·rw [if_pos c8] at H
   have c8b0 : (t622 == 0) = true := beq_iff_eq.mpr c8
   have c8b1 : (t622 != 0) = false := bne_eq_false_iff_eq.mpr c8
   clear c8
   have H0_ := bo_ H; clear H; obtain ⟨⟨t624, t625, t626, t627⟩, A9, H⟩ := H0_
   try dsimp only at H
   by_cases c10 : t627 = 0
   ·rw [if_pos c10] at H
    have c10b0 : (t627 == 0) = true := beq_iff_eq.mpr c10
    have c10b1 : (t627 != 0) = false := bne_eq_false_iff_eq.mpr c10
    clear c10
    have H0_ := bo_ H; clear H; obtain ⟨⟨t629, t630⟩, A11, H⟩ := H0_
    try dsimp only at H
    have H0_ := bo_ H; clear H; obtain ⟨t632, A12, H⟩ := H0_
    replace H : (if t632 ≥ 0 then (some (1000000000000000, 0)) else (some (mn 1000000000000000 (wrap64 ((wrap64 (t614 + a0_3)) + (wrap64 (t625)))), 0))) = some (r1, r2) := H
    by_cases c13 : t632 ≥ 0
    ·rw [if_pos c13] at H
     have c13b0 : decide (0 ≤ t632) = true := decide_eq_true c13
     clear c13
     simp only [Option.some.injEq, Prod.mk.injEq] at H
     obtain ⟨rfl, rfl⟩ := H
     go_enter Try.func25, Try.ntmps25
     try go_wp2_with (first | ((with_reducible refine gate_dst (N := 2) rfl ?_); refine bx_ #[.int .i64 a0_0, .int .i64 a0_1, .int .i64 a0_2, .int .i64 a0_3, .int .i64 a0_4, .int .u64 a0_5, .int .i64 a0_6, .slice A0_7 l0_7.length c0_7] 29 ?_; intro gb613 hg w14 BK613 hb; have GW613 := bz_ w hg; have GE613 := GW613; replace HB := bs_ w hb; clear hb hg; replace hc613 := ce8_ BK613) | ((with_reducible refine gate_callee (f := 15) rfl ?_); refine goesA_ (some 14) Try.func15 #[.agg #[.int .i64 a0_0, .int .i64 a0_1, .int .i64 a0_2, .int .i64 a0_3, .int .i64 a0_4, .int .u64 a0_5, .int .i64 a0_6, .slice A0_7 l0_7.length c0_7]] ?_; (with_reducible refine (lease_Out.calls k a0_0 a0_1 a0_2 a0_3 a0_4 a0_5 a0_6 _ _ l0_7 t614 t615 _ ?side1 ?side2 A3.out).mono ?_); (case side1 => exact cs_ HR0_7 HB); (case side2 => exact HC0_7.out); rintro e w16 ⟨rfl, hb⟩; refine ⟨_, rfl, ?_⟩; replace BK613 := bb_ BK613 hb; replace HB := bs_ w hb; clear hb))
     replace BK613 := Aside0.mk (blk_drew BK613.out)
     replace HB := Aside0.mk (below_drew1 HB.out)
     refine start_ (n := 19) (S := fun w' => w'.cell? ⟨gb613, 0, none⟩ = some (.int .i64 a0_0) ∧ w'.cell? ⟨gb613, 1, none⟩ = some (.int .i64 a0_1) ∧ w'.cell? ⟨gb613, 2, none⟩ = some (.int .i64 a0_2) ∧ w'.cell? ⟨gb613, 3, none⟩ = some (.int .i64 a0_3) ∧ w'.cell? ⟨gb613, 4, none⟩ = some (.int .i64 a0_4) ∧ w'.cell? ⟨gb613, 5, none⟩ = some (.int .u64 a0_5) ∧ w'.cell? ⟨gb613, 6, none⟩ = some (.int .i64 a0_6) ∧ w'.cell? ⟨gb613, 7, none⟩ = some (.slice A0_7 l0_7.length c0_7)) (ds := []) (bl_ 19 0) (by kernel_rfl) rfl (by kernel_rfl) ⟨(blk_cell BK613.out 0).trans rfl, (blk_cell BK613.out 1).trans rfl, (blk_cell BK613.out 2).trans rfl, (blk_cell BK613.out 3).trans rfl, (blk_cell BK613.out 4).trans rfl, (blk_cell BK613.out 5).trans rfl, (blk_cell BK613.out 6).trans rfl, (blk_cell BK613.out 7).trans rfl⟩ (fun hHeld => ?_); refine with_tabW lease_Bound.tab4 lease_Bound.bits4 (fun HT_ HW_ => ?_)
     generalize w16.drew = w17 at BK613 HB hHeld ⊢
     refine pa_ 0 (some 21) (bl_ 19 1) HT_ ?_
     refine pa_ 1 (some 22) (bl_ 19 3) HT_ ?_
     refine pa_ 2 (some 23) (bl_ 19 7) HT_ ?_
     refine pa_ 3 (some 24) (bl_ 19 15) HT_ ?_
     refine pa_ 7 (some 28) (bl_ 19 143) HT_ ?_
     refine pa_ 8 (some 29) (bl_ 19 399) HT_ ?_
     refine ta_ 4 (some 25) (bl_ 19 415) HT_ HW_ hHeld ?_
     refine pa_ 5 (some 26) (bl_ 19 447) HT_ ?_
     refine ta_ 9 (some 30) (bl_ 19 959) HT_ HW_ hHeld ?_
     refine pa_ 10 (some 31) (bl_ 19 1983) HT_ ?_
     refine join_ (σ := Nat) 2 (bl_ 19 131071) (fun s_ => [(27, .agg #[.int .u64 t616, .int .u64 t617]), (32, .agg #[.int .u64 t618, .int .u64 t619]), (33, .tuple #[.agg #[.int .u64 t620, .int .u64 t621], .int .i64 t622]), (8, .pointer (some ⟨s_, 0, none⟩)), (20, .tuple #[.agg #[.int .u64 t620, .int .u64 t621], .int .i64 t622]), (34, .agg #[.int .u64 t620, .int .u64 t621]), (35, .int .i64 t622)]) (fun s_ w' => (w'.cell? ⟨gb613, 0, none⟩ = some (.int .i64 a0_0) ∧ w'.cell? ⟨gb613, 1, none⟩ = some (.int .i64 a0_1) ∧ w'.cell? ⟨gb613, 2, none⟩ = some (.int .i64 a0_2) ∧ w'.cell? ⟨gb613, 3, none⟩ = some (.int .i64 a0_3) ∧ w'.cell? ⟨gb613, 4, none⟩ = some (.int .i64 a0_4) ∧ w'.cell? ⟨gb613, 5, none⟩ = some (.int .u64 a0_5) ∧ w'.cell? ⟨gb613, 6, none⟩ = some (.int .i64 a0_6) ∧ w'.cell? ⟨gb613, 7, none⟩ = some (.slice A0_7 l0_7.length c0_7)) ∧ (w'.heap[gb613]? = some (.cells #[.int .i64 a0_0, .int .i64 a0_1, .int .i64 a0_2, .int .i64 a0_3, .int .i64 a0_4, .int .u64 a0_5, .int .i64 a0_6, .slice A0_7 l0_7.length c0_7] 29 (0, 0))) ∧ (w'.heap[s_]? = some (.cells #[.int .u64 0, .int .u64 0] 82 (0, 0))) ∧ (w.heap.size ≤ s_) ∧ (w.heap.size ≤ s_) ∧ (gb613 ≠ s_) ∧ (s_ ≠ gb613) ∧ (Below w.heap.size w w')) ?_ ?_
     rotate_left
     ·intro hCont
      refine tw_ 6 16 (some 27) (some 8) (bl_ 19 2047) (bl_ 19 67519) HT_ (fun K hK => ?_) fun K hK => ?_
      ·refine goesB_ Try.func35 #[.int .u64 a1, .int .u64 (IntKind.u64.wrap (a0_1))] ?_
       with_reducible refine (wide_Mul.calls a1 (IntKind.u64.wrap (a0_1)) t616 t617 _ A5.out).mono ?_
       rintro e w18 ⟨rfl, hb⟩
       refine ⟨_, rfl, ?_⟩
       replace BK613 := bb_ BK613 hb
       replace HB := bs_ w hb
       clear hb
       refine hK.out _ _ ⟨(blk_cell BK613.out 0).trans rfl, (blk_cell BK613.out 1).trans rfl, (blk_cell BK613.out 2).trans rfl, (blk_cell BK613.out 3).trans rfl, (blk_cell BK613.out 4).trans rfl, (blk_cell BK613.out 5).trans rfl, (blk_cell BK613.out 6).trans rfl, (blk_cell BK613.out 7).trans rfl⟩ (fun hHeld => ?_)
       clear hK K
       refine nm_ (some 27) ?_
       refine tw_ 11 16 (some 32) (some 8) (bl_ 19 4095) (bl_ 19 67583) HT_ (fun K hK => ?_) fun K hK => ?_
       ·refine goesB_ Try.func36 #[.int .u64 (IntKind.u64.wrap (a0_4))] ?_
        with_reducible refine (wide_Of.calls (IntKind.u64.wrap (a0_4)) t618 t619 _ A6.out).mono ?_
        rintro e w19 ⟨rfl, hb⟩
        refine ⟨_, rfl, ?_⟩
        replace BK613 := bb_ BK613 hb
        replace HB := bs_ w hb
        clear hb
        refine hK.out _ _ ⟨(blk_cell BK613.out 0).trans rfl, (blk_cell BK613.out 1).trans rfl, (blk_cell BK613.out 2).trans rfl, (blk_cell BK613.out 3).trans rfl, (blk_cell BK613.out 4).trans rfl, (blk_cell BK613.out 5).trans rfl, (blk_cell BK613.out 6).trans rfl, (blk_cell BK613.out 7).trans rfl⟩ (fun hHeld => ?_)
        clear hK K
        refine nm_ (some 32) ?_
        refine tw_ 12 16 (some 33) (some 8) (bl_ 19 8191) (bl_ 19 69631) HT_ (fun K hK => ?_) fun K hK => ?_
        ·refine goesB_ Try.func34 #[.agg #[.int .u64 t616, .int .u64 t617], .agg #[.int .u64 t618, .int .u64 t619]] ?_
         with_reducible refine (wide_Add.calls t616 t617 t618 t619 t620 t621 t622 _ A7.out).mono ?_
         rintro e w20 ⟨rfl, hb⟩
         refine ⟨_, rfl, ?_⟩
         replace BK613 := bb_ BK613 hb
         replace HB := bs_ w hb
         clear hb
         refine hK.out _ _ ⟨(blk_cell BK613.out 0).trans rfl, (blk_cell BK613.out 1).trans rfl, (blk_cell BK613.out 2).trans rfl, (blk_cell BK613.out 3).trans rfl, (blk_cell BK613.out 4).trans rfl, (blk_cell BK613.out 5).trans rfl, (blk_cell BK613.out 6).trans rfl, (blk_cell BK613.out 7).trans rfl⟩ (fun hHeld => ?_)
         clear hK K
         refine nm_ (some 33) ?_
         refine pa_ 13 (some 20) (bl_ 19 16383) HT_ ?_
         refine pa_ 14 (some 34) (bl_ 19 32767) HT_ ?_
         refine pa_ 15 (some 35) (bl_ 19 65535) HT_ ?_
         refine oa_ 16 (some 8) (bl_ 19 131071) HT_ fun K hK => ?_
         refine bs2_ #[.int .u64 0, .int .u64 0] 82 ?_
         intro gb623 hg w21 BK623 hb
         have GW623 := bz_ w hg
         have GE623 := GW623
         have NB613_623 := bn_ BK613 hg
         have NB623_613 := bm_ BK613 hg
         replace BK613 := bb_ BK613 hb
         replace HB := bs_ w hb
         clear hb hg
         refine hK.out _ _ ⟨(blk_cell BK613.out 0).trans rfl, (blk_cell BK613.out 1).trans rfl, (blk_cell BK613.out 2).trans rfl, (blk_cell BK613.out 3).trans rfl, (blk_cell BK613.out 4).trans rfl, (blk_cell BK613.out 5).trans rfl, (blk_cell BK613.out 6).trans rfl, (blk_cell BK613.out 7).trans rfl⟩ (fun hHeld => ?_)
         clear hK K
         refine nm_ (some 8) ?_
         exact no_ (hCont (gb623) _ ⟨hHeld, (bq_ BK613), (bq_ BK623), GW623.out, GE623.out, NB613_623.out, NB623_613.out, bh_⟩)
        ·refine bs2_ #[.int .u64 0, .int .u64 0] 82 ?_
         intro gb623 hg w20 BK623 hb
         have GW623 := bz_ w hg
         have GE623 := GW623
         have NB613_623 := bn_ BK613 hg
         have NB623_613 := bm_ BK613 hg
         replace BK613 := bb_ BK613 hb
         replace HB := bs_ w hb
         clear hb hg
         refine hK.out _ _ ⟨(blk_cell BK613.out 0).trans rfl, (blk_cell BK613.out 1).trans rfl, (blk_cell BK613.out 2).trans rfl, (blk_cell BK613.out 3).trans rfl, (blk_cell BK613.out 4).trans rfl, (blk_cell BK613.out 5).trans rfl, (blk_cell BK613.out 6).trans rfl, (blk_cell BK613.out 7).trans rfl⟩ (fun hHeld => ?_)
         clear hK K
         refine nm_ (some 8) ?_
         refine oa_ 12 (some 33) (bl_ 19 73727) HT_ fun K hK => ?_
         refine goesB_ Try.func34 #[.agg #[.int .u64 t616, .int .u64 t617], .agg #[.int .u64 t618, .int .u64 t619]] ?_
         with_reducible refine (wide_Add.calls t616 t617 t618 t619 t620 t621 t622 _ A7.out).mono ?_
         rintro e w21 ⟨rfl, hb⟩
         refine ⟨_, rfl, ?_⟩
         replace BK613 := bb_ BK613 hb
         replace BK623 := bb_ BK623 hb
         replace HB := bs_ w hb
         clear hb
         refine hK.out _ _ ⟨(blk_cell BK613.out 0).trans rfl, (blk_cell BK613.out 1).trans rfl, (blk_cell BK613.out 2).trans rfl, (blk_cell BK613.out 3).trans rfl, (blk_cell BK613.out 4).trans rfl, (blk_cell BK613.out 5).trans rfl, (blk_cell BK613.out 6).trans rfl, (blk_cell BK613.out 7).trans rfl⟩ (fun hHeld => ?_)
         clear hK K
         refine nm_ (some 33) ?_
         refine pa_ 13 (some 20) (bl_ 19 81919) HT_ ?_
         refine pa_ 14 (some 34) (bl_ 19 98303) HT_ ?_
         refine pa_ 15 (some 35) (bl_ 19 131071) HT_ ?_
         exact no_ (hCont (gb623) _ ⟨hHeld, (bq_ BK613), (bq_ BK623), GW623.out, GE623.out, NB613_623.out, NB623_613.out, bh_⟩)
       ·refine bs2_ #[.int .u64 0, .int .u64 0] 82 ?_
        intro gb623 hg w19 BK623 hb
        have GW623 := bz_ w hg
        have GE623 := GW623
        have NB613_623 := bn_ BK613 hg
        have NB623_613 := bm_ BK613 hg
        replace BK613 := bb_ BK613 hb
        replace HB := bs_ w hb
        clear hb hg
        refine hK.out _ _ ⟨(blk_cell BK613.out 0).trans rfl, (blk_cell BK613.out 1).trans rfl, (blk_cell BK613.out 2).trans rfl, (blk_cell BK613.out 3).trans rfl, (blk_cell BK613.out 4).trans rfl, (blk_cell BK613.out 5).trans rfl, (blk_cell BK613.out 6).trans rfl, (blk_cell BK613.out 7).trans rfl⟩ (fun hHeld => ?_)
        clear hK K
        refine nm_ (some 8) ?_
        refine oa_ 11 (some 32) (bl_ 19 69631) HT_ fun K hK => ?_
        refine goesB_ Try.func36 #[.int .u64 (IntKind.u64.wrap (a0_4))] ?_
        with_reducible refine (wide_Of.calls (IntKind.u64.wrap (a0_4)) t618 t619 _ A6.out).mono ?_
        rintro e w20 ⟨rfl, hb⟩
        refine ⟨_, rfl, ?_⟩
        replace BK613 := bb_ BK613 hb
        replace BK623 := bb_ BK623 hb
        replace HB := bs_ w hb
        clear hb
        refine hK.out _ _ ⟨(blk_cell BK613.out 0).trans rfl, (blk_cell BK613.out 1).trans rfl, (blk_cell BK613.out 2).trans rfl, (blk_cell BK613.out 3).trans rfl, (blk_cell BK613.out 4).trans rfl, (blk_cell BK613.out 5).trans rfl, (blk_cell BK613.out 6).trans rfl, (blk_cell BK613.out 7).trans rfl⟩ (fun hHeld => ?_)
        clear hK K
        refine nm_ (some 32) ?_
        refine oa_ 12 (some 33) (bl_ 19 73727) HT_ fun K hK => ?_
        refine goesB_ Try.func34 #[.agg #[.int .u64 t616, .int .u64 t617], .agg #[.int .u64 t618, .int .u64 t619]] ?_
        with_reducible refine (wide_Add.calls t616 t617 t618 t619 t620 t621 t622 _ A7.out).mono ?_
        rintro e w21 ⟨rfl, hb⟩
        refine ⟨_, rfl, ?_⟩
        replace BK613 := bb_ BK613 hb
        replace BK623 := bb_ BK623 hb
        replace HB := bs_ w hb
        clear hb
        refine hK.out _ _ ⟨(blk_cell BK613.out 0).trans rfl, (blk_cell BK613.out 1).trans rfl, (blk_cell BK613.out 2).trans rfl, (blk_cell BK613.out 3).trans rfl, (blk_cell BK613.out 4).trans rfl, (blk_cell BK613.out 5).trans rfl, (blk_cell BK613.out 6).trans rfl, (blk_cell BK613.out 7).trans rfl⟩ (fun hHeld => ?_)
        clear hK K
        refine nm_ (some 33) ?_
        refine pa_ 13 (some 20) (bl_ 19 81919) HT_ ?_
        refine pa_ 14 (some 34) (bl_ 19 98303) HT_ ?_
        refine pa_ 15 (some 35) (bl_ 19 131071) HT_ ?_
        exact no_ (hCont (gb623) _ ⟨hHeld, (bq_ BK613), (bq_ BK623), GW623.out, GE623.out, NB613_623.out, NB623_613.out, bh_⟩)
      ·refine bs2_ #[.int .u64 0, .int .u64 0] 82 ?_
       intro gb623 hg w18 BK623 hb
       have GW623 := bz_ w hg
       have GE623 := GW623
       have NB613_623 := bn_ BK613 hg
       have NB623_613 := bm_ BK613 hg
       replace BK613 := bb_ BK613 hb
       replace HB := bs_ w hb
       clear hb hg
       refine hK.out _ _ ⟨(blk_cell BK613.out 0).trans rfl, (blk_cell BK613.out 1).trans rfl, (blk_cell BK613.out 2).trans rfl, (blk_cell BK613.out 3).trans rfl, (blk_cell BK613.out 4).trans rfl, (blk_cell BK613.out 5).trans rfl, (blk_cell BK613.out 6).trans rfl, (blk_cell BK613.out 7).trans rfl⟩ (fun hHeld => ?_)
       clear hK K
       refine nm_ (some 8) ?_
       refine oa_ 6 (some 27) (bl_ 19 67583) HT_ fun K hK => ?_
       refine goesB_ Try.func35 #[.int .u64 a1, .int .u64 (IntKind.u64.wrap (a0_1))] ?_
       with_reducible refine (wide_Mul.calls a1 (IntKind.u64.wrap (a0_1)) t616 t617 _ A5.out).mono ?_
       rintro e w19 ⟨rfl, hb⟩
       refine ⟨_, rfl, ?_⟩
       replace BK613 := bb_ BK613 hb
       replace BK623 := bb_ BK623 hb
       replace HB := bs_ w hb
       clear hb
       refine hK.out _ _ ⟨(blk_cell BK613.out 0).trans rfl, (blk_cell BK613.out 1).trans rfl, (blk_cell BK613.out 2).trans rfl, (blk_cell BK613.out 3).trans rfl, (blk_cell BK613.out 4).trans rfl, (blk_cell BK613.out 5).trans rfl, (blk_cell BK613.out 6).trans rfl, (blk_cell BK613.out 7).trans rfl⟩ (fun hHeld => ?_)
       clear hK K
       refine nm_ (some 27) ?_
       refine oa_ 11 (some 32) (bl_ 19 69631) HT_ fun K hK => ?_
       refine goesB_ Try.func36 #[.int .u64 (IntKind.u64.wrap (a0_4))] ?_
       with_reducible refine (wide_Of.calls (IntKind.u64.wrap (a0_4)) t618 t619 _ A6.out).mono ?_
       rintro e w20 ⟨rfl, hb⟩
       refine ⟨_, rfl, ?_⟩
       replace BK613 := bb_ BK613 hb
       replace BK623 := bb_ BK623 hb
       replace HB := bs_ w hb
       clear hb
       refine hK.out _ _ ⟨(blk_cell BK613.out 0).trans rfl, (blk_cell BK613.out 1).trans rfl, (blk_cell BK613.out 2).trans rfl, (blk_cell BK613.out 3).trans rfl, (blk_cell BK613.out 4).trans rfl, (blk_cell BK613.out 5).trans rfl, (blk_cell BK613.out 6).trans rfl, (blk_cell BK613.out 7).trans rfl⟩ (fun hHeld => ?_)
       clear hK K
       refine nm_ (some 32) ?_
       refine oa_ 12 (some 33) (bl_ 19 73727) HT_ fun K hK => ?_
       refine goesB_ Try.func34 #[.agg #[.int .u64 t616, .int .u64 t617], .agg #[.int .u64 t618, .int .u64 t619]] ?_
       with_reducible refine (wide_Add.calls t616 t617 t618 t619 t620 t621 t622 _ A7.out).mono ?_
       rintro e w21 ⟨rfl, hb⟩
       refine ⟨_, rfl, ?_⟩
       replace BK613 := bb_ BK613 hb
       replace BK623 := bb_ BK623 hb
       replace HB := bs_ w hb
       clear hb
       refine hK.out _ _ ⟨(blk_cell BK613.out 0).trans rfl, (blk_cell BK613.out 1).trans rfl, (blk_cell BK613.out 2).trans rfl, (blk_cell BK613.out 3).trans rfl, (blk_cell BK613.out 4).trans rfl, (blk_cell BK613.out 5).trans rfl, (blk_cell BK613.out 6).trans rfl, (blk_cell BK613.out 7).trans rfl⟩ (fun hHeld => ?_)
       clear hK K
       refine nm_ (some 33) ?_
       refine pa_ 13 (some 20) (bl_ 19 81919) HT_ ?_
       refine pa_ 14 (some 34) (bl_ 19 98303) HT_ ?_
       refine pa_ 15 (some 35) (bl_ 19 131071) HT_ ?_
       exact no_ (hCont (gb623) _ ⟨hHeld, (bq_ BK613), (bq_ BK623), GW623.out, GE623.out, NB613_623.out, NB623_613.out, bh_⟩)
     rintro gb623 w22 ⟨hS_, h0_, h1_, h2_, h3_, h4_, h5_, h6_⟩
     have BK623 := Aside0.mk h1_
     have GW623 := Aside0.mk h2_
     have GE623 := Aside0.mk h3_
     have NB613_623 := Aside0.mk h4_
     have NB623_613 := Aside0.mk h5_
     replace BK613 := Aside0.mk h0_
     replace HB := Aside0.mk h6_
     clear h0_ h1_ h2_ h3_ h4_ h5_ h6_
     have hHeld := hS_
     refine nq_ ?_
     refine oa_ 17 none (bl_ 19 262143) HT_ fun K hK => ?_
     have hs23 : w22.cell? ⟨gb623, 0, none⟩ = some (.int .u64 0) := (blk_cell BK623.out 0).trans rfl
     have hfs23 := blk_frozen BK623.out 0
     have hns23_0 := NB613_623.out
     have hms23_0 := NB623_613.out
     have hs24 : w22.cell? ⟨gb623, 1, none⟩ = some (.int .u64 0) := (blk_cell BK623.out 1).trans rfl
     have hfs24 := blk_frozen BK623.out 1
     have hns24_0 := NB613_623.out
     have hms24_0 := NB623_613.out
     refine sk_ ?_
     refine hK.out _ _ ⟨((cell_far (p := ⟨gb623, _, none⟩) NB613_623.out _).trans (((cell_far (p := ⟨gb623, _, none⟩) NB613_623.out _).trans (hHeld.1)))), ((cell_far (p := ⟨gb623, _, none⟩) NB613_623.out _).trans (((cell_far (p := ⟨gb623, _, none⟩) NB613_623.out _).trans (hHeld.2.1)))), ((cell_far (p := ⟨gb623, _, none⟩) NB613_623.out _).trans (((cell_far (p := ⟨gb623, _, none⟩) NB613_623.out _).trans (hHeld.2.2.1)))), ((cell_far (p := ⟨gb623, _, none⟩) NB613_623.out _).trans (((cell_far (p := ⟨gb623, _, none⟩) NB613_623.out _).trans (hHeld.2.2.2.1)))), ((cell_far (p := ⟨gb623, _, none⟩) NB613_623.out _).trans (((cell_far (p := ⟨gb623, _, none⟩) NB613_623.out _).trans (hHeld.2.2.2.2.1)))), ((cell_far (p := ⟨gb623, _, none⟩) NB613_623.out _).trans (((cell_far (p := ⟨gb623, _, none⟩) NB613_623.out _).trans (hHeld.2.2.2.2.2.1)))), ((cell_far (p := ⟨gb623, _, none⟩) NB613_623.out _).trans (((cell_far (p := ⟨gb623, _, none⟩) NB613_623.out _).trans (hHeld.2.2.2.2.2.2.1)))), ((cell_far (p := ⟨gb623, _, none⟩) NB613_623.out _).trans (((cell_far (p := ⟨gb623, _, none⟩) NB613_623.out _).trans (hHeld.2.2.2.2.2.2.2))))⟩ (fun hHeld => ?_)
     clear hK K
     refine pa_ 18 (some 7) (bl_ 19 524287) HT_ ?_
     refine done_ (done_of HT_.out (by kernel_rfl)) ?_
     replace hn623_613 := NB623_613.out
     replace hn613_623 := NB613_623.out
     replace hc623 := ce2_ BK623
     replace hc613 := ce8_ BK613
     try go_wp2_with (first | ((with_reducible refine gate_callee (f := 37) rfl ?_); refine goesA_ (some 46) Try.func37 #[.agg #[.int .u64 t620, .int .u64 t621], .int .u64 (IntKind.u64.wrap (a0_2))] ?_; (with_reducible refine (wide_Div.calls k t620 t621 (IntKind.u64.wrap (a0_2)) t624 t625 t626 t627 _ A9.out).mono ?_); rintro e w28 ⟨rfl, hb⟩; refine ⟨_, rfl, ?_⟩; replace BK613 := bf_ BK613 hb; replace BK623 := Aside0.mk (blk_below (g := gb623) (o := .cells #[.int .u64 t620, .int .u64 t621] 82 (0, 0)) (bp2_ (bq_ BK623)) hb); replace HB := bs_ w hb; clear hb) | ((with_reducible refine gate_dst (N := 9) rfl ?_); refine bx_ #[.int .u64 0, .int .u64 0] 82 ?_; intro gb628 hg w29 BK628 hb; have GW628 := bz_ w hg; have GE628 := GW628; have NB613_628 := bn_ BK613 hg; have NB628_613 := bm_ BK613 hg; have NB623_628 := bn_ BK623 hg; have NB628_623 := bm_ BK623 hg; replace BK613 := bb_ BK613 hb; replace BK623 := bb_ BK623 hb; replace HB := bs_ w hb; clear hb hg; replace hn628_613 := NB628_613.out; replace hn613_628 := NB613_628.out; replace hn628_623 := NB628_623.out; replace hn623_628 := NB623_628.out; replace hc628 := ce2_ BK628) | ((with_reducible refine gate_callee (f := 36) rfl ?_); refine goesA_ (some 53) Try.func36 #[.int .u64 1000000000000000] ?_; (with_reducible refine (wide_Of.calls 1000000000000000 t629 t630 _ A11.out).mono ?_); rintro e w33 ⟨rfl, hb⟩; refine ⟨_, rfl, ?_⟩; replace BK613 := bf_ BK613 hb; replace BK623 := bf_ BK623 hb; replace BK628 := Aside0.mk (blk_below (g := gb628) (o := .cells #[.int .u64 t624, .int .u64 t625] 82 (0, 0)) (bp2_ (bq_ BK628)) hb); replace HB := bs_ w hb; clear hb) | ((with_reducible refine gate_dst (N := 11) rfl ?_); refine bx_ #[.int .u64 0, .int .u64 0] 82 ?_; intro gb631 hg w34 BK631 hb; have GW631 := bz_ w hg; have GE631 := GW631; have NB613_631 := bn_ BK613 hg; have NB631_613 := bm_ BK613 hg; have NB623_631 := bn_ BK623 hg; have NB631_623 := bm_ BK623 hg; have NB628_631 := bn_ BK628 hg; have NB631_628 := bm_ BK628 hg; replace BK613 := bb_ BK613 hb; replace BK623 := bb_ BK623 hb; replace BK628 := bb_ BK628 hb; replace HB := bs_ w hb; clear hb hg; replace hn631_613 := NB631_613.out; replace hn613_631 := NB613_631.out; replace hn631_623 := NB631_623.out; replace hn623_631 := NB623_631.out; replace hn631_628 := NB631_628.out; replace hn628_631 := NB628_631.out; replace hc631 := ce2_ BK631; replace hc628 := ce2_ BK628) | ((with_reducible refine gate_callee (f := 38) rfl ?_); refine goesA_ (some 56) Try.func38 #[.agg #[.int .u64 t624, .int .u64 t625], .agg #[.int .u64 t629, .int .u64 t630]] ?_; (with_reducible refine (wide_Cmp.calls k t624 t625 t629 t630 t632 _ A12.out).mono ?_); rintro e w40 ⟨rfl, hb⟩; refine ⟨_, rfl, ?_⟩; replace BK613 := bf_ BK613 hb; replace BK623 := bf_ BK623 hb; replace BK628 := bf_ BK628 hb; replace BK631 := Aside0.mk (blk_below (g := gb631) (o := .cells #[.int .u64 t629, .int .u64 t630] 82 (0, 0)) (bp2_ (bq_ BK631)) hb); replace HB := bs_ w hb; clear hb))
     go_ret2
     exact fi_
    ·rw [if_neg c13] at H
     have c13b0 : decide (0 ≤ t632) = false := decide_eq_false c13
     clear c13
     obtain ⟨ji41, hji41⟩ : ∃ j_ : Int, (mn 1000000000000000 (wrap64 ((wrap64 (t614 + a0_3)) + (wrap64 (t625))))) = j_ := ⟨_, rfl⟩
     replace H : (some (ji41, 0)) = some (r1, r2) := by first | (rw [hji41] at H; exact H) | (simp only [hji41] at H ⊢; exact H)
     (try rw [hji41] at A3)
     (try rw [hji41] at A5)
     (try rw [hji41] at A6)
     (try rw [hji41] at A7)
     (try rw [hji41] at A9)
     (try rw [hji41] at A11)
     (try rw [hji41] at A12)
     (try (have hji41h : ji41 ≤ 1000000000000000 := by (rw [← hji41]; unfold mn; (repeat' split) <;> omega)))
     (try (have hji41g : ji41 ≤ 64 := by omega))
     have hji41_ : (if (wrap64 ((wrap64 (t614 + a0_3)) + (wrap64 (t625)))) < 1000000000000000 then (wrap64 ((wrap64 (t614 + a0_3)) + (wrap64 (t625)))) else 1000000000000000) = ji41 := hji41
     simp only [Option.some.injEq, Prod.mk.injEq] at H
     obtain ⟨rfl, rfl⟩ := H
     go_enter Try.func25, Try.ntmps25
     try go_wp2_with (first | ((with_reducible refine gate_dst (N := 2) rfl ?_); refine bx_ #[.int .i64 a0_0, .int .i64 a0_1, .int .i64 a0_2, .int .i64 a0_3, .int .i64 a0_4, .int .u64 a0_5, .int .i64 a0_6, .slice A0_7 l0_7.length c0_7] 29 ?_; intro gb613 hg w42 BK613 hb; have GW613 := bz_ w hg; have GE613 := GW613; replace HB := bs_ w hb; clear hb hg; replace hc613 := ce8_ BK613) | ((with_reducible refine gate_callee (f := 15) rfl ?_); refine goesA_ (some 14) Try.func15 #[.agg #[.int .i64 a0_0, .int .i64 a0_1, .int .i64 a0_2, .int .i64 a0_3, .int .i64 a0_4, .int .u64 a0_5, .int .i64 a0_6, .slice A0_7 l0_7.length c0_7]] ?_; (with_reducible refine (lease_Out.calls k a0_0 a0_1 a0_2 a0_3 a0_4 a0_5 a0_6 _ _ l0_7 t614 t615 _ ?side1 ?side2 A3.out).mono ?_); (case side1 => exact cs_ HR0_7 HB); (case side2 => exact HC0_7.out); rintro e w44 ⟨rfl, hb⟩; refine ⟨_, rfl, ?_⟩; replace BK613 := bb_ BK613 hb; replace HB := bs_ w hb; clear hb))
     replace BK613 := Aside0.mk (blk_drew BK613.out)
     replace HB := Aside0.mk (below_drew1 HB.out)
     refine start_ (n := 19) (S := fun w' => w'.cell? ⟨gb613, 0, none⟩ = some (.int .i64 a0_0) ∧ w'.cell? ⟨gb613, 1, none⟩ = some (.int .i64 a0_1) ∧ w'.cell? ⟨gb613, 2, none⟩ = some (.int .i64 a0_2) ∧ w'.cell? ⟨gb613, 3, none⟩ = some (.int .i64 a0_3) ∧ w'.cell? ⟨gb613, 4, none⟩ = some (.int .i64 a0_4) ∧ w'.cell? ⟨gb613, 5, none⟩ = some (.int .u64 a0_5) ∧ w'.cell? ⟨gb613, 6, none⟩ = some (.int .i64 a0_6) ∧ w'.cell? ⟨gb613, 7, none⟩ = some (.slice A0_7 l0_7.length c0_7)) (ds := []) (bl_ 19 0) (by kernel_rfl) rfl (by kernel_rfl) ⟨(blk_cell BK613.out 0).trans rfl, (blk_cell BK613.out 1).trans rfl, (blk_cell BK613.out 2).trans rfl, (blk_cell BK613.out 3).trans rfl, (blk_cell BK613.out 4).trans rfl, (blk_cell BK613.out 5).trans rfl, (blk_cell BK613.out 6).trans rfl, (blk_cell BK613.out 7).trans rfl⟩ (fun hHeld => ?_); refine with_tabW lease_Bound.tab4 lease_Bound.bits4 (fun HT_ HW_ => ?_)
     generalize w44.drew = w45 at BK613 HB hHeld ⊢
     refine pa_ 0 (some 21) (bl_ 19 1) HT_ ?_
     refine pa_ 1 (some 22) (bl_ 19 3) HT_ ?_
     refine pa_ 2 (some 23) (bl_ 19 7) HT_ ?_
     refine pa_ 3 (some 24) (bl_ 19 15) HT_ ?_
     refine pa_ 7 (some 28) (bl_ 19 143) HT_ ?_
     refine pa_ 8 (some 29) (bl_ 19 399) HT_ ?_
     refine ta_ 4 (some 25) (bl_ 19 415) HT_ HW_ hHeld ?_
     refine pa_ 5 (some 26) (bl_ 19 447) HT_ ?_
     refine ta_ 9 (some 30) (bl_ 19 959) HT_ HW_ hHeld ?_
     refine pa_ 10 (some 31) (bl_ 19 1983) HT_ ?_
     refine join_ (σ := Nat) 2 (bl_ 19 131071) (fun s_ => [(27, .agg #[.int .u64 t616, .int .u64 t617]), (32, .agg #[.int .u64 t618, .int .u64 t619]), (33, .tuple #[.agg #[.int .u64 t620, .int .u64 t621], .int .i64 t622]), (8, .pointer (some ⟨s_, 0, none⟩)), (20, .tuple #[.agg #[.int .u64 t620, .int .u64 t621], .int .i64 t622]), (34, .agg #[.int .u64 t620, .int .u64 t621]), (35, .int .i64 t622)]) (fun s_ w' => (w'.cell? ⟨gb613, 0, none⟩ = some (.int .i64 a0_0) ∧ w'.cell? ⟨gb613, 1, none⟩ = some (.int .i64 a0_1) ∧ w'.cell? ⟨gb613, 2, none⟩ = some (.int .i64 a0_2) ∧ w'.cell? ⟨gb613, 3, none⟩ = some (.int .i64 a0_3) ∧ w'.cell? ⟨gb613, 4, none⟩ = some (.int .i64 a0_4) ∧ w'.cell? ⟨gb613, 5, none⟩ = some (.int .u64 a0_5) ∧ w'.cell? ⟨gb613, 6, none⟩ = some (.int .i64 a0_6) ∧ w'.cell? ⟨gb613, 7, none⟩ = some (.slice A0_7 l0_7.length c0_7)) ∧ (w'.heap[gb613]? = some (.cells #[.int .i64 a0_0, .int .i64 a0_1, .int .i64 a0_2, .int .i64 a0_3, .int .i64 a0_4, .int .u64 a0_5, .int .i64 a0_6, .slice A0_7 l0_7.length c0_7] 29 (0, 0))) ∧ (w'.heap[s_]? = some (.cells #[.int .u64 0, .int .u64 0] 82 (0, 0))) ∧ (w.heap.size ≤ s_) ∧ (w.heap.size ≤ s_) ∧ (gb613 ≠ s_) ∧ (s_ ≠ gb613) ∧ (Below w.heap.size w w')) ?_ ?_
     rotate_left
     ·intro hCont
      refine tw_ 6 16 (some 27) (some 8) (bl_ 19 2047) (bl_ 19 67519) HT_ (fun K hK => ?_) fun K hK => ?_
      ·refine goesB_ Try.func35 #[.int .u64 a1, .int .u64 (IntKind.u64.wrap (a0_1))] ?_
       with_reducible refine (wide_Mul.calls a1 (IntKind.u64.wrap (a0_1)) t616 t617 _ A5.out).mono ?_
       rintro e w46 ⟨rfl, hb⟩
       refine ⟨_, rfl, ?_⟩
       replace BK613 := bb_ BK613 hb
       replace HB := bs_ w hb
       clear hb
       refine hK.out _ _ ⟨(blk_cell BK613.out 0).trans rfl, (blk_cell BK613.out 1).trans rfl, (blk_cell BK613.out 2).trans rfl, (blk_cell BK613.out 3).trans rfl, (blk_cell BK613.out 4).trans rfl, (blk_cell BK613.out 5).trans rfl, (blk_cell BK613.out 6).trans rfl, (blk_cell BK613.out 7).trans rfl⟩ (fun hHeld => ?_)
       clear hK K
       refine nm_ (some 27) ?_
       refine tw_ 11 16 (some 32) (some 8) (bl_ 19 4095) (bl_ 19 67583) HT_ (fun K hK => ?_) fun K hK => ?_
       ·refine goesB_ Try.func36 #[.int .u64 (IntKind.u64.wrap (a0_4))] ?_
        with_reducible refine (wide_Of.calls (IntKind.u64.wrap (a0_4)) t618 t619 _ A6.out).mono ?_
        rintro e w47 ⟨rfl, hb⟩
        refine ⟨_, rfl, ?_⟩
        replace BK613 := bb_ BK613 hb
        replace HB := bs_ w hb
        clear hb
        refine hK.out _ _ ⟨(blk_cell BK613.out 0).trans rfl, (blk_cell BK613.out 1).trans rfl, (blk_cell BK613.out 2).trans rfl, (blk_cell BK613.out 3).trans rfl, (blk_cell BK613.out 4).trans rfl, (blk_cell BK613.out 5).trans rfl, (blk_cell BK613.out 6).trans rfl, (blk_cell BK613.out 7).trans rfl⟩ (fun hHeld => ?_)
        clear hK K
        refine nm_ (some 32) ?_
        refine tw_ 12 16 (some 33) (some 8) (bl_ 19 8191) (bl_ 19 69631) HT_ (fun K hK => ?_) fun K hK => ?_
        ·refine goesB_ Try.func34 #[.agg #[.int .u64 t616, .int .u64 t617], .agg #[.int .u64 t618, .int .u64 t619]] ?_
         with_reducible refine (wide_Add.calls t616 t617 t618 t619 t620 t621 t622 _ A7.out).mono ?_
         rintro e w48 ⟨rfl, hb⟩
         refine ⟨_, rfl, ?_⟩
         replace BK613 := bb_ BK613 hb
         replace HB := bs_ w hb
         clear hb
         refine hK.out _ _ ⟨(blk_cell BK613.out 0).trans rfl, (blk_cell BK613.out 1).trans rfl, (blk_cell BK613.out 2).trans rfl, (blk_cell BK613.out 3).trans rfl, (blk_cell BK613.out 4).trans rfl, (blk_cell BK613.out 5).trans rfl, (blk_cell BK613.out 6).trans rfl, (blk_cell BK613.out 7).trans rfl⟩ (fun hHeld => ?_)
         clear hK K
         refine nm_ (some 33) ?_
         refine pa_ 13 (some 20) (bl_ 19 16383) HT_ ?_
         refine pa_ 14 (some 34) (bl_ 19 32767) HT_ ?_
         refine pa_ 15 (some 35) (bl_ 19 65535) HT_ ?_
         refine oa_ 16 (some 8) (bl_ 19 131071) HT_ fun K hK => ?_
         refine bs2_ #[.int .u64 0, .int .u64 0] 82 ?_
         intro gb623 hg w49 BK623 hb
         have GW623 := bz_ w hg
         have GE623 := GW623
         have NB613_623 := bn_ BK613 hg
         have NB623_613 := bm_ BK613 hg
         replace BK613 := bb_ BK613 hb
         replace HB := bs_ w hb
         clear hb hg
         refine hK.out _ _ ⟨(blk_cell BK613.out 0).trans rfl, (blk_cell BK613.out 1).trans rfl, (blk_cell BK613.out 2).trans rfl, (blk_cell BK613.out 3).trans rfl, (blk_cell BK613.out 4).trans rfl, (blk_cell BK613.out 5).trans rfl, (blk_cell BK613.out 6).trans rfl, (blk_cell BK613.out 7).trans rfl⟩ (fun hHeld => ?_)
         clear hK K
         refine nm_ (some 8) ?_
         exact no_ (hCont (gb623) _ ⟨hHeld, (bq_ BK613), (bq_ BK623), GW623.out, GE623.out, NB613_623.out, NB623_613.out, bh_⟩)
        ·refine bs2_ #[.int .u64 0, .int .u64 0] 82 ?_
         intro gb623 hg w48 BK623 hb
         have GW623 := bz_ w hg
         have GE623 := GW623
         have NB613_623 := bn_ BK613 hg
         have NB623_613 := bm_ BK613 hg
         replace BK613 := bb_ BK613 hb
         replace HB := bs_ w hb
         clear hb hg
         refine hK.out _ _ ⟨(blk_cell BK613.out 0).trans rfl, (blk_cell BK613.out 1).trans rfl, (blk_cell BK613.out 2).trans rfl, (blk_cell BK613.out 3).trans rfl, (blk_cell BK613.out 4).trans rfl, (blk_cell BK613.out 5).trans rfl, (blk_cell BK613.out 6).trans rfl, (blk_cell BK613.out 7).trans rfl⟩ (fun hHeld => ?_)
         clear hK K
         refine nm_ (some 8) ?_
         refine oa_ 12 (some 33) (bl_ 19 73727) HT_ fun K hK => ?_
         refine goesB_ Try.func34 #[.agg #[.int .u64 t616, .int .u64 t617], .agg #[.int .u64 t618, .int .u64 t619]] ?_
         with_reducible refine (wide_Add.calls t616 t617 t618 t619 t620 t621 t622 _ A7.out).mono ?_
         rintro e w49 ⟨rfl, hb⟩
         refine ⟨_, rfl, ?_⟩
         replace BK613 := bb_ BK613 hb
         replace BK623 := bb_ BK623 hb
         replace HB := bs_ w hb
         clear hb
         refine hK.out _ _ ⟨(blk_cell BK613.out 0).trans rfl, (blk_cell BK613.out 1).trans rfl, (blk_cell BK613.out 2).trans rfl, (blk_cell BK613.out 3).trans rfl, (blk_cell BK613.out 4).trans rfl, (blk_cell BK613.out 5).trans rfl, (blk_cell BK613.out 6).trans rfl, (blk_cell BK613.out 7).trans rfl⟩ (fun hHeld => ?_)
         clear hK K
         refine nm_ (some 33) ?_
         refine pa_ 13 (some 20) (bl_ 19 81919) HT_ ?_
         refine pa_ 14 (some 34) (bl_ 19 98303) HT_ ?_
         refine pa_ 15 (some 35) (bl_ 19 131071) HT_ ?_
         exact no_ (hCont (gb623) _ ⟨hHeld, (bq_ BK613), (bq_ BK623), GW623.out, GE623.out, NB613_623.out, NB623_613.out, bh_⟩)
       ·refine bs2_ #[.int .u64 0, .int .u64 0] 82 ?_
        intro gb623 hg w47 BK623 hb
        have GW623 := bz_ w hg
        have GE623 := GW623
        have NB613_623 := bn_ BK613 hg
        have NB623_613 := bm_ BK613 hg
        replace BK613 := bb_ BK613 hb
        replace HB := bs_ w hb
        clear hb hg
        refine hK.out _ _ ⟨(blk_cell BK613.out 0).trans rfl, (blk_cell BK613.out 1).trans rfl, (blk_cell BK613.out 2).trans rfl, (blk_cell BK613.out 3).trans rfl, (blk_cell BK613.out 4).trans rfl, (blk_cell BK613.out 5).trans rfl, (blk_cell BK613.out 6).trans rfl, (blk_cell BK613.out 7).trans rfl⟩ (fun hHeld => ?_)
        clear hK K
        refine nm_ (some 8) ?_
        refine oa_ 11 (some 32) (bl_ 19 69631) HT_ fun K hK => ?_
        refine goesB_ Try.func36 #[.int .u64 (IntKind.u64.wrap (a0_4))] ?_
        with_reducible refine (wide_Of.calls (IntKind.u64.wrap (a0_4)) t618 t619 _ A6.out).mono ?_
        rintro e w48 ⟨rfl, hb⟩
        refine ⟨_, rfl, ?_⟩
        replace BK613 := bb_ BK613 hb
        replace BK623 := bb_ BK623 hb
        replace HB := bs_ w hb
        clear hb
        refine hK.out _ _ ⟨(blk_cell BK613.out 0).trans rfl, (blk_cell BK613.out 1).trans rfl, (blk_cell BK613.out 2).trans rfl, (blk_cell BK613.out 3).trans rfl, (blk_cell BK613.out 4).trans rfl, (blk_cell BK613.out 5).trans rfl, (blk_cell BK613.out 6).trans rfl, (blk_cell BK613.out 7).trans rfl⟩ (fun hHeld => ?_)
        clear hK K
        refine nm_ (some 32) ?_
        refine oa_ 12 (some 33) (bl_ 19 73727) HT_ fun K hK => ?_
        refine goesB_ Try.func34 #[.agg #[.int .u64 t616, .int .u64 t617], .agg #[.int .u64 t618, .int .u64 t619]] ?_
        with_reducible refine (wide_Add.calls t616 t617 t618 t619 t620 t621 t622 _ A7.out).mono ?_
        rintro e w49 ⟨rfl, hb⟩
        refine ⟨_, rfl, ?_⟩
        replace BK613 := bb_ BK613 hb
        replace BK623 := bb_ BK623 hb
        replace HB := bs_ w hb
        clear hb
        refine hK.out _ _ ⟨(blk_cell BK613.out 0).trans rfl, (blk_cell BK613.out 1).trans rfl, (blk_cell BK613.out 2).trans rfl, (blk_cell BK613.out 3).trans rfl, (blk_cell BK613.out 4).trans rfl, (blk_cell BK613.out 5).trans rfl, (blk_cell BK613.out 6).trans rfl, (blk_cell BK613.out 7).trans rfl⟩ (fun hHeld => ?_)
        clear hK K
        refine nm_ (some 33) ?_
        refine pa_ 13 (some 20) (bl_ 19 81919) HT_ ?_
        refine pa_ 14 (some 34) (bl_ 19 98303) HT_ ?_
        refine pa_ 15 (some 35) (bl_ 19 131071) HT_ ?_
        exact no_ (hCont (gb623) _ ⟨hHeld, (bq_ BK613), (bq_ BK623), GW623.out, GE623.out, NB613_623.out, NB623_613.out, bh_⟩)
      ·refine bs2_ #[.int .u64 0, .int .u64 0] 82 ?_
       intro gb623 hg w46 BK623 hb
       have GW623 := bz_ w hg
       have GE623 := GW623
       have NB613_623 := bn_ BK613 hg
       have NB623_613 := bm_ BK613 hg
       replace BK613 := bb_ BK613 hb
       replace HB := bs_ w hb
       clear hb hg
       refine hK.out _ _ ⟨(blk_cell BK613.out 0).trans rfl, (blk_cell BK613.out 1).trans rfl, (blk_cell BK613.out 2).trans rfl, (blk_cell BK613.out 3).trans rfl, (blk_cell BK613.out 4).trans rfl, (blk_cell BK613.out 5).trans rfl, (blk_cell BK613.out 6).trans rfl, (blk_cell BK613.out 7).trans rfl⟩ (fun hHeld => ?_)
       clear hK K
       refine nm_ (some 8) ?_
       refine oa_ 6 (some 27) (bl_ 19 67583) HT_ fun K hK => ?_
       refine goesB_ Try.func35 #[.int .u64 a1, .int .u64 (IntKind.u64.wrap (a0_1))] ?_
       with_reducible refine (wide_Mul.calls a1 (IntKind.u64.wrap (a0_1)) t616 t617 _ A5.out).mono ?_
       rintro e w47 ⟨rfl, hb⟩
       refine ⟨_, rfl, ?_⟩
       replace BK613 := bb_ BK613 hb
       replace BK623 := bb_ BK623 hb
       replace HB := bs_ w hb
       clear hb
       refine hK.out _ _ ⟨(blk_cell BK613.out 0).trans rfl, (blk_cell BK613.out 1).trans rfl, (blk_cell BK613.out 2).trans rfl, (blk_cell BK613.out 3).trans rfl, (blk_cell BK613.out 4).trans rfl, (blk_cell BK613.out 5).trans rfl, (blk_cell BK613.out 6).trans rfl, (blk_cell BK613.out 7).trans rfl⟩ (fun hHeld => ?_)
       clear hK K
       refine nm_ (some 27) ?_
       refine oa_ 11 (some 32) (bl_ 19 69631) HT_ fun K hK => ?_
       refine goesB_ Try.func36 #[.int .u64 (IntKind.u64.wrap (a0_4))] ?_
       with_reducible refine (wide_Of.calls (IntKind.u64.wrap (a0_4)) t618 t619 _ A6.out).mono ?_
       rintro e w48 ⟨rfl, hb⟩
       refine ⟨_, rfl, ?_⟩
       replace BK613 := bb_ BK613 hb
       replace BK623 := bb_ BK623 hb
       replace HB := bs_ w hb
       clear hb
       refine hK.out _ _ ⟨(blk_cell BK613.out 0).trans rfl, (blk_cell BK613.out 1).trans rfl, (blk_cell BK613.out 2).trans rfl, (blk_cell BK613.out 3).trans rfl, (blk_cell BK613.out 4).trans rfl, (blk_cell BK613.out 5).trans rfl, (blk_cell BK613.out 6).trans rfl, (blk_cell BK613.out 7).trans rfl⟩ (fun hHeld => ?_)
       clear hK K
       refine nm_ (some 32) ?_
       refine oa_ 12 (some 33) (bl_ 19 73727) HT_ fun K hK => ?_
       refine goesB_ Try.func34 #[.agg #[.int .u64 t616, .int .u64 t617], .agg #[.int .u64 t618, .int .u64 t619]] ?_
       with_reducible refine (wide_Add.calls t616 t617 t618 t619 t620 t621 t622 _ A7.out).mono ?_
       rintro e w49 ⟨rfl, hb⟩
       refine ⟨_, rfl, ?_⟩
       replace BK613 := bb_ BK613 hb
       replace BK623 := bb_ BK623 hb
       replace HB := bs_ w hb
       clear hb
       refine hK.out _ _ ⟨(blk_cell BK613.out 0).trans rfl, (blk_cell BK613.out 1).trans rfl, (blk_cell BK613.out 2).trans rfl, (blk_cell BK613.out 3).trans rfl, (blk_cell BK613.out 4).trans rfl, (blk_cell BK613.out 5).trans rfl, (blk_cell BK613.out 6).trans rfl, (blk_cell BK613.out 7).trans rfl⟩ (fun hHeld => ?_)
       clear hK K
       refine nm_ (some 33) ?_
       refine pa_ 13 (some 20) (bl_ 19 81919) HT_ ?_
       refine pa_ 14 (some 34) (bl_ 19 98303) HT_ ?_
       refine pa_ 15 (some 35) (bl_ 19 131071) HT_ ?_
       exact no_ (hCont (gb623) _ ⟨hHeld, (bq_ BK613), (bq_ BK623), GW623.out, GE623.out, NB613_623.out, NB623_613.out, bh_⟩)
     rintro gb623 w50 ⟨hS_, h0_, h1_, h2_, h3_, h4_, h5_, h6_⟩
     have BK623 := Aside0.mk h1_
     have GW623 := Aside0.mk h2_
     have GE623 := Aside0.mk h3_
     have NB613_623 := Aside0.mk h4_
     have NB623_613 := Aside0.mk h5_
     replace BK613 := Aside0.mk h0_
     replace HB := Aside0.mk h6_
     clear h0_ h1_ h2_ h3_ h4_ h5_ h6_
     have hHeld := hS_
     refine nq_ ?_
     refine oa_ 17 none (bl_ 19 262143) HT_ fun K hK => ?_
     have hs51 : w50.cell? ⟨gb623, 0, none⟩ = some (.int .u64 0) := (blk_cell BK623.out 0).trans rfl
     have hfs51 := blk_frozen BK623.out 0
     have hns51_0 := NB613_623.out
     have hms51_0 := NB623_613.out
     have hs52 : w50.cell? ⟨gb623, 1, none⟩ = some (.int .u64 0) := (blk_cell BK623.out 1).trans rfl
     have hfs52 := blk_frozen BK623.out 1
     have hns52_0 := NB613_623.out
     have hms52_0 := NB623_613.out
     refine sk_ ?_
     refine hK.out _ _ ⟨((cell_far (p := ⟨gb623, _, none⟩) NB613_623.out _).trans (((cell_far (p := ⟨gb623, _, none⟩) NB613_623.out _).trans (hHeld.1)))), ((cell_far (p := ⟨gb623, _, none⟩) NB613_623.out _).trans (((cell_far (p := ⟨gb623, _, none⟩) NB613_623.out _).trans (hHeld.2.1)))), ((cell_far (p := ⟨gb623, _, none⟩) NB613_623.out _).trans (((cell_far (p := ⟨gb623, _, none⟩) NB613_623.out _).trans (hHeld.2.2.1)))), ((cell_far (p := ⟨gb623, _, none⟩) NB613_623.out _).trans (((cell_far (p := ⟨gb623, _, none⟩) NB613_623.out _).trans (hHeld.2.2.2.1)))), ((cell_far (p := ⟨gb623, _, none⟩) NB613_623.out _).trans (((cell_far (p := ⟨gb623, _, none⟩) NB613_623.out _).trans (hHeld.2.2.2.2.1)))), ((cell_far (p := ⟨gb623, _, none⟩) NB613_623.out _).trans (((cell_far (p := ⟨gb623, _, none⟩) NB613_623.out _).trans (hHeld.2.2.2.2.2.1)))), ((cell_far (p := ⟨gb623, _, none⟩) NB613_623.out _).trans (((cell_far (p := ⟨gb623, _, none⟩) NB613_623.out _).trans (hHeld.2.2.2.2.2.2.1)))), ((cell_far (p := ⟨gb623, _, none⟩) NB613_623.out _).trans (((cell_far (p := ⟨gb623, _, none⟩) NB613_623.out _).trans (hHeld.2.2.2.2.2.2.2))))⟩ (fun hHeld => ?_)
     clear hK K
     refine pa_ 18 (some 7) (bl_ 19 524287) HT_ ?_
     refine done_ (done_of HT_.out (by kernel_rfl)) ?_
     replace hn623_613 := NB623_613.out
     replace hn613_623 := NB613_623.out
     replace hc623 := ce2_ BK623
     replace hc613 := ce8_ BK613
     try go_wp2_with (first | ((with_reducible refine gate_callee (f := 37) rfl ?_); refine goesA_ (some 46) Try.func37 #[.agg #[.int .u64 t620, .int .u64 t621], .int .u64 (IntKind.u64.wrap (a0_2))] ?_; (with_reducible refine (wide_Div.calls k t620 t621 (IntKind.u64.wrap (a0_2)) t624 t625 t626 t627 _ A9.out).mono ?_); rintro e w56 ⟨rfl, hb⟩; refine ⟨_, rfl, ?_⟩; replace BK613 := bf_ BK613 hb; replace BK623 := Aside0.mk (blk_below (g := gb623) (o := .cells #[.int .u64 t620, .int .u64 t621] 82 (0, 0)) (bp2_ (bq_ BK623)) hb); replace HB := bs_ w hb; clear hb) | ((with_reducible refine gate_dst (N := 9) rfl ?_); refine bx_ #[.int .u64 0, .int .u64 0] 82 ?_; intro gb628 hg w57 BK628 hb; have GW628 := bz_ w hg; have GE628 := GW628; have NB613_628 := bn_ BK613 hg; have NB628_613 := bm_ BK613 hg; have NB623_628 := bn_ BK623 hg; have NB628_623 := bm_ BK623 hg; replace BK613 := bb_ BK613 hb; replace BK623 := bb_ BK623 hb; replace HB := bs_ w hb; clear hb hg; replace hn628_613 := NB628_613.out; replace hn613_628 := NB613_628.out; replace hn628_623 := NB628_623.out; replace hn623_628 := NB623_628.out; replace hc628 := ce2_ BK628) | ((with_reducible refine gate_callee (f := 36) rfl ?_); refine goesA_ (some 53) Try.func36 #[.int .u64 1000000000000000] ?_; (with_reducible refine (wide_Of.calls 1000000000000000 t629 t630 _ A11.out).mono ?_); rintro e w61 ⟨rfl, hb⟩; refine ⟨_, rfl, ?_⟩; replace BK613 := bf_ BK613 hb; replace BK623 := bf_ BK623 hb; replace BK628 := Aside0.mk (blk_below (g := gb628) (o := .cells #[.int .u64 t624, .int .u64 t625] 82 (0, 0)) (bp2_ (bq_ BK628)) hb); replace HB := bs_ w hb; clear hb) | ((with_reducible refine gate_dst (N := 11) rfl ?_); refine bx_ #[.int .u64 0, .int .u64 0] 82 ?_; intro gb631 hg w62 BK631 hb; have GW631 := bz_ w hg; have GE631 := GW631; have NB613_631 := bn_ BK613 hg; have NB631_613 := bm_ BK613 hg; have NB623_631 := bn_ BK623 hg; have NB631_623 := bm_ BK623 hg; have NB628_631 := bn_ BK628 hg; have NB631_628 := bm_ BK628 hg; replace BK613 := bb_ BK613 hb; replace BK623 := bb_ BK623 hb; replace BK628 := bb_ BK628 hb; replace HB := bs_ w hb; clear hb hg; replace hn631_613 := NB631_613.out; replace hn613_631 := NB613_631.out; replace hn631_623 := NB631_623.out; replace hn623_631 := NB623_631.out; replace hn631_628 := NB631_628.out; replace hn628_631 := NB628_631.out; replace hc631 := ce2_ BK631; replace hc628 := ce2_ BK628) | ((with_reducible refine gate_callee (f := 38) rfl ?_); refine goesA_ (some 56) Try.func38 #[.agg #[.int .u64 t624, .int .u64 t625], .agg #[.int .u64 t629, .int .u64 t630]] ?_; (with_reducible refine (wide_Cmp.calls k t624 t625 t629 t630 t632 _ A12.out).mono ?_); rintro e w68 ⟨rfl, hb⟩; refine ⟨_, rfl, ?_⟩; replace BK613 := bf_ BK613 hb; replace BK623 := bf_ BK623 hb; replace BK628 := bf_ BK628 hb; replace BK631 := Aside0.mk (blk_below (g := gb631) (o := .cells #[.int .u64 t629, .int .u64 t630] 82 (0, 0)) (bp2_ (bq_ BK631)) hb); replace HB := bs_ w hb; clear hb; replace hc613 := ce8_ BK613; replace hc628 := ce2_ BK628))
     go_ret2
     exact ⟨by first | rfl | (simp [errW_none, errW_some] <;> rfl) | (simp only [← hji41]; first | rfl | (simp [errW_none, errW_some] <;> rfl)) | (simp [*, errW_none, errW_some] <;> rfl), by repeat (first | (with_reducible first | exact HB.out | apply below_alloc | apply pw_below_drewN | apply below_drew1 | refine below_set ?_ GE613.out | refine below_set ?_ GE623.out | refine below_set ?_ GE628.out | refine below_set ?_ GE631.out) | exact HB.out)⟩
   ·rw [if_neg c10] at H
    have c10b0 : (t627 == 0) = false := beq_eq_false_iff_ne.mpr c10
    have c10b1 : (t627 != 0) = true := bne_iff_ne.mpr c10
    simp only [Option.some.injEq, Prod.mk.injEq] at H
    obtain ⟨rfl, rfl⟩ := H
    go_enter Try.func25, Try.ntmps25
    try go_wp2_with (first | ((with_reducible refine gate_dst (N := 2) rfl ?_); refine bx_ #[.int .i64 a0_0, .int .i64 a0_1, .int .i64 a0_2, .int .i64 a0_3, .int .i64 a0_4, .int .u64 a0_5, .int .i64 a0_6, .slice A0_7 l0_7.length c0_7] 29 ?_; intro gb613 hg w71 BK613 hb; have GW613 := bz_ w hg; have GE613 := GW613; replace HB := bs_ w hb; clear hb hg; replace hc613 := ce8_ BK613) | ((with_reducible refine gate_callee (f := 15) rfl ?_); refine goesA_ (some 14) Try.func15 #[.agg #[.int .i64 a0_0, .int .i64 a0_1, .int .i64 a0_2, .int .i64 a0_3, .int .i64 a0_4, .int .u64 a0_5, .int .i64 a0_6, .slice A0_7 l0_7.length c0_7]] ?_; (with_reducible refine (lease_Out.calls k a0_0 a0_1 a0_2 a0_3 a0_4 a0_5 a0_6 _ _ l0_7 t614 t615 _ ?side1 ?side2 A3.out).mono ?_); (case side1 => exact cs_ HR0_7 HB); (case side2 => exact HC0_7.out); rintro e w73 ⟨rfl, hb⟩; refine ⟨_, rfl, ?_⟩; replace BK613 := bb_ BK613 hb; replace HB := bs_ w hb; clear hb))
    replace BK613 := Aside0.mk (blk_drew BK613.out)
    replace HB := Aside0.mk (below_drew1 HB.out)
    refine start_ (n := 19) (S := fun w' => w'.cell? ⟨gb613, 0, none⟩ = some (.int .i64 a0_0) ∧ w'.cell? ⟨gb613, 1, none⟩ = some (.int .i64 a0_1) ∧ w'.cell? ⟨gb613, 2, none⟩ = some (.int .i64 a0_2) ∧ w'.cell? ⟨gb613, 3, none⟩ = some (.int .i64 a0_3) ∧ w'.cell? ⟨gb613, 4, none⟩ = some (.int .i64 a0_4) ∧ w'.cell? ⟨gb613, 5, none⟩ = some (.int .u64 a0_5) ∧ w'.cell? ⟨gb613, 6, none⟩ = some (.int .i64 a0_6) ∧ w'.cell? ⟨gb613, 7, none⟩ = some (.slice A0_7 l0_7.length c0_7)) (ds := []) (bl_ 19 0) (by kernel_rfl) rfl (by kernel_rfl) ⟨(blk_cell BK613.out 0).trans rfl, (blk_cell BK613.out 1).trans rfl, (blk_cell BK613.out 2).trans rfl, (blk_cell BK613.out 3).trans rfl, (blk_cell BK613.out 4).trans rfl, (blk_cell BK613.out 5).trans rfl, (blk_cell BK613.out 6).trans rfl, (blk_cell BK613.out 7).trans rfl⟩ (fun hHeld => ?_); refine with_tabW lease_Bound.tab4 lease_Bound.bits4 (fun HT_ HW_ => ?_)
    generalize w73.drew = w74 at BK613 HB hHeld ⊢
    refine pa_ 0 (some 21) (bl_ 19 1) HT_ ?_
    refine pa_ 1 (some 22) (bl_ 19 3) HT_ ?_
    refine pa_ 2 (some 23) (bl_ 19 7) HT_ ?_
    refine pa_ 3 (some 24) (bl_ 19 15) HT_ ?_
    refine pa_ 7 (some 28) (bl_ 19 143) HT_ ?_
    refine pa_ 8 (some 29) (bl_ 19 399) HT_ ?_
    refine ta_ 4 (some 25) (bl_ 19 415) HT_ HW_ hHeld ?_
    refine pa_ 5 (some 26) (bl_ 19 447) HT_ ?_
    refine ta_ 9 (some 30) (bl_ 19 959) HT_ HW_ hHeld ?_
    refine pa_ 10 (some 31) (bl_ 19 1983) HT_ ?_
    refine join_ (σ := Nat) 2 (bl_ 19 131071) (fun s_ => [(27, .agg #[.int .u64 t616, .int .u64 t617]), (32, .agg #[.int .u64 t618, .int .u64 t619]), (33, .tuple #[.agg #[.int .u64 t620, .int .u64 t621], .int .i64 t622]), (8, .pointer (some ⟨s_, 0, none⟩)), (20, .tuple #[.agg #[.int .u64 t620, .int .u64 t621], .int .i64 t622]), (34, .agg #[.int .u64 t620, .int .u64 t621]), (35, .int .i64 t622)]) (fun s_ w' => (w'.cell? ⟨gb613, 0, none⟩ = some (.int .i64 a0_0) ∧ w'.cell? ⟨gb613, 1, none⟩ = some (.int .i64 a0_1) ∧ w'.cell? ⟨gb613, 2, none⟩ = some (.int .i64 a0_2) ∧ w'.cell? ⟨gb613, 3, none⟩ = some (.int .i64 a0_3) ∧ w'.cell? ⟨gb613, 4, none⟩ = some (.int .i64 a0_4) ∧ w'.cell? ⟨gb613, 5, none⟩ = some (.int .u64 a0_5) ∧ w'.cell? ⟨gb613, 6, none⟩ = some (.int .i64 a0_6) ∧ w'.cell? ⟨gb613, 7, none⟩ = some (.slice A0_7 l0_7.length c0_7)) ∧ (w'.heap[gb613]? = some (.cells #[.int .i64 a0_0, .int .i64 a0_1, .int .i64 a0_2, .int .i64 a0_3, .int .i64 a0_4, .int .u64 a0_5, .int .i64 a0_6, .slice A0_7 l0_7.length c0_7] 29 (0, 0))) ∧ (w'.heap[s_]? = some (.cells #[.int .u64 0, .int .u64 0] 82 (0, 0))) ∧ (w.heap.size ≤ s_) ∧ (w.heap.size ≤ s_) ∧ (gb613 ≠ s_) ∧ (s_ ≠ gb613) ∧ (Below w.heap.size w w')) ?_ ?_
    rotate_left
    ·intro hCont
     refine tw_ 6 16 (some 27) (some 8) (bl_ 19 2047) (bl_ 19 67519) HT_ (fun K hK => ?_) fun K hK => ?_
     ·refine goesB_ Try.func35 #[.int .u64 a1, .int .u64 (IntKind.u64.wrap (a0_1))] ?_
      with_reducible refine (wide_Mul.calls a1 (IntKind.u64.wrap (a0_1)) t616 t617 _ A5.out).mono ?_
      rintro e w75 ⟨rfl, hb⟩
      refine ⟨_, rfl, ?_⟩
      replace BK613 := bb_ BK613 hb
      replace HB := bs_ w hb
      clear hb
      refine hK.out _ _ ⟨(blk_cell BK613.out 0).trans rfl, (blk_cell BK613.out 1).trans rfl, (blk_cell BK613.out 2).trans rfl, (blk_cell BK613.out 3).trans rfl, (blk_cell BK613.out 4).trans rfl, (blk_cell BK613.out 5).trans rfl, (blk_cell BK613.out 6).trans rfl, (blk_cell BK613.out 7).trans rfl⟩ (fun hHeld => ?_)
      clear hK K
      refine nm_ (some 27) ?_
      refine tw_ 11 16 (some 32) (some 8) (bl_ 19 4095) (bl_ 19 67583) HT_ (fun K hK => ?_) fun K hK => ?_
      ·refine goesB_ Try.func36 #[.int .u64 (IntKind.u64.wrap (a0_4))] ?_
       with_reducible refine (wide_Of.calls (IntKind.u64.wrap (a0_4)) t618 t619 _ A6.out).mono ?_
       rintro e w76 ⟨rfl, hb⟩
       refine ⟨_, rfl, ?_⟩
       replace BK613 := bb_ BK613 hb
       replace HB := bs_ w hb
       clear hb
       refine hK.out _ _ ⟨(blk_cell BK613.out 0).trans rfl, (blk_cell BK613.out 1).trans rfl, (blk_cell BK613.out 2).trans rfl, (blk_cell BK613.out 3).trans rfl, (blk_cell BK613.out 4).trans rfl, (blk_cell BK613.out 5).trans rfl, (blk_cell BK613.out 6).trans rfl, (blk_cell BK613.out 7).trans rfl⟩ (fun hHeld => ?_)
       clear hK K
       refine nm_ (some 32) ?_
       refine tw_ 12 16 (some 33) (some 8) (bl_ 19 8191) (bl_ 19 69631) HT_ (fun K hK => ?_) fun K hK => ?_
       ·refine goesB_ Try.func34 #[.agg #[.int .u64 t616, .int .u64 t617], .agg #[.int .u64 t618, .int .u64 t619]] ?_
        with_reducible refine (wide_Add.calls t616 t617 t618 t619 t620 t621 t622 _ A7.out).mono ?_
        rintro e w77 ⟨rfl, hb⟩
        refine ⟨_, rfl, ?_⟩
        replace BK613 := bb_ BK613 hb
        replace HB := bs_ w hb
        clear hb
        refine hK.out _ _ ⟨(blk_cell BK613.out 0).trans rfl, (blk_cell BK613.out 1).trans rfl, (blk_cell BK613.out 2).trans rfl, (blk_cell BK613.out 3).trans rfl, (blk_cell BK613.out 4).trans rfl, (blk_cell BK613.out 5).trans rfl, (blk_cell BK613.out 6).trans rfl, (blk_cell BK613.out 7).trans rfl⟩ (fun hHeld => ?_)
        clear hK K
        refine nm_ (some 33) ?_
        refine pa_ 13 (some 20) (bl_ 19 16383) HT_ ?_
        refine pa_ 14 (some 34) (bl_ 19 32767) HT_ ?_
        refine pa_ 15 (some 35) (bl_ 19 65535) HT_ ?_
        refine oa_ 16 (some 8) (bl_ 19 131071) HT_ fun K hK => ?_
        refine bs2_ #[.int .u64 0, .int .u64 0] 82 ?_
        intro gb623 hg w78 BK623 hb
        have GW623 := bz_ w hg
        have GE623 := GW623
        have NB613_623 := bn_ BK613 hg
        have NB623_613 := bm_ BK613 hg
        replace BK613 := bb_ BK613 hb
        replace HB := bs_ w hb
        clear hb hg
        refine hK.out _ _ ⟨(blk_cell BK613.out 0).trans rfl, (blk_cell BK613.out 1).trans rfl, (blk_cell BK613.out 2).trans rfl, (blk_cell BK613.out 3).trans rfl, (blk_cell BK613.out 4).trans rfl, (blk_cell BK613.out 5).trans rfl, (blk_cell BK613.out 6).trans rfl, (blk_cell BK613.out 7).trans rfl⟩ (fun hHeld => ?_)
        clear hK K
        refine nm_ (some 8) ?_
        exact no_ (hCont (gb623) _ ⟨hHeld, (bq_ BK613), (bq_ BK623), GW623.out, GE623.out, NB613_623.out, NB623_613.out, bh_⟩)
       ·refine bs2_ #[.int .u64 0, .int .u64 0] 82 ?_
        intro gb623 hg w77 BK623 hb
        have GW623 := bz_ w hg
        have GE623 := GW623
        have NB613_623 := bn_ BK613 hg
        have NB623_613 := bm_ BK613 hg
        replace BK613 := bb_ BK613 hb
        replace HB := bs_ w hb
        clear hb hg
        refine hK.out _ _ ⟨(blk_cell BK613.out 0).trans rfl, (blk_cell BK613.out 1).trans rfl, (blk_cell BK613.out 2).trans rfl, (blk_cell BK613.out 3).trans rfl, (blk_cell BK613.out 4).trans rfl, (blk_cell BK613.out 5).trans rfl, (blk_cell BK613.out 6).trans rfl, (blk_cell BK613.out 7).trans rfl⟩ (fun hHeld => ?_)
        clear hK K
        refine nm_ (some 8) ?_
        refine oa_ 12 (some 33) (bl_ 19 73727) HT_ fun K hK => ?_
        refine goesB_ Try.func34 #[.agg #[.int .u64 t616, .int .u64 t617], .agg #[.int .u64 t618, .int .u64 t619]] ?_
        with_reducible refine (wide_Add.calls t616 t617 t618 t619 t620 t621 t622 _ A7.out).mono ?_
        rintro e w78 ⟨rfl, hb⟩
        refine ⟨_, rfl, ?_⟩
        replace BK613 := bb_ BK613 hb
        replace BK623 := bb_ BK623 hb
        replace HB := bs_ w hb
        clear hb
        refine hK.out _ _ ⟨(blk_cell BK613.out 0).trans rfl, (blk_cell BK613.out 1).trans rfl, (blk_cell BK613.out 2).trans rfl, (blk_cell BK613.out 3).trans rfl, (blk_cell BK613.out 4).trans rfl, (blk_cell BK613.out 5).trans rfl, (blk_cell BK613.out 6).trans rfl, (blk_cell BK613.out 7).trans rfl⟩ (fun hHeld => ?_)
        clear hK K
        refine nm_ (some 33) ?_
        refine pa_ 13 (some 20) (bl_ 19 81919) HT_ ?_
        refine pa_ 14 (some 34) (bl_ 19 98303) HT_ ?_
        refine pa_ 15 (some 35) (bl_ 19 131071) HT_ ?_
        exact no_ (hCont (gb623) _ ⟨hHeld, (bq_ BK613), (bq_ BK623), GW623.out, GE623.out, NB613_623.out, NB623_613.out, bh_⟩)
      ·refine bs2_ #[.int .u64 0, .int .u64 0] 82 ?_
       intro gb623 hg w76 BK623 hb
       have GW623 := bz_ w hg
       have GE623 := GW623
       have NB613_623 := bn_ BK613 hg
       have NB623_613 := bm_ BK613 hg
       replace BK613 := bb_ BK613 hb
       replace HB := bs_ w hb
       clear hb hg
       refine hK.out _ _ ⟨(blk_cell BK613.out 0).trans rfl, (blk_cell BK613.out 1).trans rfl, (blk_cell BK613.out 2).trans rfl, (blk_cell BK613.out 3).trans rfl, (blk_cell BK613.out 4).trans rfl, (blk_cell BK613.out 5).trans rfl, (blk_cell BK613.out 6).trans rfl, (blk_cell BK613.out 7).trans rfl⟩ (fun hHeld => ?_)
       clear hK K
       refine nm_ (some 8) ?_
       refine oa_ 11 (some 32) (bl_ 19 69631) HT_ fun K hK => ?_
       refine goesB_ Try.func36 #[.int .u64 (IntKind.u64.wrap (a0_4))] ?_
       with_reducible refine (wide_Of.calls (IntKind.u64.wrap (a0_4)) t618 t619 _ A6.out).mono ?_
       rintro e w77 ⟨rfl, hb⟩
       refine ⟨_, rfl, ?_⟩
       replace BK613 := bb_ BK613 hb
       replace BK623 := bb_ BK623 hb
       replace HB := bs_ w hb
       clear hb
       refine hK.out _ _ ⟨(blk_cell BK613.out 0).trans rfl, (blk_cell BK613.out 1).trans rfl, (blk_cell BK613.out 2).trans rfl, (blk_cell BK613.out 3).trans rfl, (blk_cell BK613.out 4).trans rfl, (blk_cell BK613.out 5).trans rfl, (blk_cell BK613.out 6).trans rfl, (blk_cell BK613.out 7).trans rfl⟩ (fun hHeld => ?_)
       clear hK K
       refine nm_ (some 32) ?_
       refine oa_ 12 (some 33) (bl_ 19 73727) HT_ fun K hK => ?_
       refine goesB_ Try.func34 #[.agg #[.int .u64 t616, .int .u64 t617], .agg #[.int .u64 t618, .int .u64 t619]] ?_
       with_reducible refine (wide_Add.calls t616 t617 t618 t619 t620 t621 t622 _ A7.out).mono ?_
       rintro e w78 ⟨rfl, hb⟩
       refine ⟨_, rfl, ?_⟩
       replace BK613 := bb_ BK613 hb
       replace BK623 := bb_ BK623 hb
       replace HB := bs_ w hb
       clear hb
       refine hK.out _ _ ⟨(blk_cell BK613.out 0).trans rfl, (blk_cell BK613.out 1).trans rfl, (blk_cell BK613.out 2).trans rfl, (blk_cell BK613.out 3).trans rfl, (blk_cell BK613.out 4).trans rfl, (blk_cell BK613.out 5).trans rfl, (blk_cell BK613.out 6).trans rfl, (blk_cell BK613.out 7).trans rfl⟩ (fun hHeld => ?_)
       clear hK K
       refine nm_ (some 33) ?_
       refine pa_ 13 (some 20) (bl_ 19 81919) HT_ ?_
       refine pa_ 14 (some 34) (bl_ 19 98303) HT_ ?_
       refine pa_ 15 (some 35) (bl_ 19 131071) HT_ ?_
       exact no_ (hCont (gb623) _ ⟨hHeld, (bq_ BK613), (bq_ BK623), GW623.out, GE623.out, NB613_623.out, NB623_613.out, bh_⟩)
     ·refine bs2_ #[.int .u64 0, .int .u64 0] 82 ?_
      intro gb623 hg w75 BK623 hb
      have GW623 := bz_ w hg
      have GE623 := GW623
      have NB613_623 := bn_ BK613 hg
      have NB623_613 := bm_ BK613 hg
      replace BK613 := bb_ BK613 hb
      replace HB := bs_ w hb
      clear hb hg
      refine hK.out _ _ ⟨(blk_cell BK613.out 0).trans rfl, (blk_cell BK613.out 1).trans rfl, (blk_cell BK613.out 2).trans rfl, (blk_cell BK613.out 3).trans rfl, (blk_cell BK613.out 4).trans rfl, (blk_cell BK613.out 5).trans rfl, (blk_cell BK613.out 6).trans rfl, (blk_cell BK613.out 7).trans rfl⟩ (fun hHeld => ?_)
      clear hK K
      refine nm_ (some 8) ?_
      refine oa_ 6 (some 27) (bl_ 19 67583) HT_ fun K hK => ?_
      refine goesB_ Try.func35 #[.int .u64 a1, .int .u64 (IntKind.u64.wrap (a0_1))] ?_
      with_reducible refine (wide_Mul.calls a1 (IntKind.u64.wrap (a0_1)) t616 t617 _ A5.out).mono ?_
      rintro e w76 ⟨rfl, hb⟩
      refine ⟨_, rfl, ?_⟩
      replace BK613 := bb_ BK613 hb
      replace BK623 := bb_ BK623 hb
      replace HB := bs_ w hb
      clear hb
      refine hK.out _ _ ⟨(blk_cell BK613.out 0).trans rfl, (blk_cell BK613.out 1).trans rfl, (blk_cell BK613.out 2).trans rfl, (blk_cell BK613.out 3).trans rfl, (blk_cell BK613.out 4).trans rfl, (blk_cell BK613.out 5).trans rfl, (blk_cell BK613.out 6).trans rfl, (blk_cell BK613.out 7).trans rfl⟩ (fun hHeld => ?_)
      clear hK K
      refine nm_ (some 27) ?_
      refine oa_ 11 (some 32) (bl_ 19 69631) HT_ fun K hK => ?_
      refine goesB_ Try.func36 #[.int .u64 (IntKind.u64.wrap (a0_4))] ?_
      with_reducible refine (wide_Of.calls (IntKind.u64.wrap (a0_4)) t618 t619 _ A6.out).mono ?_
      rintro e w77 ⟨rfl, hb⟩
      refine ⟨_, rfl, ?_⟩
      replace BK613 := bb_ BK613 hb
      replace BK623 := bb_ BK623 hb
      replace HB := bs_ w hb
      clear hb
      refine hK.out _ _ ⟨(blk_cell BK613.out 0).trans rfl, (blk_cell BK613.out 1).trans rfl, (blk_cell BK613.out 2).trans rfl, (blk_cell BK613.out 3).trans rfl, (blk_cell BK613.out 4).trans rfl, (blk_cell BK613.out 5).trans rfl, (blk_cell BK613.out 6).trans rfl, (blk_cell BK613.out 7).trans rfl⟩ (fun hHeld => ?_)
      clear hK K
      refine nm_ (some 32) ?_
      refine oa_ 12 (some 33) (bl_ 19 73727) HT_ fun K hK => ?_
      refine goesB_ Try.func34 #[.agg #[.int .u64 t616, .int .u64 t617], .agg #[.int .u64 t618, .int .u64 t619]] ?_
      with_reducible refine (wide_Add.calls t616 t617 t618 t619 t620 t621 t622 _ A7.out).mono ?_
      rintro e w78 ⟨rfl, hb⟩
      refine ⟨_, rfl, ?_⟩
      replace BK613 := bb_ BK613 hb
      replace BK623 := bb_ BK623 hb
      replace HB := bs_ w hb
      clear hb
      refine hK.out _ _ ⟨(blk_cell BK613.out 0).trans rfl, (blk_cell BK613.out 1).trans rfl, (blk_cell BK613.out 2).trans rfl, (blk_cell BK613.out 3).trans rfl, (blk_cell BK613.out 4).trans rfl, (blk_cell BK613.out 5).trans rfl, (blk_cell BK613.out 6).trans rfl, (blk_cell BK613.out 7).trans rfl⟩ (fun hHeld => ?_)
      clear hK K
      refine nm_ (some 33) ?_
      refine pa_ 13 (some 20) (bl_ 19 81919) HT_ ?_
      refine pa_ 14 (some 34) (bl_ 19 98303) HT_ ?_
      refine pa_ 15 (some 35) (bl_ 19 131071) HT_ ?_
      exact no_ (hCont (gb623) _ ⟨hHeld, (bq_ BK613), (bq_ BK623), GW623.out, GE623.out, NB613_623.out, NB623_613.out, bh_⟩)
    rintro gb623 w79 ⟨hS_, h0_, h1_, h2_, h3_, h4_, h5_, h6_⟩
    have BK623 := Aside0.mk h1_
    have GW623 := Aside0.mk h2_
    have GE623 := Aside0.mk h3_
    have NB613_623 := Aside0.mk h4_
    have NB623_613 := Aside0.mk h5_
    replace BK613 := Aside0.mk h0_
    replace HB := Aside0.mk h6_
    clear h0_ h1_ h2_ h3_ h4_ h5_ h6_
    have hHeld := hS_
    refine nq_ ?_
    refine oa_ 17 none (bl_ 19 262143) HT_ fun K hK => ?_
    have hs80 : w79.cell? ⟨gb623, 0, none⟩ = some (.int .u64 0) := (blk_cell BK623.out 0).trans rfl
    have hfs80 := blk_frozen BK623.out 0
    have hns80_0 := NB613_623.out
    have hms80_0 := NB623_613.out
    have hs81 : w79.cell? ⟨gb623, 1, none⟩ = some (.int .u64 0) := (blk_cell BK623.out 1).trans rfl
    have hfs81 := blk_frozen BK623.out 1
    have hns81_0 := NB613_623.out
    have hms81_0 := NB623_613.out
    refine sk_ ?_
    refine hK.out _ _ ⟨((cell_far (p := ⟨gb623, _, none⟩) NB613_623.out _).trans (((cell_far (p := ⟨gb623, _, none⟩) NB613_623.out _).trans (hHeld.1)))), ((cell_far (p := ⟨gb623, _, none⟩) NB613_623.out _).trans (((cell_far (p := ⟨gb623, _, none⟩) NB613_623.out _).trans (hHeld.2.1)))), ((cell_far (p := ⟨gb623, _, none⟩) NB613_623.out _).trans (((cell_far (p := ⟨gb623, _, none⟩) NB613_623.out _).trans (hHeld.2.2.1)))), ((cell_far (p := ⟨gb623, _, none⟩) NB613_623.out _).trans (((cell_far (p := ⟨gb623, _, none⟩) NB613_623.out _).trans (hHeld.2.2.2.1)))), ((cell_far (p := ⟨gb623, _, none⟩) NB613_623.out _).trans (((cell_far (p := ⟨gb623, _, none⟩) NB613_623.out _).trans (hHeld.2.2.2.2.1)))), ((cell_far (p := ⟨gb623, _, none⟩) NB613_623.out _).trans (((cell_far (p := ⟨gb623, _, none⟩) NB613_623.out _).trans (hHeld.2.2.2.2.2.1)))), ((cell_far (p := ⟨gb623, _, none⟩) NB613_623.out _).trans (((cell_far (p := ⟨gb623, _, none⟩) NB613_623.out _).trans (hHeld.2.2.2.2.2.2.1)))), ((cell_far (p := ⟨gb623, _, none⟩) NB613_623.out _).trans (((cell_far (p := ⟨gb623, _, none⟩) NB613_623.out _).trans (hHeld.2.2.2.2.2.2.2))))⟩ (fun hHeld => ?_)
    clear hK K
    refine pa_ 18 (some 7) (bl_ 19 524287) HT_ ?_
    refine done_ (done_of HT_.out (by kernel_rfl)) ?_
    replace hn623_613 := NB623_613.out
    replace hn613_623 := NB613_623.out
    replace hc623 := ce2_ BK623
    replace hc613 := ce8_ BK613
    try go_wp2_with (first | ((with_reducible refine gate_callee (f := 37) rfl ?_); refine goesA_ (some 46) Try.func37 #[.agg #[.int .u64 t620, .int .u64 t621], .int .u64 (IntKind.u64.wrap (a0_2))] ?_; (with_reducible refine (wide_Div.calls k t620 t621 (IntKind.u64.wrap (a0_2)) t624 t625 t626 t627 _ A9.out).mono ?_); rintro e w85 ⟨rfl, hb⟩; refine ⟨_, rfl, ?_⟩; replace BK613 := bf_ BK613 hb; replace BK623 := Aside0.mk (blk_below (g := gb623) (o := .cells #[.int .u64 t620, .int .u64 t621] 82 (0, 0)) (bp2_ (bq_ BK623)) hb); replace HB := bs_ w hb; clear hb) | ((with_reducible refine gate_dst (N := 9) rfl ?_); refine bx_ #[.int .u64 0, .int .u64 0] 82 ?_; intro gb628 hg w86 BK628 hb; have GW628 := bz_ w hg; have GE628 := GW628; have NB613_628 := bn_ BK613 hg; have NB628_613 := bm_ BK613 hg; have NB623_628 := bn_ BK623 hg; have NB628_623 := bm_ BK623 hg; replace BK613 := bb_ BK613 hb; replace BK623 := bb_ BK623 hb; replace HB := bs_ w hb; clear hb hg; replace hn628_613 := NB628_613.out; replace hn613_628 := NB613_628.out; replace hn628_623 := NB628_623.out; replace hn623_628 := NB623_628.out; replace hc628 := ce2_ BK628))
    go_ret2
    exact fi_
  ·rw [if_neg c8] at H
   have c8b0 : (t622 == 0) = false := beq_eq_false_iff_ne.mpr c8
   have c8b1 : (t622 != 0) = true := bne_iff_ne.mpr c8
   simp only [Option.some.injEq, Prod.mk.injEq] at H
   obtain ⟨rfl, rfl⟩ := H
   go_enter Try.func25, Try.ntmps25
   try go_wp2_with (first | ((with_reducible refine gate_dst (N := 2) rfl ?_); refine bx_ #[.int .i64 a0_0, .int .i64 a0_1, .int .i64 a0_2, .int .i64 a0_3, .int .i64 a0_4, .int .u64 a0_5, .int .i64 a0_6, .slice A0_7 l0_7.length c0_7] 29 ?_; intro gb613 hg w90 BK613 hb; have GW613 := bz_ w hg; have GE613 := GW613; replace HB := bs_ w hb; clear hb hg; replace hc613 := ce8_ BK613) | ((with_reducible refine gate_callee (f := 15) rfl ?_); refine goesA_ (some 14) Try.func15 #[.agg #[.int .i64 a0_0, .int .i64 a0_1, .int .i64 a0_2, .int .i64 a0_3, .int .i64 a0_4, .int .u64 a0_5, .int .i64 a0_6, .slice A0_7 l0_7.length c0_7]] ?_; (with_reducible refine (lease_Out.calls k a0_0 a0_1 a0_2 a0_3 a0_4 a0_5 a0_6 _ _ l0_7 t614 t615 _ ?side1 ?side2 A3.out).mono ?_); (case side1 => exact cs_ HR0_7 HB); (case side2 => exact HC0_7.out); rintro e w92 ⟨rfl, hb⟩; refine ⟨_, rfl, ?_⟩; replace BK613 := bb_ BK613 hb; replace HB := bs_ w hb; clear hb))
   replace BK613 := Aside0.mk (blk_drew BK613.out)
   replace HB := Aside0.mk (below_drew1 HB.out)
   refine start_ (n := 19) (S := fun w' => w'.cell? ⟨gb613, 0, none⟩ = some (.int .i64 a0_0) ∧ w'.cell? ⟨gb613, 1, none⟩ = some (.int .i64 a0_1) ∧ w'.cell? ⟨gb613, 2, none⟩ = some (.int .i64 a0_2) ∧ w'.cell? ⟨gb613, 3, none⟩ = some (.int .i64 a0_3) ∧ w'.cell? ⟨gb613, 4, none⟩ = some (.int .i64 a0_4) ∧ w'.cell? ⟨gb613, 5, none⟩ = some (.int .u64 a0_5) ∧ w'.cell? ⟨gb613, 6, none⟩ = some (.int .i64 a0_6) ∧ w'.cell? ⟨gb613, 7, none⟩ = some (.slice A0_7 l0_7.length c0_7)) (ds := []) (bl_ 19 0) (by kernel_rfl) rfl (by kernel_rfl) ⟨(blk_cell BK613.out 0).trans rfl, (blk_cell BK613.out 1).trans rfl, (blk_cell BK613.out 2).trans rfl, (blk_cell BK613.out 3).trans rfl, (blk_cell BK613.out 4).trans rfl, (blk_cell BK613.out 5).trans rfl, (blk_cell BK613.out 6).trans rfl, (blk_cell BK613.out 7).trans rfl⟩ (fun hHeld => ?_); refine with_tabW lease_Bound.tab4 lease_Bound.bits4 (fun HT_ HW_ => ?_)
   generalize w92.drew = w93 at BK613 HB hHeld ⊢
   refine pa_ 0 (some 21) (bl_ 19 1) HT_ ?_
   refine pa_ 1 (some 22) (bl_ 19 3) HT_ ?_
   refine pa_ 2 (some 23) (bl_ 19 7) HT_ ?_
   refine pa_ 3 (some 24) (bl_ 19 15) HT_ ?_
   refine pa_ 7 (some 28) (bl_ 19 143) HT_ ?_
   refine pa_ 8 (some 29) (bl_ 19 399) HT_ ?_
   refine ta_ 4 (some 25) (bl_ 19 415) HT_ HW_ hHeld ?_
   refine pa_ 5 (some 26) (bl_ 19 447) HT_ ?_
   refine ta_ 9 (some 30) (bl_ 19 959) HT_ HW_ hHeld ?_
   refine pa_ 10 (some 31) (bl_ 19 1983) HT_ ?_
   refine join_ (σ := Nat) 2 (bl_ 19 131071) (fun s_ => [(27, .agg #[.int .u64 t616, .int .u64 t617]), (32, .agg #[.int .u64 t618, .int .u64 t619]), (33, .tuple #[.agg #[.int .u64 t620, .int .u64 t621], .int .i64 t622]), (8, .pointer (some ⟨s_, 0, none⟩)), (20, .tuple #[.agg #[.int .u64 t620, .int .u64 t621], .int .i64 t622]), (34, .agg #[.int .u64 t620, .int .u64 t621]), (35, .int .i64 t622)]) (fun s_ w' => (w'.cell? ⟨gb613, 0, none⟩ = some (.int .i64 a0_0) ∧ w'.cell? ⟨gb613, 1, none⟩ = some (.int .i64 a0_1) ∧ w'.cell? ⟨gb613, 2, none⟩ = some (.int .i64 a0_2) ∧ w'.cell? ⟨gb613, 3, none⟩ = some (.int .i64 a0_3) ∧ w'.cell? ⟨gb613, 4, none⟩ = some (.int .i64 a0_4) ∧ w'.cell? ⟨gb613, 5, none⟩ = some (.int .u64 a0_5) ∧ w'.cell? ⟨gb613, 6, none⟩ = some (.int .i64 a0_6) ∧ w'.cell? ⟨gb613, 7, none⟩ = some (.slice A0_7 l0_7.length c0_7)) ∧ (w'.heap[gb613]? = some (.cells #[.int .i64 a0_0, .int .i64 a0_1, .int .i64 a0_2, .int .i64 a0_3, .int .i64 a0_4, .int .u64 a0_5, .int .i64 a0_6, .slice A0_7 l0_7.length c0_7] 29 (0, 0))) ∧ (w'.heap[s_]? = some (.cells #[.int .u64 0, .int .u64 0] 82 (0, 0))) ∧ (w.heap.size ≤ s_) ∧ (w.heap.size ≤ s_) ∧ (gb613 ≠ s_) ∧ (s_ ≠ gb613) ∧ (Below w.heap.size w w')) ?_ ?_
   rotate_left
   ·intro hCont
    refine tw_ 6 16 (some 27) (some 8) (bl_ 19 2047) (bl_ 19 67519) HT_ (fun K hK => ?_) fun K hK => ?_
    ·refine goesB_ Try.func35 #[.int .u64 a1, .int .u64 (IntKind.u64.wrap (a0_1))] ?_
     with_reducible refine (wide_Mul.calls a1 (IntKind.u64.wrap (a0_1)) t616 t617 _ A5.out).mono ?_
     rintro e w94 ⟨rfl, hb⟩
     refine ⟨_, rfl, ?_⟩
     replace BK613 := bb_ BK613 hb
     replace HB := bs_ w hb
     clear hb
     refine hK.out _ _ ⟨(blk_cell BK613.out 0).trans rfl, (blk_cell BK613.out 1).trans rfl, (blk_cell BK613.out 2).trans rfl, (blk_cell BK613.out 3).trans rfl, (blk_cell BK613.out 4).trans rfl, (blk_cell BK613.out 5).trans rfl, (blk_cell BK613.out 6).trans rfl, (blk_cell BK613.out 7).trans rfl⟩ (fun hHeld => ?_)
     clear hK K
     refine nm_ (some 27) ?_
     refine tw_ 11 16 (some 32) (some 8) (bl_ 19 4095) (bl_ 19 67583) HT_ (fun K hK => ?_) fun K hK => ?_
     ·refine goesB_ Try.func36 #[.int .u64 (IntKind.u64.wrap (a0_4))] ?_
      with_reducible refine (wide_Of.calls (IntKind.u64.wrap (a0_4)) t618 t619 _ A6.out).mono ?_
      rintro e w95 ⟨rfl, hb⟩
      refine ⟨_, rfl, ?_⟩
      replace BK613 := bb_ BK613 hb
      replace HB := bs_ w hb
      clear hb
      refine hK.out _ _ ⟨(blk_cell BK613.out 0).trans rfl, (blk_cell BK613.out 1).trans rfl, (blk_cell BK613.out 2).trans rfl, (blk_cell BK613.out 3).trans rfl, (blk_cell BK613.out 4).trans rfl, (blk_cell BK613.out 5).trans rfl, (blk_cell BK613.out 6).trans rfl, (blk_cell BK613.out 7).trans rfl⟩ (fun hHeld => ?_)
      clear hK K
      refine nm_ (some 32) ?_
      refine tw_ 12 16 (some 33) (some 8) (bl_ 19 8191) (bl_ 19 69631) HT_ (fun K hK => ?_) fun K hK => ?_
      ·refine goesB_ Try.func34 #[.agg #[.int .u64 t616, .int .u64 t617], .agg #[.int .u64 t618, .int .u64 t619]] ?_
       with_reducible refine (wide_Add.calls t616 t617 t618 t619 t620 t621 t622 _ A7.out).mono ?_
       rintro e w96 ⟨rfl, hb⟩
       refine ⟨_, rfl, ?_⟩
       replace BK613 := bb_ BK613 hb
       replace HB := bs_ w hb
       clear hb
       refine hK.out _ _ ⟨(blk_cell BK613.out 0).trans rfl, (blk_cell BK613.out 1).trans rfl, (blk_cell BK613.out 2).trans rfl, (blk_cell BK613.out 3).trans rfl, (blk_cell BK613.out 4).trans rfl, (blk_cell BK613.out 5).trans rfl, (blk_cell BK613.out 6).trans rfl, (blk_cell BK613.out 7).trans rfl⟩ (fun hHeld => ?_)
       clear hK K
       refine nm_ (some 33) ?_
       refine pa_ 13 (some 20) (bl_ 19 16383) HT_ ?_
       refine pa_ 14 (some 34) (bl_ 19 32767) HT_ ?_
       refine pa_ 15 (some 35) (bl_ 19 65535) HT_ ?_
       refine oa_ 16 (some 8) (bl_ 19 131071) HT_ fun K hK => ?_
       refine bs2_ #[.int .u64 0, .int .u64 0] 82 ?_
       intro gb623 hg w97 BK623 hb
       have GW623 := bz_ w hg
       have GE623 := GW623
       have NB613_623 := bn_ BK613 hg
       have NB623_613 := bm_ BK613 hg
       replace BK613 := bb_ BK613 hb
       replace HB := bs_ w hb
       clear hb hg
       refine hK.out _ _ ⟨(blk_cell BK613.out 0).trans rfl, (blk_cell BK613.out 1).trans rfl, (blk_cell BK613.out 2).trans rfl, (blk_cell BK613.out 3).trans rfl, (blk_cell BK613.out 4).trans rfl, (blk_cell BK613.out 5).trans rfl, (blk_cell BK613.out 6).trans rfl, (blk_cell BK613.out 7).trans rfl⟩ (fun hHeld => ?_)
       clear hK K
       refine nm_ (some 8) ?_
       exact no_ (hCont (gb623) _ ⟨hHeld, (bq_ BK613), (bq_ BK623), GW623.out, GE623.out, NB613_623.out, NB623_613.out, bh_⟩)
      ·refine bs2_ #[.int .u64 0, .int .u64 0] 82 ?_
       intro gb623 hg w96 BK623 hb
       have GW623 := bz_ w hg
       have GE623 := GW623
       have NB613_623 := bn_ BK613 hg
       have NB623_613 := bm_ BK613 hg
       replace BK613 := bb_ BK613 hb
       replace HB := bs_ w hb
       clear hb hg
       refine hK.out _ _ ⟨(blk_cell BK613.out 0).trans rfl, (blk_cell BK613.out 1).trans rfl, (blk_cell BK613.out 2).trans rfl, (blk_cell BK613.out 3).trans rfl, (blk_cell BK613.out 4).trans rfl, (blk_cell BK613.out 5).trans rfl, (blk_cell BK613.out 6).trans rfl, (blk_cell BK613.out 7).trans rfl⟩ (fun hHeld => ?_)
       clear hK K
       refine nm_ (some 8) ?_
       refine oa_ 12 (some 33) (bl_ 19 73727) HT_ fun K hK => ?_
       refine goesB_ Try.func34 #[.agg #[.int .u64 t616, .int .u64 t617], .agg #[.int .u64 t618, .int .u64 t619]] ?_
       with_reducible refine (wide_Add.calls t616 t617 t618 t619 t620 t621 t622 _ A7.out).mono ?_
       rintro e w97 ⟨rfl, hb⟩
       refine ⟨_, rfl, ?_⟩
       replace BK613 := bb_ BK613 hb
       replace BK623 := bb_ BK623 hb
       replace HB := bs_ w hb
       clear hb
       refine hK.out _ _ ⟨(blk_cell BK613.out 0).trans rfl, (blk_cell BK613.out 1).trans rfl, (blk_cell BK613.out 2).trans rfl, (blk_cell BK613.out 3).trans rfl, (blk_cell BK613.out 4).trans rfl, (blk_cell BK613.out 5).trans rfl, (blk_cell BK613.out 6).trans rfl, (blk_cell BK613.out 7).trans rfl⟩ (fun hHeld => ?_)
       clear hK K
       refine nm_ (some 33) ?_
       refine pa_ 13 (some 20) (bl_ 19 81919) HT_ ?_
       refine pa_ 14 (some 34) (bl_ 19 98303) HT_ ?_
       refine pa_ 15 (some 35) (bl_ 19 131071) HT_ ?_
       exact no_ (hCont (gb623) _ ⟨hHeld, (bq_ BK613), (bq_ BK623), GW623.out, GE623.out, NB613_623.out, NB623_613.out, bh_⟩)
     ·refine bs2_ #[.int .u64 0, .int .u64 0] 82 ?_
      intro gb623 hg w95 BK623 hb
      have GW623 := bz_ w hg
      have GE623 := GW623
      have NB613_623 := bn_ BK613 hg
      have NB623_613 := bm_ BK613 hg
      replace BK613 := bb_ BK613 hb
      replace HB := bs_ w hb
      clear hb hg
      refine hK.out _ _ ⟨(blk_cell BK613.out 0).trans rfl, (blk_cell BK613.out 1).trans rfl, (blk_cell BK613.out 2).trans rfl, (blk_cell BK613.out 3).trans rfl, (blk_cell BK613.out 4).trans rfl, (blk_cell BK613.out 5).trans rfl, (blk_cell BK613.out 6).trans rfl, (blk_cell BK613.out 7).trans rfl⟩ (fun hHeld => ?_)
      clear hK K
      refine nm_ (some 8) ?_
      refine oa_ 11 (some 32) (bl_ 19 69631) HT_ fun K hK => ?_
      refine goesB_ Try.func36 #[.int .u64 (IntKind.u64.wrap (a0_4))] ?_
      with_reducible refine (wide_Of.calls (IntKind.u64.wrap (a0_4)) t618 t619 _ A6.out).mono ?_
      rintro e w96 ⟨rfl, hb⟩
      refine ⟨_, rfl, ?_⟩
      replace BK613 := bb_ BK613 hb
      replace BK623 := bb_ BK623 hb
      replace HB := bs_ w hb
      clear hb
      refine hK.out _ _ ⟨(blk_cell BK613.out 0).trans rfl, (blk_cell BK613.out 1).trans rfl, (blk_cell BK613.out 2).trans rfl, (blk_cell BK613.out 3).trans rfl, (blk_cell BK613.out 4).trans rfl, (blk_cell BK613.out 5).trans rfl, (blk_cell BK613.out 6).trans rfl, (blk_cell BK613.out 7).trans rfl⟩ (fun hHeld => ?_)
      clear hK K
      refine nm_ (some 32) ?_
      refine oa_ 12 (some 33) (bl_ 19 73727) HT_ fun K hK => ?_
      refine goesB_ Try.func34 #[.agg #[.int .u64 t616, .int .u64 t617], .agg #[.int .u64 t618, .int .u64 t619]] ?_
      with_reducible refine (wide_Add.calls t616 t617 t618 t619 t620 t621 t622 _ A7.out).mono ?_
      rintro e w97 ⟨rfl, hb⟩
      refine ⟨_, rfl, ?_⟩
      replace BK613 := bb_ BK613 hb
      replace BK623 := bb_ BK623 hb
      replace HB := bs_ w hb
      clear hb
      refine hK.out _ _ ⟨(blk_cell BK613.out 0).trans rfl, (blk_cell BK613.out 1).trans rfl, (blk_cell BK613.out 2).trans rfl, (blk_cell BK613.out 3).trans rfl, (blk_cell BK613.out 4).trans rfl, (blk_cell BK613.out 5).trans rfl, (blk_cell BK613.out 6).trans rfl, (blk_cell BK613.out 7).trans rfl⟩ (fun hHeld => ?_)
      clear hK K
      refine nm_ (some 33) ?_
      refine pa_ 13 (some 20) (bl_ 19 81919) HT_ ?_
      refine pa_ 14 (some 34) (bl_ 19 98303) HT_ ?_
      refine pa_ 15 (some 35) (bl_ 19 131071) HT_ ?_
      exact no_ (hCont (gb623) _ ⟨hHeld, (bq_ BK613), (bq_ BK623), GW623.out, GE623.out, NB613_623.out, NB623_613.out, bh_⟩)
    ·refine bs2_ #[.int .u64 0, .int .u64 0] 82 ?_
     intro gb623 hg w94 BK623 hb
     have GW623 := bz_ w hg
     have GE623 := GW623
     have NB613_623 := bn_ BK613 hg
     have NB623_613 := bm_ BK613 hg
     replace BK613 := bb_ BK613 hb
     replace HB := bs_ w hb
     clear hb hg
     refine hK.out _ _ ⟨(blk_cell BK613.out 0).trans rfl, (blk_cell BK613.out 1).trans rfl, (blk_cell BK613.out 2).trans rfl, (blk_cell BK613.out 3).trans rfl, (blk_cell BK613.out 4).trans rfl, (blk_cell BK613.out 5).trans rfl, (blk_cell BK613.out 6).trans rfl, (blk_cell BK613.out 7).trans rfl⟩ (fun hHeld => ?_)
     clear hK K
     refine nm_ (some 8) ?_
     refine oa_ 6 (some 27) (bl_ 19 67583) HT_ fun K hK => ?_
     refine goesB_ Try.func35 #[.int .u64 a1, .int .u64 (IntKind.u64.wrap (a0_1))] ?_
     with_reducible refine (wide_Mul.calls a1 (IntKind.u64.wrap (a0_1)) t616 t617 _ A5.out).mono ?_
     rintro e w95 ⟨rfl, hb⟩
     refine ⟨_, rfl, ?_⟩
     replace BK613 := bb_ BK613 hb
     replace BK623 := bb_ BK623 hb
     replace HB := bs_ w hb
     clear hb
     refine hK.out _ _ ⟨(blk_cell BK613.out 0).trans rfl, (blk_cell BK613.out 1).trans rfl, (blk_cell BK613.out 2).trans rfl, (blk_cell BK613.out 3).trans rfl, (blk_cell BK613.out 4).trans rfl, (blk_cell BK613.out 5).trans rfl, (blk_cell BK613.out 6).trans rfl, (blk_cell BK613.out 7).trans rfl⟩ (fun hHeld => ?_)
     clear hK K
     refine nm_ (some 27) ?_
     refine oa_ 11 (some 32) (bl_ 19 69631) HT_ fun K hK => ?_
     refine goesB_ Try.func36 #[.int .u64 (IntKind.u64.wrap (a0_4))] ?_
     with_reducible refine (wide_Of.calls (IntKind.u64.wrap (a0_4)) t618 t619 _ A6.out).mono ?_
     rintro e w96 ⟨rfl, hb⟩
     refine ⟨_, rfl, ?_⟩
     replace BK613 := bb_ BK613 hb
     replace BK623 := bb_ BK623 hb
     replace HB := bs_ w hb
     clear hb
     refine hK.out _ _ ⟨(blk_cell BK613.out 0).trans rfl, (blk_cell BK613.out 1).trans rfl, (blk_cell BK613.out 2).trans rfl, (blk_cell BK613.out 3).trans rfl, (blk_cell BK613.out 4).trans rfl, (blk_cell BK613.out 5).trans rfl, (blk_cell BK613.out 6).trans rfl, (blk_cell BK613.out 7).trans rfl⟩ (fun hHeld => ?_)
     clear hK K
     refine nm_ (some 32) ?_
     refine oa_ 12 (some 33) (bl_ 19 73727) HT_ fun K hK => ?_
     refine goesB_ Try.func34 #[.agg #[.int .u64 t616, .int .u64 t617], .agg #[.int .u64 t618, .int .u64 t619]] ?_
     with_reducible refine (wide_Add.calls t616 t617 t618 t619 t620 t621 t622 _ A7.out).mono ?_
     rintro e w97 ⟨rfl, hb⟩
     refine ⟨_, rfl, ?_⟩
     replace BK613 := bb_ BK613 hb
     replace BK623 := bb_ BK623 hb
     replace HB := bs_ w hb
     clear hb
     refine hK.out _ _ ⟨(blk_cell BK613.out 0).trans rfl, (blk_cell BK613.out 1).trans rfl, (blk_cell BK613.out 2).trans rfl, (blk_cell BK613.out 3).trans rfl, (blk_cell BK613.out 4).trans rfl, (blk_cell BK613.out 5).trans rfl, (blk_cell BK613.out 6).trans rfl, (blk_cell BK613.out 7).trans rfl⟩ (fun hHeld => ?_)
     clear hK K
     refine nm_ (some 33) ?_
     refine pa_ 13 (some 20) (bl_ 19 81919) HT_ ?_
     refine pa_ 14 (some 34) (bl_ 19 98303) HT_ ?_
     refine pa_ 15 (some 35) (bl_ 19 131071) HT_ ?_
     exact no_ (hCont (gb623) _ ⟨hHeld, (bq_ BK613), (bq_ BK623), GW623.out, GE623.out, NB613_623.out, NB623_613.out, bh_⟩)
   rintro gb623 w98 ⟨hS_, h0_, h1_, h2_, h3_, h4_, h5_, h6_⟩
   have BK623 := Aside0.mk h1_
   have GW623 := Aside0.mk h2_
   have GE623 := Aside0.mk h3_
   have NB613_623 := Aside0.mk h4_
   have NB623_613 := Aside0.mk h5_
   replace BK613 := Aside0.mk h0_
   replace HB := Aside0.mk h6_
   clear h0_ h1_ h2_ h3_ h4_ h5_ h6_
   have hHeld := hS_
   refine nq_ ?_
   refine oa_ 17 none (bl_ 19 262143) HT_ fun K hK => ?_
   have hs99 : w98.cell? ⟨gb623, 0, none⟩ = some (.int .u64 0) := (blk_cell BK623.out 0).trans rfl
   have hfs99 := blk_frozen BK623.out 0
   have hns99_0 := NB613_623.out
   have hms99_0 := NB623_613.out
   have hs100 : w98.cell? ⟨gb623, 1, none⟩ = some (.int .u64 0) := (blk_cell BK623.out 1).trans rfl
   have hfs100 := blk_frozen BK623.out 1
   have hns100_0 := NB613_623.out
   have hms100_0 := NB623_613.out
   refine sk_ ?_
   refine hK.out _ _ ⟨((cell_far (p := ⟨gb623, _, none⟩) NB613_623.out _).trans (((cell_far (p := ⟨gb623, _, none⟩) NB613_623.out _).trans (hHeld.1)))), ((cell_far (p := ⟨gb623, _, none⟩) NB613_623.out _).trans (((cell_far (p := ⟨gb623, _, none⟩) NB613_623.out _).trans (hHeld.2.1)))), ((cell_far (p := ⟨gb623, _, none⟩) NB613_623.out _).trans (((cell_far (p := ⟨gb623, _, none⟩) NB613_623.out _).trans (hHeld.2.2.1)))), ((cell_far (p := ⟨gb623, _, none⟩) NB613_623.out _).trans (((cell_far (p := ⟨gb623, _, none⟩) NB613_623.out _).trans (hHeld.2.2.2.1)))), ((cell_far (p := ⟨gb623, _, none⟩) NB613_623.out _).trans (((cell_far (p := ⟨gb623, _, none⟩) NB613_623.out _).trans (hHeld.2.2.2.2.1)))), ((cell_far (p := ⟨gb623, _, none⟩) NB613_623.out _).trans (((cell_far (p := ⟨gb623, _, none⟩) NB613_623.out _).trans (hHeld.2.2.2.2.2.1)))), ((cell_far (p := ⟨gb623, _, none⟩) NB613_623.out _).trans (((cell_far (p := ⟨gb623, _, none⟩) NB613_623.out _).trans (hHeld.2.2.2.2.2.2.1)))), ((cell_far (p := ⟨gb623, _, none⟩) NB613_623.out _).trans (((cell_far (p := ⟨gb623, _, none⟩) NB613_623.out _).trans (hHeld.2.2.2.2.2.2.2))))⟩ (fun hHeld => ?_)
   clear hK K
   refine pa_ 18 (some 7) (bl_ 19 524287) HT_ ?_
   refine done_ (done_of HT_.out (by kernel_rfl)) ?_
   try go_wp2
   go_ret2
   exact fi_
 ·rw [if_neg c4] at H
  have c4b0 : (t615 == 0) = false := beq_eq_false_iff_ne.mpr c4
  have c4b1 : (t615 != 0) = true := bne_iff_ne.mpr c4
  simp only [Option.some.injEq, Prod.mk.injEq] at H
  obtain ⟨rfl, rfl⟩ := H
  go_enter Try.func25, Try.ntmps25
  go_wp2_with (first | ((with_reducible refine gate_dst (N := 2) rfl ?_); refine bx_ #[.int .i64 a0_0, .int .i64 a0_1, .int .i64 a0_2, .int .i64 a0_3, .int .i64 a0_4, .int .u64 a0_5, .int .i64 a0_6, .slice A0_7 l0_7.length c0_7] 29 ?_; intro gb613 hg w101 BK613 hb; have GW613 := bz_ w hg; have GE613 := GW613; replace HB := bs_ w hb; clear hb hg; replace hc613 := ce8_ BK613) | ((with_reducible refine gate_callee (f := 15) rfl ?_); refine goesA_ (some 14) Try.func15 #[.agg #[.int .i64 a0_0, .int .i64 a0_1, .int .i64 a0_2, .int .i64 a0_3, .int .i64 a0_4, .int .u64 a0_5, .int .i64 a0_6, .slice A0_7 l0_7.length c0_7]] ?_; (with_reducible refine (lease_Out.calls k a0_0 a0_1 a0_2 a0_3 a0_4 a0_5 a0_6 _ _ l0_7 t614 t615 _ ?side1 ?side2 A3.out).mono ?_); (case side1 => exact cs_ HR0_7 HB); (case side2 => exact HC0_7.out); rintro e w103 ⟨rfl, hb⟩; refine ⟨_, rfl, ?_⟩; replace BK613 := bb_ BK613 hb; replace HB := bs_ w hb; clear hb))
  go_ret2
  exact fi_

end Go.Proofs.Ytbfdpodlnijeoaa.X
