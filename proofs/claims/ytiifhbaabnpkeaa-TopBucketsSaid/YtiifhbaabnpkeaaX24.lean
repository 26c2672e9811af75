-- written by xprint.py, a program of this session over the kit's print
import Derived.Test.YtiifhbaabnpkeaaX0
import Derived.Test.YtiifhbaabnpkeaaX3
import Derived.Test.YtiifhbaabnpkeaaX5
import Derived.Test.YtiifhbaabnpkeaaX22
import Derived.Test.YtiifhbaabnpkeaaX23
namespace Go.Proofs.Ytiifhbaabnpkeaa.X
open Go.RowKit Go.Proofs.YtiifhbaabnpkeaaW.PrintWords Go.Proofs.YtiifhbaabnpkeaaW.PrintLast Go.Proofs.YtiifhbaabnpkeaaW.PrintMore
attribute [local go_sem] max2_int min2_int max_two min_two max_three min_three max_four min_four   -- for this text's walks alone
set_option linter.unusedVariables false
set_option linter.unusedSimpArgs false

/-! ### bucket_Wait: function 40 -/
def bucket_Wait.f (k : Nat) (a0_0 : Int) (a0_1 : Int) (a0_2 : Int) (a0_3 : Int) (a0_4 : Int) (a0_5 : Int) (a1 : Int) : Option (Int × Int) := (bucket_Check.f a0_0 a0_1 a0_2 a0_3 a0_4 a0_5).bind fun t302 => (if t302 = 0 then (if a1 < 0 then (some (0, 2)) else (if a1 ≤ a0_3 then (some (0, 0)) else (if a1 > a0_0 then (some (18446744073709551615, 0)) else (if a0_1 = 0 then (some (18446744073709551615, 0)) else ((wide_Mul.f (IntKind.u64.wrap (wrap64 (a1 - a0_3))) (IntKind.u64.wrap (a0_2))).bind fun bt303 => ((wide_Of.f (IntKind.u64.wrap (a0_4))).bind fun bt305 => ((wide_Sub.f bt303.1 bt303.2 bt305.1 bt305.2).bind fun bt307 => ((wide_Up.f k bt307.1 bt307.2.1 (IntKind.u64.wrap (a0_1))).bind fun bt311 => ((wide_Small.f bt311.1 bt311.2.1).bind fun bt315 => (if bt315.2 = 0 then (if bt315.1 > (IntKind.u64.wrap (18446744073709551615 - a0_5)) then (some (18446744073709551615, 0)) else (some (bt315.1, 0))) else (some (18446744073709551615, 0)))))))))))) else (some (0, t302)))
theorem bucket_Wait.mono : ∀ a0 a1 a2 a3 a4 a5 a6 k, LeO (bucket_Wait.f k a0 a1 a2 a3 a4 a5 a6) (bucket_Wait.f (k + 1) a0 a1 a2 a3 a4 a5 a6) := by
  intro a0 a1 a2 a3 a4 a5 a6 k
  unfold bucket_Wait.f
  repeat' first
      | (with_reducible exact wide_Up.mono _ _ _ _)
      | (with_reducible exact LeO.refl _)
      | (with_reducible exact LeO.none _)
      | (with_reducible refine LeO.ite ?_ ?_)
      | (with_reducible refine LeO.bind ?_ (fun _ => ?_))
      | exact wide_Up.mono _ _ _ _
      | exact LeO.none _
      | refine LeO.ite ?_ ?_
      | refine LeO.bind ?_ (fun _ => ?_)
def bucket_Wait.T10 : Bool × List (List Nat × List Nat) := (true, [([], []), ([], []), ([1], [1]), ([0, 2], [0, 2]), ([3], [3]), ([], []), ([5], [5]), ([6], [6]), ([7], [7]), ([4, 8], [4, 8]), ([], []), ([10], [10]), ([11], [11]), ([12, 9], [12]), ([9, 13, 13], [9, 13]), ([14], [14]), ([15], [15]), ([15], [15]), ([], []), ([18, 16, 14, 0, 1, 2, 3, 4, 5, 6, 7, 8, 9, 10, 11, 12, 13, 14, 15, 16, 18], [16, 18]), ([17, 19, 0, 1, 2, 3, 4, 5, 6, 7, 8, 9, 10, 11, 12, 13, 14, 15, 16, 17, 18, 19], [17])])
def bucket_Wait.B10 : List Nat := [0, 0, 2, 7, 15, 0, 32, 96, 224, 511, 0, 1024, 3072, 8191, 16383, 32767, 65535, 65535, 0, 393215, 1048575]
theorem bucket_Wait.tab10 : rtab .any (opsOf Try.f40 10) = bucket_Wait.T10 := by kernel_rfl
theorem bucket_Wait.bits10 : waitsOk bucket_Wait.T10.2 bucket_Wait.B10 = true := by kernel_rfl
set_option maxHeartbeats 8000000 in
set_option maxRecDepth 100000 in
theorem bucket_Wait.calls (k : Nat) (a0_0 : Int) (a0_1 : Int) (a0_2 : Int) (a0_3 : Int) (a0_4 : Int) (a0_5 : Int) (a1 : Int) (r1 : Int) (r2 : Int) (w : World) (h : bucket_Wait.f k a0_0 a0_1 a0_2 a0_3 a0_4 a0_5 a1 = some (r1, r2)) :
  Calls Try.prog 40 #[.agg #[.int .i64 a0_0, .int .i64 a0_1, .int .i64 a0_2, .int .i64 a0_3, .int .i64 a0_4, .int .u64 a0_5], .int .i64 a1] w fun e w' => e = .returned (.tuple #[.int .u64 r1, .int .i64 r2]) ∧ Below w.heap.size w w' := by
 have hu32 := Try.underlying32
 have hu59 := Try.underlying59
 have HB := Aside0.mk (Below.refl w.heap.size w)
 have H : ((bucket_Check.f a0_0 a0_1 a0_2 a0_3 a0_4 a0_5).bind fun t302 => (if t302 = 0 then (if a1 < 0 then (some (0, 2)) else (if a1 ≤ a0_3 then (some (0, 0)) else (if a1 > a0_0 then (some (18446744073709551615, 0)) else (if a0_1 = 0 then (some (18446744073709551615, 0)) else ((wide_Mul.f (IntKind.u64.wrap (wrap64 (a1 - a0_3))) (IntKind.u64.wrap (a0_2))).bind fun bt303 => ((wide_Of.f (IntKind.u64.wrap (a0_4))).bind fun bt305 => ((wide_Sub.f bt303.1 bt303.2 bt305.1 bt305.2).bind fun bt307 => ((wide_Up.f k bt307.1 bt307.2.1 (IntKind.u64.wrap (a0_1))).bind fun bt311 => ((wide_Small.f bt311.1 bt311.2.1).bind fun bt315 => (if bt315.2 = 0 then (if bt315.1 > (IntKind.u64.wrap (18446744073709551615 - a0_5)) then (some (18446744073709551615, 0)) else (some (bt315.1, 0))) else (some (18446744073709551615, 0)))))))))))) else (some (0, t302)))) = some (r1, r2) := h
 clear h
 have H0_ := bo_ H; clear H; obtain ⟨t302, A3, H⟩ := H0_
 try dsimp only at H
 by_cases c4 : t302 = 0
 ·rw [if_pos c4] at H
  have c4b0 : (t302 == 0) = true := beq_iff_eq.mpr c4
  have c4b1 : (t302 != 0) = false := bne_eq_false_iff_eq.mpr c4
  clear c4
  by_cases c5 : a1 < 0
  ·rw [if_pos c5] at H
   have c5b0 : decide (a1 < 0) = true := decide_eq_true c5
   clear c5
   simp only [Option.some.injEq, Prod.mk.injEq] at H
   obtain ⟨rfl, rfl⟩ := H
   go_enter Try.func40, Try.ntmps40
   go_wp2_with (first | ((with_reducible refine gate_dst (N := 2) rfl ?_); (try refine ug_ (by rfl) ?_); refine bx_ #[.int .i64 a0_0, .int .i64 a0_1, .int .i64 a0_2, .int .i64 a0_3, .int .i64 a0_4, .int .u64 a0_5] 32 ?_; intro gb301 hg w6 BK301 hb; have GW301 := bz_ w hg; have GE301 := GW301; replace HB := bs_ w hb; clear hb hg; replace hc301 := ce6_ BK301) | ((with_reducible refine gate_callee (f := 31) rfl ?_); (try refine ug_ (by rfl) ?_); refine goesA_ (some 14) Try.func31 #[.agg #[.int .i64 a0_0, .int .i64 a0_1, .int .i64 a0_2, .int .i64 a0_3, .int .i64 a0_4, .int .u64 a0_5]] ?_; (with_reducible refine (bucket_Check.calls a0_0 a0_1 a0_2 a0_3 a0_4 a0_5 t302 _ A3.out).mono ?_); rintro e w8 ⟨rfl, hb⟩; refine ⟨_, rfl, ?_⟩; replace BK301 := bb_ BK301 hb; replace HB := bs_ w hb; clear hb))
   go_ret2
   exact fi_
  ·rw [if_neg c5] at H
   have c5b0 : decide (a1 < 0) = false := decide_eq_false c5
   clear c5
   by_cases c9 : a1 ≤ a0_3
   ·rw [if_pos c9] at H
    have c9b0 : decide (a1 ≤ a0_3) = true := decide_eq_true c9
    clear c9
    simp only [Option.some.injEq, Prod.mk.injEq] at H
    obtain ⟨rfl, rfl⟩ := H
    go_enter Try.func40, Try.ntmps40
    go_wp2_with (first | ((with_reducible refine gate_dst (N := 2) rfl ?_); (try refine ug_ (by rfl) ?_); refine bx_ #[.int .i64 a0_0, .int .i64 a0_1, .int .i64 a0_2, .int .i64 a0_3, .int .i64 a0_4, .int .u64 a0_5] 32 ?_; intro gb301 hg w10 BK301 hb; have GW301 := bz_ w hg; have GE301 := GW301; replace HB := bs_ w hb; clear hb hg; replace hc301 := ce6_ BK301) | ((with_reducible refine gate_callee (f := 31) rfl ?_); (try refine ug_ (by rfl) ?_); refine goesA_ (some 14) Try.func31 #[.agg #[.int .i64 a0_0, .int .i64 a0_1, .int .i64 a0_2, .int .i64 a0_3, .int .i64 a0_4, .int .u64 a0_5]] ?_; (with_reducible refine (bucket_Check.calls a0_0 a0_1 a0_2 a0_3 a0_4 a0_5 t302 _ A3.out).mono ?_); rintro e w12 ⟨rfl, hb⟩; refine ⟨_, rfl, ?_⟩; replace BK301 := bb_ BK301 hb; replace HB := bs_ w hb; clear hb; replace hc301 := ce6_ BK301))
    go_ret2
    exact fi_
   ·rw [if_neg c9] at H
    have c9b0 : decide (a1 ≤ a0_3) = false := decide_eq_false c9
    clear c9
    by_cases c14 : a1 > a0_0
    ·rw [if_pos c14] at H
     have c14b0 : decide (a0_0 < a1) = true := decide_eq_true c14
     clear c14
     simp only [Option.some.injEq, Prod.mk.injEq] at H
     obtain ⟨rfl, rfl⟩ := H
     go_enter Try.func40, Try.ntmps40
     go_wp2_with (first | ((with_reducible refine gate_dst (N := 2) rfl ?_); (try refine ug_ (by rfl) ?_); refine bx_ #[.int .i64 a0_0, .int .i64 a0_1, .int .i64 a0_2, .int .i64 a0_3, .int .i64 a0_4, .int .u64 a0_5] 32 ?_; intro gb301 hg w15 BK301 hb; have GW301 := bz_ w hg; have GE301 := GW301; replace HB := bs_ w hb; clear hb hg; replace hc301 := ce6_ BK301) | ((with_reducible refine gate_callee (f := 31) rfl ?_); (try refine ug_ (by rfl) ?_); refine goesA_ (some 14) Try.func31 #[.agg #[.int .i64 a0_0, .int .i64 a0_1, .int .i64 a0_2, .int .i64 a0_3, .int .i64 a0_4, .int .u64 a0_5]] ?_; (with_reducible refine (bucket_Check.calls a0_0 a0_1 a0_2 a0_3 a0_4 a0_5 t302 _ A3.out).mono ?_); rintro e w17 ⟨rfl, hb⟩; refine ⟨_, rfl, ?_⟩; replace BK301 := bb_ BK301 hb; replace HB := bs_ w hb; clear hb; replace hc301 := ce6_ BK301))
     go_ret2
     exact fi_
    ·rw [if_neg c14] at H
     have c14b0 : decide (a0_0 < a1) = false := decide_eq_false c14
     clear c14
     by_cases c19 : a0_1 = 0
     ·rw [if_pos c19] at H
      have c19b0 : (a0_1 == 0) = true := beq_iff_eq.mpr c19
      have c19b1 : (a0_1 != 0) = false := bne_eq_false_iff_eq.mpr c19
      clear c19
      simp only [Option.some.injEq, Prod.mk.injEq] at H
      obtain ⟨rfl, rfl⟩ := H
      go_enter Try.func40, Try.ntmps40
      go_wp2_with (first | ((with_reducible refine gate_dst (N := 2) rfl ?_); (try refine ug_ (by rfl) ?_); refine bx_ #[.int .i64 a0_0, .int .i64 a0_1, .int .i64 a0_2, .int .i64 a0_3, .int .i64 a0_4, .int .u64 a0_5] 32 ?_; intro gb301 hg w20 BK301 hb; have GW301 := bz_ w hg; have GE301 := GW301; replace HB := bs_ w hb; clear hb hg; replace hc301 := ce6_ BK301) | ((with_reducible refine gate_callee (f := 31) rfl ?_); (try refine ug_ (by rfl) ?_); refine goesA_ (some 14) Try.func31 #[.agg #[.int .i64 a0_0, .int .i64 a0_1, .int .i64 a0_2, .int .i64 a0_3, .int .i64 a0_4, .int .u64 a0_5]] ?_; (with_reducible refine (bucket_Check.calls a0_0 a0_1 a0_2 a0_3 a0_4 a0_5 t302 _ A3.out).mono ?_); rintro e w22 ⟨rfl, hb⟩; refine ⟨_, rfl, ?_⟩; replace BK301 := bb_ BK301 hb; replace HB := bs_ w hb; clear hb; replace hc301 := ce6_ BK301))
      go_ret2
      exact fi_
     ·rw [if_neg c19] at H
      have c19b0 : (a0_1 == 0) = false := beq_eq_false_iff_ne.mpr c19
      have c19b1 : (a0_1 != 0) = true := bne_iff_ne.mpr c19
      have H0_ := bo_ H; clear H; obtain ⟨⟨t303, t304⟩, A24, H⟩ := H0_
      try dsimp only at H
      have H0_ := bo_ H; clear H; obtain ⟨⟨t305, t306⟩, A25, H⟩ := H0_
      try dsimp only at H
      have H0_ := bo_ H; clear H; obtain ⟨⟨t307, t308, t309⟩, A26, H⟩ := H0_
      try dsimp only at H
      have H0_ := bo_ H; clear H; obtain ⟨⟨t311, t312, t313⟩, A27, H⟩ := H0_
      try dsimp only at H
      have H0_ := bo_ H; clear H; obtain ⟨⟨t315, t316⟩, A28, H⟩ := H0_
      try dsimp only at H
      by_cases c29 : t316 = 0
      ·rw [if_pos c29] at H
       have c29b0 : (t316 == 0) = true := beq_iff_eq.mpr c29
       have c29b1 : (t316 != 0) = false := bne_eq_false_iff_eq.mpr c29
       clear c29
       by_cases c30 : t315 > (IntKind.u64.wrap (18446744073709551615 - a0_5))
       ·rw [if_pos c30] at H
        have c30b0 : decide ((IntKind.u64.wrap (18446744073709551615 - a0_5)) < t315) = true := decide_eq_true c30
        clear c30
        simp only [Option.some.injEq, Prod.mk.injEq] at H
        obtain ⟨rfl, rfl⟩ := H
        go_enter Try.func40, Try.ntmps40
        try go_wp2_with (first | ((with_reducible refine gate_dst (N := 2) rfl ?_); (try refine ug_ (by rfl) ?_); refine bx_ #[.int .i64 a0_0, .int .i64 a0_1, .int .i64 a0_2, .int .i64 a0_3, .int .i64 a0_4, .int .u64 a0_5] 32 ?_; intro gb301 hg w31 BK301 hb; have GW301 := bz_ w hg; have GE301 := GW301; replace HB := bs_ w hb; clear hb hg; replace hc301 := ce6_ BK301) | ((with_reducible refine gate_callee (f := 31) rfl ?_); (try refine ug_ (by rfl) ?_); refine goesA_ (some 14) Try.func31 #[.agg #[.int .i64 a0_0, .int .i64 a0_1, .int .i64 a0_2, .int .i64 a0_3, .int .i64 a0_4, .int .u64 a0_5]] ?_; (with_reducible refine (bucket_Check.calls a0_0 a0_1 a0_2 a0_3 a0_4 a0_5 t302 _ A3.out).mono ?_); rintro e w33 ⟨rfl, hb⟩; refine ⟨_, rfl, ?_⟩; replace BK301 := bb_ BK301 hb; replace HB := bs_ w hb; clear hb; replace hc301 := ce6_ BK301))
        replace BK301 := Aside0.mk (blk_drew BK301.out)
        replace HB := Aside0.mk (below_drew1 HB.out)
        refine start_ (n := 21) (S := fun w' => w'.cell? ⟨gb301, 0, none⟩ = some (.int .i64 a0_0) ∧ w'.cell? ⟨gb301, 1, none⟩ = some (.int .i64 a0_1) ∧ w'.cell? ⟨gb301, 2, none⟩ = some (.int .i64 a0_2) ∧ w'.cell? ⟨gb301, 3, none⟩ = some (.int .i64 a0_3) ∧ w'.cell? ⟨gb301, 4, none⟩ = some (.int .i64 a0_4) ∧ w'.cell? ⟨gb301, 5, none⟩ = some (.int .u64 a0_5)) (ds := []) (bl_ 21 0) (by kernel_rfl) rfl (by kernel_rfl) (cc6_ BK301) (fun hHeld => ?_); refine with_tabW bucket_Wait.tab10 bucket_Wait.bits10 (fun HT_ HW_ => ?_)
        generalize w33.drew = w35 at BK301 HB hHeld ⊢
        refine pa_ 0 (some 39) (bl_ 21 1) HT_ ?_
        refine pa_ 1 (some 40) (bl_ 21 3) HT_ ?_
        refine pa_ 5 (some 44) (bl_ 21 35) HT_ ?_
        refine pa_ 6 (some 45) (bl_ 21 99) HT_ ?_
        refine pa_ 10 (some 49) (bl_ 21 1123) HT_ ?_
        refine ta_ 2 (some 41) (bl_ 21 1127) HT_ HW_ hHeld ?_
        refine pa_ 3 (some 42) (bl_ 21 1135) HT_ ?_
        refine pa_ 4 (some 43) (bl_ 21 1151) HT_ ?_
        refine ta_ 7 (some 46) (bl_ 21 1279) HT_ HW_ hHeld ?_
        refine pa_ 8 (some 47) (bl_ 21 1535) HT_ ?_
        refine ta_ 11 (some 50) (bl_ 21 3583) HT_ HW_ hHeld ?_
        refine pa_ 12 (some 51) (bl_ 21 7679) HT_ ?_
        refine join_ (σ := Nat) 2 (bl_ 21 524287) (fun s_ => [(48, .agg #[.int .u64 t303, .int .u64 t304]), (52, .agg #[.int .u64 t305, .int .u64 t306]), (53, .tuple #[.agg #[.int .u64 t307, .int .u64 t308], .int .i64 t309]), (7, .pointer (some ⟨s_, 0, none⟩)), (38, .tuple #[.agg #[.int .u64 t307, .int .u64 t308], .int .i64 t309]), (54, .agg #[.int .u64 t307, .int .u64 t308]), (55, .int .i64 t309)]) (fun s_ w' => (w'.cell? ⟨gb301, 0, none⟩ = some (.int .i64 a0_0) ∧ w'.cell? ⟨gb301, 1, none⟩ = some (.int .i64 a0_1) ∧ w'.cell? ⟨gb301, 2, none⟩ = some (.int .i64 a0_2) ∧ w'.cell? ⟨gb301, 3, none⟩ = some (.int .i64 a0_3) ∧ w'.cell? ⟨gb301, 4, none⟩ = some (.int .i64 a0_4) ∧ w'.cell? ⟨gb301, 5, none⟩ = some (.int .u64 a0_5)) ∧ (w'.heap[gb301]? = some (.cells #[.int .i64 a0_0, .int .i64 a0_1, .int .i64 a0_2, .int .i64 a0_3, .int .i64 a0_4, .int .u64 a0_5] 32 (0, 0))) ∧ (w'.heap[s_]? = some (.cells #[.int .u64 0, .int .u64 0] 59 (0, 0))) ∧ (w.heap.size ≤ s_) ∧ (w.heap.size ≤ s_) ∧ (gb301 ≠ s_) ∧ (s_ ≠ gb301) ∧ (Below w.heap.size w w')) ?_ ?_
        rotate_left
        ·intro hCont
         refine tw_ 9 18 (some 48) (some 7) (bl_ 21 8191) (bl_ 21 269823) HT_ (fun K hK => ?_) fun K hK => ?_
         ·refine goesB_ Try.func21 #[.int .u64 (IntKind.u64.wrap (wrap64 (a1 - a0_3))), .int .u64 (IntKind.u64.wrap (a0_2))] ?_
          with_reducible refine (wide_Mul.calls (IntKind.u64.wrap (wrap64 (a1 - a0_3))) (IntKind.u64.wrap (a0_2)) t303 t304 _ A24.out).mono ?_
          rintro e w36 ⟨rfl, hb⟩
          refine ⟨_, rfl, ?_⟩
          replace BK301 := bb_ BK301 hb
          replace HB := bs_ w hb
          clear hb
          refine hK.out _ _ (cc6_ BK301) (fun hHeld => ?_)
          clear hK K
          refine nm_ (some 48) ?_
          refine tw_ 13 18 (some 52) (some 7) (bl_ 21 16383) (bl_ 21 270335) HT_ (fun K hK => ?_) fun K hK => ?_
          ·refine goesB_ Try.func23 #[.int .u64 (IntKind.u64.wrap (a0_4))] ?_
           with_reducible refine (wide_Of.calls (IntKind.u64.wrap (a0_4)) t305 t306 _ A25.out).mono ?_
           rintro e w37 ⟨rfl, hb⟩
           refine ⟨_, rfl, ?_⟩
           replace BK301 := bb_ BK301 hb
           replace HB := bs_ w hb
           clear hb
           refine hK.out _ _ (cc6_ BK301) (fun hHeld => ?_)
           clear hK K
           refine nm_ (some 52) ?_
           refine tw_ 14 18 (some 53) (some 7) (bl_ 21 32767) (bl_ 21 278527) HT_ (fun K hK => ?_) fun K hK => ?_
           ·refine goesB_ Try.func46 #[.agg #[.int .u64 t303, .int .u64 t304], .agg #[.int .u64 t305, .int .u64 t306]] ?_
            with_reducible refine (wide_Sub.calls t303 t304 t305 t306 t307 t308 t309 _ A26.out).mono ?_
            rintro e w38 ⟨rfl, hb⟩
            refine ⟨_, rfl, ?_⟩
            replace BK301 := bb_ BK301 hb
            replace HB := bs_ w hb
            clear hb
            refine hK.out _ _ (cc6_ BK301) (fun hHeld => ?_)
            clear hK K
            refine nm_ (some 53) ?_
            refine pa_ 15 (some 38) (bl_ 21 65535) HT_ ?_
            refine pa_ 16 (some 54) (bl_ 21 131071) HT_ ?_
            refine pa_ 17 (some 55) (bl_ 21 262143) HT_ ?_
            refine oa_ 18 (some 7) (bl_ 21 524287) HT_ fun K hK => ?_
            refine bs2_ #[.int .u64 0, .int .u64 0] 59 ?_
            intro gb310 hg w39 BK310 hb
            have GW310 := bz_ w hg
            have GE310 := GW310
            have NB301_310 := bn_ BK301 hg
            have NB310_301 := bm_ BK301 hg
            replace BK301 := bb_ BK301 hb
            replace HB := bs_ w hb
            clear hb hg
            refine hK.out _ _ (cc6_ BK301) (fun hHeld => ?_)
            clear hK K
            refine nm_ (some 7) ?_
            exact no_ (hCont (gb310) _ ⟨hHeld, (bq_ BK301), (bq_ BK310), GW310.out, GE310.out, NB301_310.out, NB310_301.out, bh_⟩)
           ·refine bs2_ #[.int .u64 0, .int .u64 0] 59 ?_
            intro gb310 hg w38 BK310 hb
            have GW310 := bz_ w hg
            have GE310 := GW310
            have NB301_310 := bn_ BK301 hg
            have NB310_301 := bm_ BK301 hg
            replace BK301 := bb_ BK301 hb
            replace HB := bs_ w hb
            clear hb hg
            refine hK.out _ _ (cc6_ BK301) (fun hHeld => ?_)
            clear hK K
            refine nm_ (some 7) ?_
            refine oa_ 14 (some 53) (bl_ 21 294911) HT_ fun K hK => ?_
            refine goesB_ Try.func46 #[.agg #[.int .u64 t303, .int .u64 t304], .agg #[.int .u64 t305, .int .u64 t306]] ?_
            with_reducible refine (wide_Sub.calls t303 t304 t305 t306 t307 t308 t309 _ A26.out).mono ?_
            rintro e w39 ⟨rfl, hb⟩
            refine ⟨_, rfl, ?_⟩
            replace BK301 := bb_ BK301 hb
            replace BK310 := bb_ BK310 hb
            replace HB := bs_ w hb
            clear hb
            refine hK.out _ _ (cc6_ BK301) (fun hHeld => ?_)
            clear hK K
            refine nm_ (some 53) ?_
            refine pa_ 15 (some 38) (bl_ 21 327679) HT_ ?_
            refine pa_ 16 (some 54) (bl_ 21 393215) HT_ ?_
            refine pa_ 17 (some 55) (bl_ 21 524287) HT_ ?_
            exact no_ (hCont (gb310) _ ⟨hHeld, (bq_ BK301), (bq_ BK310), GW310.out, GE310.out, NB301_310.out, NB310_301.out, bh_⟩)
          ·refine bs2_ #[.int .u64 0, .int .u64 0] 59 ?_
           intro gb310 hg w37 BK310 hb
           have GW310 := bz_ w hg
           have GE310 := GW310
           have NB301_310 := bn_ BK301 hg
           have NB310_301 := bm_ BK301 hg
           replace BK301 := bb_ BK301 hb
           replace HB := bs_ w hb
           clear hb hg
           refine hK.out _ _ (cc6_ BK301) (fun hHeld => ?_)
           clear hK K
           refine nm_ (some 7) ?_
           refine oa_ 13 (some 52) (bl_ 21 278527) HT_ fun K hK => ?_
           refine goesB_ Try.func23 #[.int .u64 (IntKind.u64.wrap (a0_4))] ?_
           with_reducible refine (wide_Of.calls (IntKind.u64.wrap (a0_4)) t305 t306 _ A25.out).mono ?_
           rintro e w38 ⟨rfl, hb⟩
           refine ⟨_, rfl, ?_⟩
           replace BK301 := bb_ BK301 hb
           replace BK310 := bb_ BK310 hb
           replace HB := bs_ w hb
           clear hb
           refine hK.out _ _ (cc6_ BK301) (fun hHeld => ?_)
           clear hK K
           refine nm_ (some 52) ?_
           refine oa_ 14 (some 53) (bl_ 21 294911) HT_ fun K hK => ?_
           refine goesB_ Try.func46 #[.agg #[.int .u64 t303, .int .u64 t304], .agg #[.int .u64 t305, .int .u64 t306]] ?_
           with_reducible refine (wide_Sub.calls t303 t304 t305 t306 t307 t308 t309 _ A26.out).mono ?_
           rintro e w39 ⟨rfl, hb⟩
           refine ⟨_, rfl, ?_⟩
           replace BK301 := bb_ BK301 hb
           replace BK310 := bb_ BK310 hb
           replace HB := bs_ w hb
           clear hb
           refine hK.out _ _ (cc6_ BK301) (fun hHeld => ?_)
           clear hK K
           refine nm_ (some 53) ?_
           refine pa_ 15 (some 38) (bl_ 21 327679) HT_ ?_
           refine pa_ 16 (some 54) (bl_ 21 393215) HT_ ?_
           refine pa_ 17 (some 55) (bl_ 21 524287) HT_ ?_
           exact no_ (hCont (gb310) _ ⟨hHeld, (bq_ BK301), (bq_ BK310), GW310.out, GE310.out, NB301_310.out, NB310_301.out, bh_⟩)
         ·refine bs2_ #[.int .u64 0, .int .u64 0] 59 ?_
          intro gb310 hg w36 BK310 hb
          have GW310 := bz_ w hg
          have GE310 := GW310
          have NB301_310 := bn_ BK301 hg
          have NB310_301 := bm_ BK301 hg
          replace BK301 := bb_ BK301 hb
          replace HB := bs_ w hb
          clear hb hg
          refine hK.out _ _ (cc6_ BK301) (fun hHeld => ?_)
          clear hK K
          refine nm_ (some 7) ?_
          refine oa_ 9 (some 48) (bl_ 21 270335) HT_ fun K hK => ?_
          refine goesB_ Try.func21 #[.int .u64 (IntKind.u64.wrap (wrap64 (a1 - a0_3))), .int .u64 (IntKind.u64.wrap (a0_2))] ?_
          with_reducible refine (wide_Mul.calls (IntKind.u64.wrap (wrap64 (a1 - a0_3))) (IntKind.u64.wrap (a0_2)) t303 t304 _ A24.out).mono ?_
          rintro e w37 ⟨rfl, hb⟩
          refine ⟨_, rfl, ?_⟩
          replace BK301 := bb_ BK301 hb
          replace BK310 := bb_ BK310 hb
          replace HB := bs_ w hb
          clear hb
          refine hK.out _ _ (cc6_ BK301) (fun hHeld => ?_)
          clear hK K
          refine nm_ (some 48) ?_
          refine oa_ 13 (some 52) (bl_ 21 278527) HT_ fun K hK => ?_
          refine goesB_ Try.func23 #[.int .u64 (IntKind.u64.wrap (a0_4))] ?_
          with_reducible refine (wide_Of.calls (IntKind.u64.wrap (a0_4)) t305 t306 _ A25.out).mono ?_
          rintro e w38 ⟨rfl, hb⟩
          refine ⟨_, rfl, ?_⟩
          replace BK301 := bb_ BK301 hb
          replace BK310 := bb_ BK310 hb
          replace HB := bs_ w hb
          clear hb
          refine hK.out _ _ (cc6_ BK301) (fun hHeld => ?_)
          clear hK K
          refine nm_ (some 52) ?_
          refine oa_ 14 (some 53) (bl_ 21 294911) HT_ fun K hK => ?_
          refine goesB_ Try.func46 #[.agg #[.int .u64 t303, .int .u64 t304], .agg #[.int .u64 t305, .int .u64 t306]] ?_
          with_reducible refine (wide_Sub.calls t303 t304 t305 t306 t307 t308 t309 _ A26.out).mono ?_
          rintro e w39 ⟨rfl, hb⟩
          refine ⟨_, rfl, ?_⟩
          replace BK301 := bb_ BK301 hb
          replace BK310 := bb_ BK310 hb
          replace HB := bs_ w hb
          clear hb
          refine hK.out _ _ (cc6_ BK301) (fun hHeld => ?_)
          clear hK K
          refine nm_ (some 53) ?_
          refine pa_ 15 (some 38) (bl_ 21 327679) HT_ ?_
          refine pa_ 16 (some 54) (bl_ 21 393215) HT_ ?_
          refine pa_ 17 (some 55) (bl_ 21 524287) HT_ ?_
          exact no_ (hCont (gb310) _ ⟨hHeld, (bq_ BK301), (bq_ BK310), GW310.out, GE310.out, NB301_310.out, NB310_301.out, bh_⟩)
        rintro gb310 w40 ⟨hS_, h0_, h1_, h2_, h3_, h4_, h5_, h6_⟩
        have BK310 := Aside0.mk h1_
        have GW310 := Aside0.mk h2_
        have GE310 := Aside0.mk h3_
        have NB301_310 := Aside0.mk h4_
        have NB310_301 := Aside0.mk h5_
        replace BK301 := Aside0.mk h0_
        replace HB := Aside0.mk h6_
        clear h0_ h1_ h2_ h3_ h4_ h5_ h6_
        have hHeld := hS_
        refine nq_ ?_
        refine oa_ 19 none (bl_ 21 1048575) HT_ fun K hK => ?_
        have hs41 : w40.cell? ⟨gb310, 0, none⟩ = some (.int .u64 0) := (blk_cell BK310.out 0).trans rfl
        have hfs41 := blk_frozen BK310.out 0
        have hns41_0 := NB301_310.out
        have hms41_0 := NB310_301.out
        have hs42 : w40.cell? ⟨gb310, 1, none⟩ = some (.int .u64 0) := (blk_cell BK310.out 1).trans rfl
        have hfs42 := blk_frozen BK310.out 1
        have hns42_0 := NB301_310.out
        have hms42_0 := NB310_301.out
        refine sk_ ?_
        refine hK.out _ _ (cf6_ hHeld) (fun hHeld => ?_)
        clear hK K
        refine pa_ 20 (some 8) (bl_ 21 2097151) HT_ ?_
        refine done_ (done_of HT_.out (by kernel_rfl)) ?_
        replace hn310_301 := NB310_301.out
        replace hn301_310 := NB301_310.out
        replace hc310 := ce2_ BK310
        replace hc301 := ce6_ BK301
        try go_wp2_with (first | ((with_reducible refine gate_callee (f := 47) rfl ?_); (try refine ug_ (by rfl) ?_); refine goesA_ (some 62) Try.func47 #[.agg #[.int .u64 t307, .int .u64 t308], .int .u64 (IntKind.u64.wrap (a0_1))] ?_; (with_reducible refine (wide_Up.calls k t307 t308 (IntKind.u64.wrap (a0_1)) t311 t312 t313 _ A27.out).mono ?_); rintro e w46 ⟨rfl, hb⟩; refine ⟨_, rfl, ?_⟩; replace BK301 := bf_ BK301 hb; replace BK310 := Aside0.mk (blk_below (g := gb310) (o := .cells #[.int .u64 t307, .int .u64 t308] 59 (0, 0)) (bp2_ (bq_ BK310)) hb); replace HB := bs_ w hb; clear hb) | ((with_reducible refine gate_dst (N := 9) rfl ?_); (try refine ug_ (by rfl) ?_); refine bx_ #[.int .u64 0, .int .u64 0] 59 ?_; intro gb314 hg w47 BK314 hb; have GW314 := bz_ w hg; have GE314 := GW314; have NB301_314 := bn_ BK301 hg; have NB314_301 := bm_ BK301 hg; have NB310_314 := bn_ BK310 hg; have NB314_310 := bm_ BK310 hg; replace BK301 := bb_ BK301 hb; replace BK310 := bb_ BK310 hb; replace HB := bs_ w hb; clear hb hg; replace hn314_301 := NB314_301.out; replace hn301_314 := NB301_314.out; replace hn314_310 := NB314_310.out; replace hn310_314 := NB310_314.out; replace hc314 := ce2_ BK314) | ((with_reducible refine gate_callee (f := 48) rfl ?_); (try refine ug_ (by rfl) ?_); refine goesA_ (some 67) Try.func48 #[.agg #[.int .u64 t311, .int .u64 t312]] ?_; (with_reducible refine (wide_Small.calls t311 t312 t315 t316 _ A28.out).mono ?_); rintro e w51 ⟨rfl, hb⟩; refine ⟨_, rfl, ?_⟩; replace BK301 := bf_ BK301 hb; replace BK310 := bf_ BK310 hb; replace BK314 := Aside0.mk (blk_below (g := gb314) (o := .cells #[.int .u64 t311, .int .u64 t312] 59 (0, 0)) (bp2_ (bq_ BK314)) hb); replace HB := bs_ w hb; clear hb; replace hc301 := ce6_ BK301))
        go_ret2
        exact fi_
       ·rw [if_neg c30] at H
        have c30b0 : decide ((IntKind.u64.wrap (18446744073709551615 - a0_5)) < t315) = false := decide_eq_false c30
        clear c30
        simp only [Option.some.injEq, Prod.mk.injEq] at H
        obtain ⟨rfl, rfl⟩ := H
        go_enter Try.func40, Try.ntmps40
        try go_wp2_with (first | ((with_reducible refine gate_dst (N := 2) rfl ?_); (try refine ug_ (by rfl) ?_); refine bx_ #[.int .i64 a0_0, .int .i64 a0_1, .int .i64 a0_2, .int .i64 a0_3, .int .i64 a0_4, .int .u64 a0_5] 32 ?_; intro gb301 hg w53 BK301 hb; have GW301 := bz_ w hg; have GE301 := GW301; replace HB := bs_ w hb; clear hb hg; replace hc301 := ce6_ BK301) | ((with_reducible refine gate_callee (f := 31) rfl ?_); (try refine ug_ (by rfl) ?_); refine goesA_ (some 14) Try.func31 #[.agg #[.int .i64 a0_0, .int .i64 a0_1, .int .i64 a0_2, .int .i64 a0_3, .int .i64 a0_4, .int .u64 a0_5]] ?_; (with_reducible refine (bucket_Check.calls a0_0 a0_1 a0_2 a0_3 a0_4 a0_5 t302 _ A3.out).mono ?_); rintro e w55 ⟨rfl, hb⟩; refine ⟨_, rfl, ?_⟩; replace BK301 := bb_ BK301 hb; replace HB := bs_ w hb; clear hb; replace hc301 := ce6_ BK301))
        replace BK301 := Aside0.mk (blk_drew BK301.out)
        replace HB := Aside0.mk (below_drew1 HB.out)
        refine start_ (n := 21) (S := fun w' => w'.cell? ⟨gb301, 0, none⟩ = some (.int .i64 a0_0) ∧ w'.cell? ⟨gb301, 1, none⟩ = some (.int .i64 a0_1) ∧ w'.cell? ⟨gb301, 2, none⟩ = some (.int .i64 a0_2) ∧ w'.cell? ⟨gb301, 3, none⟩ = some (.int .i64 a0_3) ∧ w'.cell? ⟨gb301, 4, none⟩ = some (.int .i64 a0_4) ∧ w'.cell? ⟨gb301, 5, none⟩ = some (.int .u64 a0_5)) (ds := []) (bl_ 21 0) (by kernel_rfl) rfl (by kernel_rfl) (cc6_ BK301) (fun hHeld => ?_); refine with_tabW bucket_Wait.tab10 bucket_Wait.bits10 (fun HT_ HW_ => ?_)
        generalize w55.drew = w57 at BK301 HB hHeld ⊢
        refine pa_ 0 (some 39) (bl_ 21 1) HT_ ?_
        refine pa_ 1 (some 40) (bl_ 21 3) HT_ ?_
        refine pa_ 5 (some 44) (bl_ 21 35) HT_ ?_
        refine pa_ 6 (some 45) (bl_ 21 99) HT_ ?_
        refine pa_ 10 (some 49) (bl_ 21 1123) HT_ ?_
        refine ta_ 2 (some 41) (bl_ 21 1127) HT_ HW_ hHeld ?_
        refine pa_ 3 (some 42) (bl_ 21 1135) HT_ ?_
        refine pa_ 4 (some 43) (bl_ 21 1151) HT_ ?_
        refine ta_ 7 (some 46) (bl_ 21 1279) HT_ HW_ hHeld ?_
        refine pa_ 8 (some 47) (bl_ 21 1535) HT_ ?_
        refine ta_ 11 (some 50) (bl_ 21 3583) HT_ HW_ hHeld ?_
        refine pa_ 12 (some 51) (bl_ 21 7679) HT_ ?_
        refine join_ (σ := Nat) 2 (bl_ 21 524287) (fun s_ => [(48, .agg #[.int .u64 t303, .int .u64 t304]), (52, .agg #[.int .u64 t305, .int .u64 t306]), (53, .tuple #[.agg #[.int .u64 t307, .int .u64 t308], .int .i64 t309]), (7, .pointer (some ⟨s_, 0, none⟩)), (38, .tuple #[.agg #[.int .u64 t307, .int .u64 t308], .int .i64 t309]), (54, .agg #[.int .u64 t307, .int .u64 t308]), (55, .int .i64 t309)]) (fun s_ w' => (w'.cell? ⟨gb301, 0, none⟩ = some (.int .i64 a0_0) ∧ w'.cell? ⟨gb301, 1, none⟩ = some (.int .i64 a0_1) ∧ w'.cell? ⟨gb301, 2, none⟩ = some (.int .i64 a0_2) ∧ w'.cell? ⟨gb301, 3, none⟩ = some (.int .i64 a0_3) ∧ w'.cell? ⟨gb301, 4, none⟩ = some (.int .i64 a0_4) ∧ w'.cell? ⟨gb301, 5, none⟩ = some (.int .u64 a0_5)) ∧ (w'.heap[gb301]? = some (.cells #[.int .i64 a0_0, .int .i64 a0_1, .int .i64 a0_2, .int .i64 a0_3, .int .i64 a0_4, .int .u64 a0_5] 32 (0, 0))) ∧ (w'.heap[s_]? = some (.cells #[.int .u64 0, .int .u64 0] 59 (0, 0))) ∧ (w.heap.size ≤ s_) ∧ (w.heap.size ≤ s_) ∧ (gb301 ≠ s_) ∧ (s_ ≠ gb301) ∧ (Below w.heap.size w w')) ?_ ?_
        rotate_left
        ·intro hCont
         refine tw_ 9 18 (some 48) (some 7) (bl_ 21 8191) (bl_ 21 269823) HT_ (fun K hK => ?_) fun K hK => ?_
         ·refine goesB_ Try.func21 #[.int .u64 (IntKind.u64.wrap (wrap64 (a1 - a0_3))), .int .u64 (IntKind.u64.wrap (a0_2))] ?_
          with_reducible refine (wide_Mul.calls (IntKind.u64.wrap (wrap64 (a1 - a0_3))) (IntKind.u64.wrap (a0_2)) t303 t304 _ A24.out).mono ?_
          rintro e w58 ⟨rfl, hb⟩
          refine ⟨_, rfl, ?_⟩
          replace BK301 := bb_ BK301 hb
          replace HB := bs_ w hb
          clear hb
          refine hK.out _ _ (cc6_ BK301) (fun hHeld => ?_)
          clear hK K
          refine nm_ (some 48) ?_
          refine tw_ 13 18 (some 52) (some 7) (bl_ 21 16383) (bl_ 21 270335) HT_ (fun K hK => ?_) fun K hK => ?_
          ·refine goesB_ Try.func23 #[.int .u64 (IntKind.u64.wrap (a0_4))] ?_
           with_reducible refine (wide_Of.calls (IntKind.u64.wrap (a0_4)) t305 t306 _ A25.out).mono ?_
           rintro e w59 ⟨rfl, hb⟩
           refine ⟨_, rfl, ?_⟩
           replace BK301 := bb_ BK301 hb
           replace HB := bs_ w hb
           clear hb
           refine hK.out _ _ (cc6_ BK301) (fun hHeld => ?_)
           clear hK K
           refine nm_ (some 52) ?_
           refine tw_ 14 18 (some 53) (some 7) (bl_ 21 32767) (bl_ 21 278527) HT_ (fun K hK => ?_) fun K hK => ?_
           ·refine goesB_ Try.func46 #[.agg #[.int .u64 t303, .int .u64 t304], .agg #[.int .u64 t305, .int .u64 t306]] ?_
            with_reducible refine (wide_Sub.calls t303 t304 t305 t306 t307 t308 t309 _ A26.out).mono ?_
            rintro e w60 ⟨rfl, hb⟩
            refine ⟨_, rfl, ?_⟩
            replace BK301 := bb_ BK301 hb
            replace HB := bs_ w hb
            clear hb
            refine hK.out _ _ (cc6_ BK301) (fun hHeld => ?_)
            clear hK K
            refine nm_ (some 53) ?_
            refine pa_ 15 (some 38) (bl_ 21 65535) HT_ ?_
            refine pa_ 16 (some 54) (bl_ 21 131071) HT_ ?_
            refine pa_ 17 (some 55) (bl_ 21 262143) HT_ ?_
            refine oa_ 18 (some 7) (bl_ 21 524287) HT_ fun K hK => ?_
            refine bs2_ #[.int .u64 0, .int .u64 0] 59 ?_
            intro gb310 hg w61 BK310 hb
            have GW310 := bz_ w hg
            have GE310 := GW310
            have NB301_310 := bn_ BK301 hg
            have NB310_301 := bm_ BK301 hg
            replace BK301 := bb_ BK301 hb
            replace HB := bs_ w hb
            clear hb hg
            refine hK.out _ _ (cc6_ BK301) (fun hHeld => ?_)
            clear hK K
            refine nm_ (some 7) ?_
            exact no_ (hCont (gb310) _ ⟨hHeld, (bq_ BK301), (bq_ BK310), GW310.out, GE310.out, NB301_310.out, NB310_301.out, bh_⟩)
           ·refine bs2_ #[.int .u64 0, .int .u64 0] 59 ?_
            intro gb310 hg w60 BK310 hb
            have GW310 := bz_ w hg
            have GE310 := GW310
            have NB301_310 := bn_ BK301 hg
            have NB310_301 := bm_ BK301 hg
            replace BK301 := bb_ BK301 hb
            replace HB := bs_ w hb
            clear hb hg
            refine hK.out _ _ (cc6_ BK301) (fun hHeld => ?_)
            clear hK K
            refine nm_ (some 7) ?_
            refine oa_ 14 (some 53) (bl_ 21 294911) HT_ fun K hK => ?_
            refine goesB_ Try.func46 #[.agg #[.int .u64 t303, .int .u64 t304], .agg #[.int .u64 t305, .int .u64 t306]] ?_
            with_reducible refine (wide_Sub.calls t303 t304 t305 t306 t307 t308 t309 _ A26.out).mono ?_
            rintro e w61 ⟨rfl, hb⟩
            refine ⟨_, rfl, ?_⟩
            replace BK301 := bb_ BK301 hb
            replace BK310 := bb_ BK310 hb
            replace HB := bs_ w hb
            clear hb
            refine hK.out _ _ (cc6_ BK301) (fun hHeld => ?_)
            clear hK K
            refine nm_ (some 53) ?_
            refine pa_ 15 (some 38) (bl_ 21 327679) HT_ ?_
            refine pa_ 16 (some 54) (bl_ 21 393215) HT_ ?_
            refine pa_ 17 (some 55) (bl_ 21 524287) HT_ ?_
            exact no_ (hCont (gb310) _ ⟨hHeld, (bq_ BK301), (bq_ BK310), GW310.out, GE310.out, NB301_310.out, NB310_301.out, bh_⟩)
          ·refine bs2_ #[.int .u64 0, .int .u64 0] 59 ?_
           intro gb310 hg w59 BK310 hb
           have GW310 := bz_ w hg
           have GE310 := GW310
           have NB301_310 := bn_ BK301 hg
           have NB310_301 := bm_ BK301 hg
           replace BK301 := bb_ BK301 hb
           replace HB := bs_ w hb
           clear hb hg
           refine hK.out _ _ (cc6_ BK301) (fun hHeld => ?_)
           clear hK K
           refine nm_ (some 7) ?_
           refine oa_ 13 (some 52) (bl_ 21 278527) HT_ fun K hK => ?_
           refine goesB_ Try.func23 #[.int .u64 (IntKind.u64.wrap (a0_4))] ?_
           with_reducible refine (wide_Of.calls (IntKind.u64.wrap (a0_4)) t305 t306 _ A25.out).mono ?_
           rintro e w60 ⟨rfl, hb⟩
           refine ⟨_, rfl, ?_⟩
           replace BK301 := bb_ BK301 hb
           replace BK310 := bb_ BK310 hb
           replace HB := bs_ w hb
           clear hb
           refine hK.out _ _ (cc6_ BK301) (fun hHeld => ?_)
           clear hK K
           refine nm_ (some 52) ?_
           refine oa_ 14 (some 53) (bl_ 21 294911) HT_ fun K hK => ?_
           refine goesB_ Try.func46 #[.agg #[.int .u64 t303, .int .u64 t304], .agg #[.int .u64 t305, .int .u64 t306]] ?_
           with_reducible refine (wide_Sub.calls t303 t304 t305 t306 t307 t308 t309 _ A26.out).mono ?_
           rintro e w61 ⟨rfl, hb⟩
           refine ⟨_, rfl, ?_⟩
           replace BK301 := bb_ BK301 hb
           replace BK310 := bb_ BK310 hb
           replace HB := bs_ w hb
           clear hb
           refine hK.out _ _ (cc6_ BK301) (fun hHeld => ?_)
           clear hK K
           refine nm_ (some 53) ?_
           refine pa_ 15 (some 38) (bl_ 21 327679) HT_ ?_
           refine pa_ 16 (some 54) (bl_ 21 393215) HT_ ?_
           refine pa_ 17 (some 55) (bl_ 21 524287) HT_ ?_
           exact no_ (hCont (gb310) _ ⟨hHeld, (bq_ BK301), (bq_ BK310), GW310.out, GE310.out, NB301_310.out, NB310_301.out, bh_⟩)
         ·refine bs2_ #[.int .u64 0, .int .u64 0] 59 ?_
          intro gb310 hg w58 BK310 hb
          have GW310 := bz_ w hg
          have GE310 := GW310
          have NB301_310 := bn_ BK301 hg
          have NB310_301 := bm_ BK301 hg
          replace BK301 := bb_ BK301 hb
          replace HB := bs_ w hb
          clear hb hg
          refine hK.out _ _ (cc6_ BK301) (fun hHeld => ?_)
          clear hK K
          refine nm_ (some 7) ?_
          refine oa_ 9 (some 48) (bl_ 21 270335) HT_ fun K hK => ?_
          refine goesB_ Try.func21 #[.int .u64 (IntKind.u64.wrap (wrap64 (a1 - a0_3))), .int .u64 (IntKind.u64.wrap (a0_2))] ?_
          with_reducible refine (wide_Mul.calls (IntKind.u64.wrap (wrap64 (a1 - a0_3))) (IntKind.u64.wrap (a0_2)) t303 t304 _ A24.out).mono ?_
          rintro e w59 ⟨rfl, hb⟩
          refine ⟨_, rfl, ?_⟩
          replace BK301 := bb_ BK301 hb
          replace BK310 := bb_ BK310 hb
          replace HB := bs_ w hb
          clear hb
          refine hK.out _ _ (cc6_ BK301) (fun hHeld => ?_)
          clear hK K
          refine nm_ (some 48) ?_
          refine oa_ 13 (some 52) (bl_ 21 278527) HT_ fun K hK => ?_
          refine goesB_ Try.func23 #[.int .u64 (IntKind.u64.wrap (a0_4))] ?_
          with_reducible refine (wide_Of.calls (IntKind.u64.wrap (a0_4)) t305 t306 _ A25.out).mono ?_
          rintro e w60 ⟨rfl, hb⟩
          refine ⟨_, rfl, ?_⟩
          replace BK301 := bb_ BK301 hb
          replace BK310 := bb_ BK310 hb
          replace HB := bs_ w hb
          clear hb
          refine hK.out _ _ (cc6_ BK301) (fun hHeld => ?_)
          clear hK K
          refine nm_ (some 52) ?_
          refine oa_ 14 (some 53) (bl_ 21 294911) HT_ fun K hK => ?_
          refine goesB_ Try.func46 #[.agg #[.int .u64 t303, .int .u64 t304], .agg #[.int .u64 t305, .int .u64 t306]] ?_
          with_reducible refine (wide_Sub.calls t303 t304 t305 t306 t307 t308 t309 _ A26.out).mono ?_
          rintro e w61 ⟨rfl, hb⟩
          refine ⟨_, rfl, ?_⟩
          replace BK301 := bb_ BK301 hb
          replace BK310 := bb_ BK310 hb
          replace HB := bs_ w hb
          clear hb
          refine hK.out _ _ (cc6_ BK301) (fun hHeld => ?_)
          clear hK K
          refine nm_ (some 53) ?_
          refine pa_ 15 (some 38) (bl_ 21 327679) HT_ ?_
          refine pa_ 16 (some 54) (bl_ 21 393215) HT_ ?_
          refine pa_ 17 (some 55) (bl_ 21 524287) HT_ ?_
          exact no_ (hCont (gb310) _ ⟨hHeld, (bq_ BK301), (bq_ BK310), GW310.out, GE310.out, NB301_310.out, NB310_301.out, bh_⟩)
        rintro gb310 w62 ⟨hS_, h0_, h1_, h2_, h3_, h4_, h5_, h6_⟩
        have BK310 := Aside0.mk h1_
        have GW310 := Aside0.mk h2_
        have GE310 := Aside0.mk h3_
        have NB301_310 := Aside0.mk h4_
        have NB310_301 := Aside0.mk h5_
        replace BK301 := Aside0.mk h0_
        replace HB := Aside0.mk h6_
        clear h0_ h1_ h2_ h3_ h4_ h5_ h6_
        have hHeld := hS_
        refine nq_ ?_
        refine oa_ 19 none (bl_ 21 1048575) HT_ fun K hK => ?_
        have hs63 : w62.cell? ⟨gb310, 0, none⟩ = some (.int .u64 0) := (blk_cell BK310.out 0).trans rfl
        have hfs63 := blk_frozen BK310.out 0
        have hns63_0 := NB301_310.out
        have hms63_0 := NB310_301.out
        have hs64 : w62.cell? ⟨gb310, 1, none⟩ = some (.int .u64 0) := (blk_cell BK310.out 1).trans rfl
        have hfs64 := blk_frozen BK310.out 1
        have hns64_0 := NB301_310.out
        have hms64_0 := NB310_301.out
        refine sk_ ?_
        refine hK.out _ _ (cf6_ hHeld) (fun hHeld => ?_)
        clear hK K
        refine pa_ 20 (some 8) (bl_ 21 2097151) HT_ ?_
        refine done_ (done_of HT_.out (by kernel_rfl)) ?_
        replace hn310_301 := NB310_301.out
        replace hn301_310 := NB301_310.out
        replace hc310 := ce2_ BK310
        replace hc301 := ce6_ BK301
        try go_wp2_with (first | ((with_reducible refine gate_callee (f := 47) rfl ?_); (try refine ug_ (by rfl) ?_); refine goesA_ (some 62) Try.func47 #[.agg #[.int .u64 t307, .int .u64 t308], .int .u64 (IntKind.u64.wrap (a0_1))] ?_; (with_reducible refine (wide_Up.calls k t307 t308 (IntKind.u64.wrap (a0_1)) t311 t312 t313 _ A27.out).mono ?_); rintro e w68 ⟨rfl, hb⟩; refine ⟨_, rfl, ?_⟩; replace BK301 := bf_ BK301 hb; replace BK310 := Aside0.mk (blk_below (g := gb310) (o := .cells #[.int .u64 t307, .int .u64 t308] 59 (0, 0)) (bp2_ (bq_ BK310)) hb); replace HB := bs_ w hb; clear hb) | ((with_reducible refine gate_dst (N := 9) rfl ?_); (try refine ug_ (by rfl) ?_); refine bx_ #[.int .u64 0, .int .u64 0] 59 ?_; intro gb314 hg w69 BK314 hb; have GW314 := bz_ w hg; have GE314 := GW314; have NB301_314 := bn_ BK301 hg; have NB314_301 := bm_ BK301 hg; have NB310_314 := bn_ BK310 hg; have NB314_310 := bm_ BK310 hg; replace BK301 := bb_ BK301 hb; replace BK310 := bb_ BK310 hb; replace HB := bs_ w hb; clear hb hg; replace hn314_301 := NB314_301.out; replace hn301_314 := NB301_314.out; replace hn314_310 := NB314_310.out; replace hn310_314 := NB310_314.out; replace hc314 := ce2_ BK314) | ((with_reducible refine gate_callee (f := 48) rfl ?_); (try refine ug_ (by rfl) ?_); refine goesA_ (some 67) Try.func48 #[.agg #[.int .u64 t311, .int .u64 t312]] ?_; (with_reducible refine (wide_Small.calls t311 t312 t315 t316 _ A28.out).mono ?_); rintro e w73 ⟨rfl, hb⟩; refine ⟨_, rfl, ?_⟩; replace BK301 := bf_ BK301 hb; replace BK310 := bf_ BK310 hb; replace BK314 := Aside0.mk (blk_below (g := gb314) (o := .cells #[.int .u64 t311, .int .u64 t312] 59 (0, 0)) (bp2_ (bq_ BK314)) hb); replace HB := bs_ w hb; clear hb; replace hc301 := ce6_ BK301))
        go_ret2
        exact fi_
      ·rw [if_neg c29] at H
       have c29b0 : (t316 == 0) = false := beq_eq_false_iff_ne.mpr c29
       have c29b1 : (t316 != 0) = true := bne_iff_ne.mpr c29
       simp only [Option.some.injEq, Prod.mk.injEq] at H
       obtain ⟨rfl, rfl⟩ := H
       go_enter Try.func40, Try.ntmps40
       try go_wp2_with (first | ((with_reducible refine gate_dst (N := 2) rfl ?_); (try refine ug_ (by rfl) ?_); refine bx_ #[.int .i64 a0_0, .int .i64 a0_1, .int .i64 a0_2, .int .i64 a0_3, .int .i64 a0_4, .int .u64 a0_5] 32 ?_; intro gb301 hg w75 BK301 hb; have GW301 := bz_ w hg; have GE301 := GW301; replace HB := bs_ w hb; clear hb hg; replace hc301 := ce6_ BK301) | ((with_reducible refine gate_callee (f := 31) rfl ?_); (try refine ug_ (by rfl) ?_); refine goesA_ (some 14) Try.func31 #[.agg #[.int .i64 a0_0, .int .i64 a0_1, .int .i64 a0_2, .int .i64 a0_3, .int .i64 a0_4, .int .u64 a0_5]] ?_; (with_reducible refine (bucket_Check.calls a0_0 a0_1 a0_2 a0_3 a0_4 a0_5 t302 _ A3.out).mono ?_); rintro e w77 ⟨rfl, hb⟩; refine ⟨_, rfl, ?_⟩; replace BK301 := bb_ BK301 hb; replace HB := bs_ w hb; clear hb; replace hc301 := ce6_ BK301))
       replace BK301 := Aside0.mk (blk_drew BK301.out)
       replace HB := Aside0.mk (below_drew1 HB.out)
       refine start_ (n := 21) (S := fun w' => w'.cell? ⟨gb301, 0, none⟩ = some (.int .i64 a0_0) ∧ w'.cell? ⟨gb301, 1, none⟩ = some (.int .i64 a0_1) ∧ w'.cell? ⟨gb301, 2, none⟩ = some (.int .i64 a0_2) ∧ w'.cell? ⟨gb301, 3, none⟩ = some (.int .i64 a0_3) ∧ w'.cell? ⟨gb301, 4, none⟩ = some (.int .i64 a0_4) ∧ w'.cell? ⟨gb301, 5, none⟩ = some (.int .u64 a0_5)) (ds := []) (bl_ 21 0) (by kernel_rfl) rfl (by kernel_rfl) (cc6_ BK301) (fun hHeld => ?_); refine with_tabW bucket_Wait.tab10 bucket_Wait.bits10 (fun HT_ HW_ => ?_)
       generalize w77.drew = w79 at BK301 HB hHeld ⊢
       refine pa_ 0 (some 39) (bl_ 21 1) HT_ ?_
       refine pa_ 1 (some 40) (bl_ 21 3) HT_ ?_
       refine pa_ 5 (some 44) (bl_ 21 35) HT_ ?_
       refine pa_ 6 (some 45) (bl_ 21 99) HT_ ?_
       refine pa_ 10 (some 49) (bl_ 21 1123) HT_ ?_
       refine ta_ 2 (some 41) (bl_ 21 1127) HT_ HW_ hHeld ?_
       refine pa_ 3 (some 42) (bl_ 21 1135) HT_ ?_
       refine pa_ 4 (some 43) (bl_ 21 1151) HT_ ?_
       refine ta_ 7 (some 46) (bl_ 21 1279) HT_ HW_ hHeld ?_
       refine pa_ 8 (some 47) (bl_ 21 1535) HT_ ?_
       refine ta_ 11 (some 50) (bl_ 21 3583) HT_ HW_ hHeld ?_
       refine pa_ 12 (some 51) (bl_ 21 7679) HT_ ?_
       refine join_ (σ := Nat) 2 (bl_ 21 524287) (fun s_ => [(48, .agg #[.int .u64 t303, .int .u64 t304]), (52, .agg #[.int .u64 t305, .int .u64 t306]), (53, .tuple #[.agg #[.int .u64 t307, .int .u64 t308], .int .i64 t309]), (7, .pointer (some ⟨s_, 0, none⟩)), (38, .tuple #[.agg #[.int .u64 t307, .int .u64 t308], .int .i64 t309]), (54, .agg #[.int .u64 t307, .int .u64 t308]), (55, .int .i64 t309)]) (fun s_ w' => (w'.cell? ⟨gb301, 0, none⟩ = some (.int .i64 a0_0) ∧ w'.cell? ⟨gb301, 1, none⟩ = some (.int .i64 a0_1) ∧ w'.cell? ⟨gb301, 2, none⟩ = some (.int .i64 a0_2) ∧ w'.cell? ⟨gb301, 3, none⟩ = some (.int .i64 a0_3) ∧ w'.cell? ⟨gb301, 4, none⟩ = some (.int .i64 a0_4) ∧ w'.cell? ⟨gb301, 5, none⟩ = some (.int .u64 a0_5)) ∧ (w'.heap[gb301]? = some (.cells #[.int .i64 a0_0, .int .i64 a0_1, .int .i64 a0_2, .int .i64 a0_3, .int .i64 a0_4, .int .u64 a0_5] 32 (0, 0))) ∧ (w'.heap[s_]? = some (.cells #[.int .u64 0, .int .u64 0] 59 (0, 0))) ∧ (w.heap.size ≤ s_) ∧ (w.heap.size ≤ s_) ∧ (gb301 ≠ s_) ∧ (s_ ≠ gb301) ∧ (Below w.heap.size w w')) ?_ ?_
       rotate_left
       ·intro hCont
        refine tw_ 9 18 (some 48) (some 7) (bl_ 21 8191) (bl_ 21 269823) HT_ (fun K hK => ?_) fun K hK => ?_
        ·refine goesB_ Try.func21 #[.int .u64 (IntKind.u64.wrap (wrap64 (a1 - a0_3))), .int .u64 (IntKind.u64.wrap (a0_2))] ?_
         with_reducible refine (wide_Mul.calls (IntKind.u64.wrap (wrap64 (a1 - a0_3))) (IntKind.u64.wrap (a0_2)) t303 t304 _ A24.out).mono ?_
         rintro e w80 ⟨rfl, hb⟩
         refine ⟨_, rfl, ?_⟩
         replace BK301 := bb_ BK301 hb
         replace HB := bs_ w hb
         clear hb
         refine hK.out _ _ (cc6_ BK301) (fun hHeld => ?_)
         clear hK K
         refine nm_ (some 48) ?_
         refine tw_ 13 18 (some 52) (some 7) (bl_ 21 16383) (bl_ 21 270335) HT_ (fun K hK => ?_) fun K hK => ?_
         ·refine goesB_ Try.func23 #[.int .u64 (IntKind.u64.wrap (a0_4))] ?_
          with_reducible refine (wide_Of.calls (IntKind.u64.wrap (a0_4)) t305 t306 _ A25.out).mono ?_
          rintro e w81 ⟨rfl, hb⟩
          refine ⟨_, rfl, ?_⟩
          replace BK301 := bb_ BK301 hb
          replace HB := bs_ w hb
          clear hb
          refine hK.out _ _ (cc6_ BK301) (fun hHeld => ?_)
          clear hK K
          refine nm_ (some 52) ?_
          refine tw_ 14 18 (some 53) (some 7) (bl_ 21 32767) (bl_ 21 278527) HT_ (fun K hK => ?_) fun K hK => ?_
          ·refine goesB_ Try.func46 #[.agg #[.int .u64 t303, .int .u64 t304], .agg #[.int .u64 t305, .int .u64 t306]] ?_
           with_reducible refine (wide_Sub.calls t303 t304 t305 t306 t307 t308 t309 _ A26.out).mono ?_
           rintro e w82 ⟨rfl, hb⟩
           refine ⟨_, rfl, ?_⟩
           replace BK301 := bb_ BK301 hb
           replace HB := bs_ w hb
           clear hb
           refine hK.out _ _ (cc6_ BK301) (fun hHeld => ?_)
           clear hK K
           refine nm_ (some 53) ?_
           refine pa_ 15 (some 38) (bl_ 21 65535) HT_ ?_
           refine pa_ 16 (some 54) (bl_ 21 131071) HT_ ?_
           refine pa_ 17 (some 55) (bl_ 21 262143) HT_ ?_
           refine oa_ 18 (some 7) (bl_ 21 524287) HT_ fun K hK => ?_
           refine bs2_ #[.int .u64 0, .int .u64 0] 59 ?_
           intro gb310 hg w83 BK310 hb
           have GW310 := bz_ w hg
           have GE310 := GW310
           have NB301_310 := bn_ BK301 hg
           have NB310_301 := bm_ BK301 hg
           replace BK301 := bb_ BK301 hb
           replace HB := bs_ w hb
           clear hb hg
           refine hK.out _ _ (cc6_ BK301) (fun hHeld => ?_)
           clear hK K
           refine nm_ (some 7) ?_
           exact no_ (hCont (gb310) _ ⟨hHeld, (bq_ BK301), (bq_ BK310), GW310.out, GE310.out, NB301_310.out, NB310_301.out, bh_⟩)
          ·refine bs2_ #[.int .u64 0, .int .u64 0] 59 ?_
           intro gb310 hg w82 BK310 hb
           have GW310 := bz_ w hg
           have GE310 := GW310
           have NB301_310 := bn_ BK301 hg
           have NB310_301 := bm_ BK301 hg
           replace BK301 := bb_ BK301 hb
           replace HB := bs_ w hb
           clear hb hg
           refine hK.out _ _ (cc6_ BK301) (fun hHeld => ?_)
           clear hK K
           refine nm_ (some 7) ?_
           refine oa_ 14 (some 53) (bl_ 21 294911) HT_ fun K hK => ?_
           refine goesB_ Try.func46 #[.agg #[.int .u64 t303, .int .u64 t304], .agg #[.int .u64 t305, .int .u64 t306]] ?_
           with_reducible refine (wide_Sub.calls t303 t304 t305 t306 t307 t308 t309 _ A26.out).mono ?_
           rintro e w83 ⟨rfl, hb⟩
           refine ⟨_, rfl, ?_⟩
           replace BK301 := bb_ BK301 hb
           replace BK310 := bb_ BK310 hb
           replace HB := bs_ w hb
           clear hb
           refine hK.out _ _ (cc6_ BK301) (fun hHeld => ?_)
           clear hK K
           refine nm_ (some 53) ?_
           refine pa_ 15 (some 38) (bl_ 21 327679) HT_ ?_
           refine pa_ 16 (some 54) (bl_ 21 393215) HT_ ?_
           refine pa_ 17 (some 55) (bl_ 21 524287) HT_ ?_
           exact no_ (hCont (gb310) _ ⟨hHeld, (bq_ BK301), (bq_ BK310), GW310.out, GE310.out, NB301_310.out, NB310_301.out, bh_⟩)
         ·refine bs2_ #[.int .u64 0, .int .u64 0] 59 ?_
          intro gb310 hg w81 BK310 hb
          have GW310 := bz_ w hg
          have GE310 := GW310
          have NB301_310 := bn_ BK301 hg
          have NB310_301 := bm_ BK301 hg
          replace BK301 := bb_ BK301 hb
          replace HB := bs_ w hb
          clear hb hg
          refine hK.out _ _ (cc6_ BK301) (fun hHeld => ?_)
          clear hK K
          refine nm_ (some 7) ?_
          refine oa_ 13 (some 52) (bl_ 21 278527) HT_ fun K hK => ?_
          refine goesB_ Try.func23 #[.int .u64 (IntKind.u64.wrap (a0_4))] ?_
          with_reducible refine (wide_Of.calls (IntKind.u64.wrap (a0_4)) t305 t306 _ A25.out).mono ?_
          rintro e w82 ⟨rfl, hb⟩
          refine ⟨_, rfl, ?_⟩
          replace BK301 := bb_ BK301 hb
          replace BK310 := bb_ BK310 hb
          replace HB := bs_ w hb
          clear hb
          refine hK.out _ _ (cc6_ BK301) (fun hHeld => ?_)
          clear hK K
          refine nm_ (some 52) ?_
          refine oa_ 14 (some 53) (bl_ 21 294911) HT_ fun K hK => ?_
          refine goesB_ Try.func46 #[.agg #[.int .u64 t303, .int .u64 t304], .agg #[.int .u64 t305, .int .u64 t306]] ?_
          with_reducible refine (wide_Sub.calls t303 t304 t305 t306 t307 t308 t309 _ A26.out).mono ?_
          rintro e w83 ⟨rfl, hb⟩
          refine ⟨_, rfl, ?_⟩
          replace BK301 := bb_ BK301 hb
          replace BK310 := bb_ BK310 hb
          replace HB := bs_ w hb
          clear hb
          refine hK.out _ _ (cc6_ BK301) (fun hHeld => ?_)
          clear hK K
          refine nm_ (some 53) ?_
          refine pa_ 15 (some 38) (bl_ 21 327679) HT_ ?_
          refine pa_ 16 (some 54) (bl_ 21 393215) HT_ ?_
          refine pa_ 17 (some 55) (bl_ 21 524287) HT_ ?_
          exact no_ (hCont (gb310) _ ⟨hHeld, (bq_ BK301), (bq_ BK310), GW310.out, GE310.out, NB301_310.out, NB310_301.out, bh_⟩)
        ·refine bs2_ #[.int .u64 0, .int .u64 0] 59 ?_
         intro gb310 hg w80 BK310 hb
         have GW310 := bz_ w hg
         have GE310 := GW310
         have NB301_310 := bn_ BK301 hg
         have NB310_301 := bm_ BK301 hg
         replace BK301 := bb_ BK301 hb
         replace HB := bs_ w hb
         clear hb hg
         refine hK.out _ _ (cc6_ BK301) (fun hHeld => ?_)
         clear hK K
         refine nm_ (some 7) ?_
         refine oa_ 9 (some 48) (bl_ 21 270335) HT_ fun K hK => ?_
         refine goesB_ Try.func21 #[.int .u64 (IntKind.u64.wrap (wrap64 (a1 - a0_3))), .int .u64 (IntKind.u64.wrap (a0_2))] ?_
         with_reducible refine (wide_Mul.calls (IntKind.u64.wrap (wrap64 (a1 - a0_3))) (IntKind.u64.wrap (a0_2)) t303 t304 _ A24.out).mono ?_
         rintro e w81 ⟨rfl, hb⟩
         refine ⟨_, rfl, ?_⟩
         replace BK301 := bb_ BK301 hb
         replace BK310 := bb_ BK310 hb
         replace HB := bs_ w hb
         clear hb
         refine hK.out _ _ (cc6_ BK301) (fun hHeld => ?_)
         clear hK K
         refine nm_ (some 48) ?_
         refine oa_ 13 (some 52) (bl_ 21 278527) HT_ fun K hK => ?_
         refine goesB_ Try.func23 #[.int .u64 (IntKind.u64.wrap (a0_4))] ?_
         with_reducible refine (wide_Of.calls (IntKind.u64.wrap (a0_4)) t305 t306 _ A25.out).mono ?_
         rintro e w82 ⟨rfl, hb⟩
         refine ⟨_, rfl, ?_⟩
         replace BK301 := bb_ BK301 hb
         replace BK310 := bb_ BK310 hb
         replace HB := bs_ w hb
         clear hb
         refine hK.out _ _ (cc6_ BK301) (fun hHeld => ?_)
         clear hK K
         refine nm_ (some 52) ?_
         refine oa_ 14 (some 53) (bl_ 21 294911) HT_ fun K hK => ?_
         refine goesB_ Try.func46 #[.agg #[.int .u64 t303, .int .u64 t304], .agg #[.int .u64 t305, .int .u64 t306]] ?_
         with_reducible refine (wide_Sub.calls t303 t304 t305 t306 t307 t308 t309 _ A26.out).mono ?_
         rintro e w83 ⟨rfl, hb⟩
         refine ⟨_, rfl, ?_⟩
         replace BK301 := bb_ BK301 hb
         replace BK310 := bb_ BK310 hb
         replace HB := bs_ w hb
         clear hb
         refine hK.out _ _ (cc6_ BK301) (fun hHeld => ?_)
         clear hK K
         refine nm_ (some 53) ?_
         refine pa_ 15 (some 38) (bl_ 21 327679) HT_ ?_
         refine pa_ 16 (some 54) (bl_ 21 393215) HT_ ?_
         refine pa_ 17 (some 55) (bl_ 21 524287) HT_ ?_
         exact no_ (hCont (gb310) _ ⟨hHeld, (bq_ BK301), (bq_ BK310), GW310.out, GE310.out, NB301_310.out, NB310_301.out, bh_⟩)
       rintro gb310 w84 ⟨hS_, h0_, h1_, h2_, h3_, h4_, h5_, h6_⟩
       have BK310 := Aside0.mk h1_
       have GW310 := Aside0.mk h2_
       have GE310 := Aside0.mk h3_
       have NB301_310 := Aside0.mk h4_
       have NB310_301 := Aside0.mk h5_
       replace BK301 := Aside0.mk h0_
       replace HB := Aside0.mk h6_
       clear h0_ h1_ h2_ h3_ h4_ h5_ h6_
       have hHeld := hS_
       refine nq_ ?_
       refine oa_ 19 none (bl_ 21 1048575) HT_ fun K hK => ?_
       have hs85 : w84.cell? ⟨gb310, 0, none⟩ = some (.int .u64 0) := (blk_cell BK310.out 0).trans rfl
       have hfs85 := blk_frozen BK310.out 0
       have hns85_0 := NB301_310.out
       have hms85_0 := NB310_301.out
       have hs86 : w84.cell? ⟨gb310, 1, none⟩ = some (.int .u64 0) := (blk_cell BK310.out 1).trans rfl
       have hfs86 := blk_frozen BK310.out 1
       have hns86_0 := NB301_310.out
       have hms86_0 := NB310_301.out
       refine sk_ ?_
       refine hK.out _ _ (cf6_ hHeld) (fun hHeld => ?_)
       clear hK K
       refine pa_ 20 (some 8) (bl_ 21 2097151) HT_ ?_
       refine done_ (done_of HT_.out (by kernel_rfl)) ?_
       replace hn310_301 := NB310_301.out
       replace hn301_310 := NB301_310.out
       replace hc310 := ce2_ BK310
       replace hc301 := ce6_ BK301
       try go_wp2_with (first | ((with_reducible refine gate_callee (f := 47) rfl ?_); (try refine ug_ (by rfl) ?_); refine goesA_ (some 62) Try.func47 #[.agg #[.int .u64 t307, .int .u64 t308], .int .u64 (IntKind.u64.wrap (a0_1))] ?_; (with_reducible refine (wide_Up.calls k t307 t308 (IntKind.u64.wrap (a0_1)) t311 t312 t313 _ A27.out).mono ?_); rintro e w90 ⟨rfl, hb⟩; refine ⟨_, rfl, ?_⟩; replace BK301 := bf_ BK301 hb; replace BK310 := Aside0.mk (blk_below (g := gb310) (o := .cells #[.int .u64 t307, .int .u64 t308] 59 (0, 0)) (bp2_ (bq_ BK310)) hb); replace HB := bs_ w hb; clear hb) | ((with_reducible refine gate_dst (N := 9) rfl ?_); (try refine ug_ (by rfl) ?_); refine bx_ #[.int .u64 0, .int .u64 0] 59 ?_; intro gb314 hg w91 BK314 hb; have GW314 := bz_ w hg; have GE314 := GW314; have NB301_314 := bn_ BK301 hg; have NB314_301 := bm_ BK301 hg; have NB310_314 := bn_ BK310 hg; have NB314_310 := bm_ BK310 hg; replace BK301 := bb_ BK301 hb; replace BK310 := bb_ BK310 hb; replace HB := bs_ w hb; clear hb hg; replace hn314_301 := NB314_301.out; replace hn301_314 := NB301_314.out; replace hn314_310 := NB314_310.out; replace hn310_314 := NB310_314.out; replace hc314 := ce2_ BK314) | ((with_reducible refine gate_callee (f := 48) rfl ?_); (try refine ug_ (by rfl) ?_); refine goesA_ (some 67) Try.func48 #[.agg #[.int .u64 t311, .int .u64 t312]] ?_; (with_reducible refine (wide_Small.calls t311 t312 t315 t316 _ A28.out).mono ?_); rintro e w95 ⟨rfl, hb⟩; refine ⟨_, rfl, ?_⟩; replace BK301 := bf_ BK301 hb; replace BK310 := bf_ BK310 hb; replace BK314 := Aside0.mk (blk_below (g := gb314) (o := .cells #[.int .u64 t311, .int .u64 t312] 59 (0, 0)) (bp2_ (bq_ BK314)) hb); replace HB := bs_ w hb; clear hb))
       go_ret2
       exact fi_
 ·rw [if_neg c4] at H
  have c4b0 : (t302 == 0) = false := beq_eq_false_iff_ne.mpr c4
  have c4b1 : (t302 != 0) = true := bne_iff_ne.mpr c4
  simp only [Option.some.injEq, Prod.mk.injEq] at H
  obtain ⟨rfl, rfl⟩ := H
  go_enter Try.func40, Try.ntmps40
  go_wp2_with (first | ((with_reducible refine gate_dst (N := 2) rfl ?_); (try refine ug_ (by rfl) ?_); refine bx_ #[.int .i64 a0_0, .int .i64 a0_1, .int .i64 a0_2, .int .i64 a0_3, .int .i64 a0_4, .int .u64 a0_5] 32 ?_; intro gb301 hg w96 BK301 hb; have GW301 := bz_ w hg; have GE301 := GW301; replace HB := bs_ w hb; clear hb hg; replace hc301 := ce6_ BK301) | ((with_reducible refine gate_callee (f := 31) rfl ?_); (try refine ug_ (by rfl) ?_); refine goesA_ (some 14) Try.func31 #[.agg #[.int .i64 a0_0, .int .i64 a0_1, .int .i64 a0_2, .int .i64 a0_3, .int .i64 a0_4, .int .u64 a0_5]] ?_; (with_reducible refine (bucket_Check.calls a0_0 a0_1 a0_2 a0_3 a0_4 a0_5 t302 _ A3.out).mono ?_); rintro e w98 ⟨rfl, hb⟩; refine ⟨_, rfl, ?_⟩; replace BK301 := bb_ BK301 hb; replace HB := bs_ w hb; clear hb))
  go_ret2
  exact fi_

end Go.Proofs.Ytiifhbaabnpkeaa.X
