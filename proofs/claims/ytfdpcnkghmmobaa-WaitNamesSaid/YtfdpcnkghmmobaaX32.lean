-- written by xprint.py, a program of this session over the kit's print
import Derived.Test.YtfdpcnkghmmobaaX0
import Derived.Test.YtfdpcnkghmmobaaX4
import Derived.Test.YtfdpcnkghmmobaaX6
import Derived.Test.YtfdpcnkghmmobaaX30
import Derived.Test.YtfdpcnkghmmobaaX31
namespace Go.Proofs.Ytfdpcnkghmmobaa.X
open Go.RowKit Go.Proofs.YtfdpcnkghmmobaaW.PrintWords Go.Proofs.YtfdpcnkghmmobaaW.PrintLast Go.Proofs.YtfdpcnkghmmobaaW.PrintMore
attribute [local go_sem] max2_int min2_int max_two min_two max_three min_three max_four min_four   -- for this text's walks alone
set_option linter.unusedVariables false
set_option linter.unusedSimpArgs false

/-! ### bucket_Wait: function 37 -/
def bucket_Wait.f (k : Nat) (a0_0 : Int) (a0_1 : Int) (a0_2 : Int) (a0_3 : Int) (a0_4 : Int) (a0_5 : Int) (a1 : Int) : Option (Int × Int) := (bucket_Check.f a0_0 a0_1 a0_2 a0_3 a0_4 a0_5).bind fun t323 => (if t323 = 0 then (if a1 < 0 then (some (0, 2)) else (if a1 ≤ a0_3 then (some (0, 0)) else (if a1 > a0_0 then (some (18446744073709551615, 0)) else (if a0_1 = 0 then (some (18446744073709551615, 0)) else ((wide_Mul.f (IntKind.u64.wrap (wrap64 (a1 - a0_3))) (IntKind.u64.wrap (a0_2))).bind fun bt324 => ((wide_Of.f (IntKind.u64.wrap (a0_4))).bind fun bt326 => ((wide_Sub.f bt324.1 bt324.2 bt326.1 bt326.2).bind fun bt328 => ((wide_Up.f k bt328.1 bt328.2.1 (IntKind.u64.wrap (a0_1))).bind fun bt332 => ((wide_Small.f bt332.1 bt332.2.1).bind fun bt336 => (if bt336.2 = 0 then (if bt336.1 > (IntKind.u64.wrap (18446744073709551615 - a0_5)) then (some (18446744073709551615, 0)) else (some (bt336.1, 0))) else (some (18446744073709551615, 0)))))))))))) else (some (0, t323)))
theorem bucket_Wait.mono : ∀ a0 a1 a2 a3 a4 a5 a6 k, LeO (bucket_Wait.f k a0 a1 a2 a3 a4 a5 a6) (bucket_Wait.f (k + 1) a0 a1 a2 a3 a4 a5 a6) := by
  intro a0 a1 a2 a3 a4 a5 a6 k
  unfold bucket_Wait.f
  repeat' first
      | (with_reducible exact wide_Up.mono _ _ _ _)
      | (with_reducible exact LeO.refl _)
      | (with_reducible exact LeO.none _)
      | (with_reducible refine LeO.ite ?_ ?_)
      | (with_reducible refine LeO.bind ?_ (fun _ => ?_))
      | exact wide_Up.mono _ _ _ _
      | exact LeO.none _
      | refine LeO.ite ?_ ?_
      | refine LeO.bind ?_ (fun _ => ?_)
def bucket_Wait.T10 : Bool × List (List Nat × List Nat) := (true, [([], []), ([], []), ([1], [1]), ([0, 2], [0, 2]), ([3], [3]), ([], []), ([5], [5]), ([6], [6]), ([7], [7]), ([4, 8], [4, 8]), ([], []), ([10], [10]), ([11], [11]), ([12, 9], [12]), ([9, 13, 13], [9, 13]), ([14], [14]), ([15], [15]), ([15], [15]), ([], []), ([18, 16, 14, 0, 1, 2, 3, 4, 5, 6, 7, 8, 9, 10, 11, 12, 13, 14, 15, 16, 18], [16, 18]), ([17, 19, 0, 1, 2, 3, 4, 5, 6, 7, 8, 9, 10, 11, 12, 13, 14, 15, 16, 17, 18, 19], [17])])
def bucket_Wait.B10 : List Nat := [0, 0, 2, 7, 15, 0, 32, 96, 224, 511, 0, 1024, 3072, 8191, 16383, 32767, 65535, 65535, 0, 393215, 1048575]
theorem bucket_Wait.tab10 : rtab .any (opsOf Try.f37 10) = bucket_Wait.T10 := by kernel_rfl
theorem bucket_Wait.bits10 : waitsOk bucket_Wait.T10.2 bucket_Wait.B10 = true := by kernel_rfl
set_option maxHeartbeats 8000000 in
set_option maxRecDepth 100000 in
theorem bucket_Wait.calls (k : Nat) (a0_0 : Int) (a0_1 : Int) (a0_2 : Int) (a0_3 : Int) (a0_4 : Int) (a0_5 : Int) (a1 : Int) (r1 : Int) (r2 : Int) (w : World) (h : bucket_Wait.f k a0_0 a0_1 a0_2 a0_3 a0_4 a0_5 a1 = some (r1, r2)) :
  Calls Try.prog 37 #[.agg #[.int .i64 a0_0, .int .i64 a0_1, .int .i64 a0_2, .int .i64 a0_3, .int .i64 a0_4, .int .u64 a0_5], .int .i64 a1] w fun e w' => e = .returned (.tuple #[.int .u64 r1, .int .i64 r2]) ∧ Below w.heap.size w w' := by
 have hu63 := Try.underlying63
 have hu97 := Try.underlying97
 have HB := Aside0.mk (Below.refl w.heap.size w)
 have H : ((bucket_Check.f a0_0 a0_1 a0_2 a0_3 a0_4 a0_5).bind fun t323 => (if t323 = 0 then (if a1 < 0 then (some (0, 2)) else (if a1 ≤ a0_3 then (some (0, 0)) else (if a1 > a0_0 then (some (18446744073709551615, 0)) else (if a0_1 = 0 then (some (18446744073709551615, 0)) else ((wide_Mul.f (IntKind.u64.wrap (wrap64 (a1 - a0_3))) (IntKind.u64.wrap (a0_2))).bind fun bt324 => ((wide_Of.f (IntKind.u64.wrap (a0_4))).bind fun bt326 => ((wide_Sub.f bt324.1 bt324.2 bt326.1 bt326.2).bind fun bt328 => ((wide_Up.f k bt328.1 bt328.2.1 (IntKind.u64.wrap (a0_1))).bind fun bt332 => ((wide_Small.f bt332.1 bt332.2.1).bind fun bt336 => (if bt336.2 = 0 then (if bt336.1 > (IntKind.u64.wrap (18446744073709551615 - a0_5)) then (some (18446744073709551615, 0)) else (some (bt336.1, 0))) else (some (18446744073709551615, 0)))))))))))) else (some (0, t323)))) = some (r1, r2) := h
 clear h
 have H0_ := bo_ H; clear H; obtain ⟨t323, A3, H⟩ := H0_
 try dsimp only at H
 by_cases c4 : t323 = 0
 ·rw [if_pos c4] at H
  have c4b0 : (t323 == 0) = true := beq_iff_eq.mpr c4
  have c4b1 : (t323 != 0) = false := bne_eq_false_iff_eq.mpr c4
  clear c4
  by_cases c5 : a1 < 0
  ·rw [if_pos c5] at H
   have c5b0 : decide (a1 < 0) = true := decide_eq_true c5
   clear c5
   simp only [Option.some.injEq, Prod.mk.injEq] at H
   obtain ⟨rfl, rfl⟩ := H
   go_enter Try.func37, Try.ntmps37
   go_wp2_with (first | ((with_reducible refine gate_dst (N := 2) rfl ?_); (try refine ug_ (by rfl) ?_); refine bx_ #[.int .i64 a0_0, .int .i64 a0_1, .int .i64 a0_2, .int .i64 a0_3, .int .i64 a0_4, .int .u64 a0_5] 63 ?_; intro gb322 hg w6 BK322 hb; have GW322 := bz_ w hg; have GE322 := GW322; replace HB := bs_ w hb; clear hb hg; replace hc322 := ce6_ BK322) | ((with_reducible refine gate_callee (f := 54) rfl ?_); (try refine ug_ (by rfl) ?_); refine goesA_ (some 14) Try.func54 #[.agg #[.int .i64 a0_0, .int .i64 a0_1, .int .i64 a0_2, .int .i64 a0_3, .int .i64 a0_4, .int .u64 a0_5]] ?_; (with_reducible refine (bucket_Check.calls a0_0 a0_1 a0_2 a0_3 a0_4 a0_5 t323 _ A3.out).mono ?_); rintro e w8 ⟨rfl, hb⟩; refine ⟨_, rfl, ?_⟩; replace BK322 := bb_ BK322 hb; replace HB := bs_ w hb; clear hb))
   go_ret2
   exact fi_
  ·rw [if_neg c5] at H
   have c5b0 : decide (a1 < 0) = false := decide_eq_false c5
   clear c5
   by_cases c9 : a1 ≤ a0_3
   ·rw [if_pos c9] at H
    have c9b0 : decide (a1 ≤ a0_3) = true := decide_eq_true c9
    clear c9
    simp only [Option.some.injEq, Prod.mk.injEq] at H
    obtain ⟨rfl, rfl⟩ := H
    go_enter Try.func37, Try.ntmps37
    go_wp2_with (first | ((with_reducible refine gate_dst (N := 2) rfl ?_); (try refine ug_ (by rfl) ?_); refine bx_ #[.int .i64 a0_0, .int .i64 a0_1, .int .i64 a0_2, .int .i64 a0_3, .int .i64 a0_4, .int .u64 a0_5] 63 ?_; intro gb322 hg w10 BK322 hb; have GW322 := bz_ w hg; have GE322 := GW322; replace HB := bs_ w hb; clear hb hg; replace hc322 := ce6_ BK322) | ((with_reducible refine gate_callee (f := 54) rfl ?_); (try refine ug_ (by rfl) ?_); refine goesA_ (some 14) Try.func54 #[.agg #[.int .i64 a0_0, .int .i64 a0_1, .int .i64 a0_2, .int .i64 a0_3, .int .i64 a0_4, .int .u64 a0_5]] ?_; (with_reducible refine (bucket_Check.calls a0_0 a0_1 a0_2 a0_3 a0_4 a0_5 t323 _ A3.out).mono ?_); rintro e w12 ⟨rfl, hb⟩; refine ⟨_, rfl, ?_⟩; replace BK322 := bb_ BK322 hb; replace HB := bs_ w hb; clear hb; replace hc322 := ce6_ BK322))
    go_ret2
    exact fi_
   ·rw [if_neg c9] at H
    have c9b0 : decide (a1 ≤ a0_3) = false := decide_eq_false c9
    clear c9
    by_cases c14 : a1 > a0_0
    ·rw [if_pos c14] at H
     have c14b0 : decide (a0_0 < a1) = true := decide_eq_true c14
     clear c14
     simp only [Option.some.injEq, Prod.mk.injEq] at H
     obtain ⟨rfl, rfl⟩ := H
     go_enter Try.func37, Try.ntmps37
     go_wp2_with (first | ((with_reducible refine gate_dst (N := 2) rfl ?_); (try refine ug_ (by rfl) ?_); refine bx_ #[.int .i64 a0_0, .int .i64 a0_1, .int .i64 a0_2, .int .i64 a0_3, .int .i64 a0_4, .int .u64 a0_5] 63 ?_; intro gb322 hg w15 BK322 hb; have GW322 := bz_ w hg; have GE322 := GW322; replace HB := bs_ w hb; clear hb hg; replace hc322 := ce6_ BK322) | ((with_reducible refine gate_callee (f := 54) rfl ?_); (try refine ug_ (by rfl) ?_); refine goesA_ (some 14) Try.func54 #[.agg #[.int .i64 a0_0, .int .i64 a0_1, .int .i64 a0_2, .int .i64 a0_3, .int .i64 a0_4, .int .u64 a0_5]] ?_; (with_reducible refine (bucket_Check.calls a0_0 a0_1 a0_2 a0_3 a0_4 a0_5 t323 _ A3.out).mono ?_); rintro e w17 ⟨rfl, hb⟩; refine ⟨_, rfl, ?_⟩; replace BK322 := bb_ BK322 hb; replace HB := bs_ w hb; clear hb; replace hc322 := ce6_ BK322))
     go_ret2
     exact fi_
    ·rw [if_neg c14] at H
     have c14b0 : decide (a0_0 < a1) = false := decide_eq_false c14
     clear c14
     by_cases c19 : a0_1 = 0
     ·rw [if_pos c19] at H
      have c19b0 : (a0_1 == 0) = true := beq_iff_eq.mpr c19
      have c19b1 : (a0_1 != 0) = false := bne_eq_false_iff_eq.mpr c19
      clear c19
      simp only [Option.some.injEq, Prod.mk.injEq] at H
      obtain ⟨rfl, rfl⟩ := H
      go_enter Try.func37, Try.ntmps37
      go_wp2_with (first | ((with_reducible refine gate_dst (N := 2) rfl ?_); (try refine ug_ (by rfl) ?_); refine bx_ #[.int .i64 a0_0, .int .i64 a0_1, .int .i64 a0_2, .int .i64 a0_3, .int .i64 a0_4, .int .u64 a0_5] 63 ?_; intro gb322 hg w20 BK322 hb; have GW322 := bz_ w hg; have GE322 := GW322; replace HB := bs_ w hb; clear hb hg; replace hc322 := ce6_ BK322) | ((with_reducible refine gate_callee (f := 54) rfl ?_); (try refine ug_ (by rfl) ?_); refine goesA_ (some 14) Try.func54 #[.agg #[.int .i64 a0_0, .int .i64 a0_1, .int .i64 a0_2, .int .i64 a0_3, .int .i64 a0_4, .int .u64 a0_5]] ?_; (with_reducible refine (bucket_Check.calls a0_0 a0_1 a0_2 a0_3 a0_4 a0_5 t323 _ A3.out).mono ?_); rintro e w22 ⟨rfl, hb⟩; refine ⟨_, rfl, ?_⟩; replace BK322 := bb_ BK322 hb; replace HB := bs_ w hb; clear hb; replace hc322 := ce6_ BK322))
      go_ret2
      exact fi_
     ·rw [if_neg c19] at H
      have c19b0 : (a0_1 == 0) = false := beq_eq_false_iff_ne.mpr c19
      have c19b1 : (a0_1 != 0) = true := bne_iff_ne.mpr c19
      have H0_ := bo_ H; clear H; obtain ⟨⟨t324, t325⟩, A24, H⟩ := H0_
      try dsimp only at H
      have H0_ := bo_ H; clear H; obtain ⟨⟨t326, t327⟩, A25, H⟩ := H0_
      try dsimp only at H
      have H0_ := bo_ H; clear H; obtain ⟨⟨t328, t329, t330⟩, A26, H⟩ := H0_
      try dsimp only at H
      have H0_ := bo_ H; clear H; obtain ⟨⟨t332, t333, t334⟩, A27, H⟩ := H0_
      try dsimp only at H
      have H0_ := bo_ H; clear H; obtain ⟨⟨t336, t337⟩, A28, H⟩ := H0_
      try dsimp only at H
      by_cases c29 : t337 = 0
      ·rw [if_pos c29] at H
       have c29b0 : (t337 == 0) = true := beq_iff_eq.mpr c29
       have c29b1 : (t337 != 0) = false := bne_eq_false_iff_eq.mpr c29
       clear c29
       by_cases c30 : t336 > (IntKind.u64.wrap (18446744073709551615 - a0_5))
       ·rw [if_pos c30] at H
        have c30b0 : decide ((IntKind.u64.wrap (18446744073709551615 - a0_5)) < t336) = true := decide_eq_true c30
        clear c30
        simp only [Option.some.injEq, Prod.mk.injEq] at H
        obtain ⟨rfl, rfl⟩ := H
        go_enter Try.func37, Try.ntmps37
        try go_wp2_with (first | ((with_reducible refine gate_dst (N := 2) rfl ?_); (try refine ug_ (by rfl) ?_); refine bx_ #[.int .i64 a0_0, .int .i64 a0_1, .int .i64 a0_2, .int .i64 a0_3, .int .i64 a0_4, .int .u64 a0_5] 63 ?_; intro gb322 hg w31 BK322 hb; have GW322 := bz_ w hg; have GE322 := GW322; replace HB := bs_ w hb; clear hb hg; replace hc322 := ce6_ BK322) | ((with_reducible refine gate_callee (f := 54) rfl ?_); (try refine ug_ (by rfl) ?_); refine goesA_ (some 14) Try.func54 #[.agg #[.int .i64 a0_0, .int .i64 a0_1, .int .i64 a0_2, .int .i64 a0_3, .int .i64 a0_4, .int .u64 a0_5]] ?_; (with_reducible refine (bucket_Check.calls a0_0 a0_1 a0_2 a0_3 a0_4 a0_5 t323 _ A3.out).mono ?_); rintro e w33 ⟨rfl, hb⟩; refine ⟨_, rfl, ?_⟩; replace BK322 := bb_ BK322 hb; replace HB := bs_ w hb; clear hb; replace hc322 := ce6_ BK322))
        replace BK322 := Aside0.mk (blk_drew BK322.out)
        replace HB := Aside0.mk (below_drew1 HB.out)
        refine start_ (n := 21) (S := fun w' => w'.cell? ⟨gb322, 0, none⟩ = some (.int .i64 a0_0) ∧ w'.cell? ⟨gb322, 1, none⟩ = some (.int .i64 a0_1) ∧ w'.cell? ⟨gb322, 2, none⟩ = some (.int .i64 a0_2) ∧ w'.cell? ⟨gb322, 3, none⟩ = some (.int .i64 a0_3) ∧ w'.cell? ⟨gb322, 4, none⟩ = some (.int .i64 a0_4) ∧ w'.cell? ⟨gb322, 5, none⟩ = some (.int .u64 a0_5)) (ds := []) (bl_ 21 0) (by kernel_rfl) rfl (by kernel_rfl) (cc6_ BK322) (fun hHeld => ?_); refine with_tabW bucket_Wait.tab10 bucket_Wait.bits10 (fun HT_ HW_ => ?_)
        generalize w33.drew = w35 at BK322 HB hHeld ⊢
        refine pa_ 0 (some 39) (bl_ 21 1) HT_ ?_
        refine pa_ 1 (some 40) (bl_ 21 3) HT_ ?_
        refine pa_ 5 (some 44) (bl_ 21 35) HT_ ?_
        refine pa_ 6 (some 45) (bl_ 21 99) HT_ ?_
        refine pa_ 10 (some 49) (bl_ 21 1123) HT_ ?_
        refine ta_ 2 (some 41) (bl_ 21 1127) HT_ HW_ hHeld ?_
        refine pa_ 3 (some 42) (bl_ 21 1135) HT_ ?_
        refine pa_ 4 (some 43) (bl_ 21 1151) HT_ ?_
        refine ta_ 7 (some 46) (bl_ 21 1279) HT_ HW_ hHeld ?_
        refine pa_ 8 (some 47) (bl_ 21 1535) HT_ ?_
        refine ta_ 11 (some 50) (bl_ 21 3583) HT_ HW_ hHeld ?_
        refine pa_ 12 (some 51) (bl_ 21 7679) HT_ ?_
        refine join_ (σ := Nat) 2 (bl_ 21 524287) (fun s_ => [(48, .agg #[.int .u64 t324, .int .u64 t325]), (52, .agg #[.int .u64 t326, .int .u64 t327]), (53, .tuple #[.agg #[.int .u64 t328, .int .u64 t329], .int .i64 t330]), (7, .pointer (some ⟨s_, 0, none⟩)), (38, .tuple #[.agg #[.int .u64 t328, .int .u64 t329], .int .i64 t330]), (54, .agg #[.int .u64 t328, .int .u64 t329]), (55, .int .i64 t330)]) (fun s_ w' => (w'.cell? ⟨gb322, 0, none⟩ = some (.int .i64 a0_0) ∧ w'.cell? ⟨gb322, 1, none⟩ = some (.int .i64 a0_1) ∧ w'.cell? ⟨gb322, 2, none⟩ = some (.int .i64 a0_2) ∧ w'.cell? ⟨gb322, 3, none⟩ = some (.int .i64 a0_3) ∧ w'.cell? ⟨gb322, 4, none⟩ = some (.int .i64 a0_4) ∧ w'.cell? ⟨gb322, 5, none⟩ = some (.int .u64 a0_5)) ∧ (w'.heap[gb322]? = some (.cells #[.int .i64 a0_0, .int .i64 a0_1, .int .i64 a0_2, .int .i64 a0_3, .int .i64 a0_4, .int .u64 a0_5] 63 (0, 0))) ∧ (w'.heap[s_]? = some (.cells #[.int .u64 0, .int .u64 0] 97 (0, 0))) ∧ (w.heap.size ≤ s_) ∧ (w.heap.size ≤ s_) ∧ (gb322 ≠ s_) ∧ (s_ ≠ gb322) ∧ (Below w.heap.size w w')) ?_ ?_
        rotate_left
        ·intro hCont
         refine tw_ 9 18 (some 48) (some 7) (bl_ 21 8191) (bl_ 21 269823) HT_ (fun K hK => ?_) fun K hK => ?_
         ·refine goesB_ Try.func57 #[.int .u64 (IntKind.u64.wrap (wrap64 (a1 - a0_3))), .int .u64 (IntKind.u64.wrap (a0_2))] ?_
          with_reducible refine (wide_Mul.calls (IntKind.u64.wrap (wrap64 (a1 - a0_3))) (IntKind.u64.wrap (a0_2)) t324 t325 _ A24.out).mono ?_
          rintro e w36 ⟨rfl, hb⟩
          refine ⟨_, rfl, ?_⟩
          replace BK322 := bb_ BK322 hb
          replace HB := bs_ w hb
          clear hb
          refine hK.out _ _ (cc6_ BK322) (fun hHeld => ?_)
          clear hK K
          refine nm_ (some 48) ?_
          refine tw_ 13 18 (some 52) (some 7) (bl_ 21 16383) (bl_ 21 270335) HT_ (fun K hK => ?_) fun K hK => ?_
          ·refine goesB_ Try.func58 #[.int .u64 (IntKind.u64.wrap (a0_4))] ?_
           with_reducible refine (wide_Of.calls (IntKind.u64.wrap (a0_4)) t326 t327 _ A25.out).mono ?_
           rintro e w37 ⟨rfl, hb⟩
           refine ⟨_, rfl, ?_⟩
           replace BK322 := bb_ BK322 hb
           replace HB := bs_ w hb
           clear hb
           refine hK.out _ _ (cc6_ BK322) (fun hHeld => ?_)
           clear hK K
           refine nm_ (some 52) ?_
           refine tw_ 14 18 (some 53) (some 7) (bl_ 21 32767) (bl_ 21 278527) HT_ (fun K hK => ?_) fun K hK => ?_
           ·refine goesB_ Try.func56 #[.agg #[.int .u64 t324, .int .u64 t325], .agg #[.int .u64 t326, .int .u64 t327]] ?_
            with_reducible refine (wide_Sub.calls t324 t325 t326 t327 t328 t329 t330 _ A26.out).mono ?_
            rintro e w38 ⟨rfl, hb⟩
            refine ⟨_, rfl, ?_⟩
            replace BK322 := bb_ BK322 hb
            replace HB := bs_ w hb
            clear hb
            refine hK.out _ _ (cc6_ BK322) (fun hHeld => ?_)
            clear hK K
            refine nm_ (some 53) ?_
            refine pa_ 15 (some 38) (bl_ 21 65535) HT_ ?_
            refine pa_ 16 (some 54) (bl_ 21 131071) HT_ ?_
            refine pa_ 17 (some 55) (bl_ 21 262143) HT_ ?_
            refine oa_ 18 (some 7) (bl_ 21 524287) HT_ fun K hK => ?_
            refine bs2_ #[.int .u64 0, .int .u64 0] 97 ?_
            intro gb331 hg w39 BK331 hb
            have GW331 := bz_ w hg
            have GE331 := GW331
            have NB322_331 := bn_ BK322 hg
            have NB331_322 := bm_ BK322 hg
            replace BK322 := bb_ BK322 hb
            replace HB := bs_ w hb
            clear hb hg
            refine hK.out _ _ (cc6_ BK322) (fun hHeld => ?_)
            clear hK K
            refine nm_ (some 7) ?_
            exact no_ (hCont (gb331) _ ⟨hHeld, (bq_ BK322), (bq_ BK331), GW331.out, GE331.out, NB322_331.out, NB331_322.out, bh_⟩)
           ·refine bs2_ #[.int .u64 0, .int .u64 0] 97 ?_
            intro gb331 hg w38 BK331 hb
            have GW331 := bz_ w hg
            have GE331 := GW331
            have NB322_331 := bn_ BK322 hg
            have NB331_322 := bm_ BK322 hg
            replace BK322 := bb_ BK322 hb
            replace HB := bs_ w hb
            clear hb hg
            refine hK.out _ _ (cc6_ BK322) (fun hHeld => ?_)
            clear hK K
            refine nm_ (some 7) ?_
            refine oa_ 14 (some 53) (bl_ 21 294911) HT_ fun K hK => ?_
            refine goesB_ Try.func56 #[.agg #[.int .u64 t324, .int .u64 t325], .agg #[.int .u64 t326, .int .u64 t327]] ?_
            with_reducible refine (wide_Sub.calls t324 t325 t326 t327 t328 t329 t330 _ A26.out).mono ?_
            rintro e w39 ⟨rfl, hb⟩
            refine ⟨_, rfl, ?_⟩
            replace BK322 := bb_ BK322 hb
            replace BK331 := bb_ BK331 hb
            replace HB := bs_ w hb
            clear hb
            refine hK.out _ _ (cc6_ BK322) (fun hHeld => ?_)
            clear hK K
            refine nm_ (some 53) ?_
            refine pa_ 15 (some 38) (bl_ 21 327679) HT_ ?_
            refine pa_ 16 (some 54) (bl_ 21 393215) HT_ ?_
            refine pa_ 17 (some 55) (bl_ 21 524287) HT_ ?_
            exact no_ (hCont (gb331) _ ⟨hHeld, (bq_ BK322), (bq_ BK331), GW331.out, GE331.out, NB322_331.out, NB331_322.out, bh_⟩)
          ·refine bs2_ #[.int .u64 0, .int .u64 0] 97 ?_
           intro gb331 hg w37 BK331 hb
           have GW331 := bz_ w hg
           have GE331 := GW331
           have NB322_331 := bn_ BK322 hg
           have NB331_322 := bm_ BK322 hg
           replace BK322 := bb_ BK322 hb
           replace HB := bs_ w hb
           clear hb hg
           refine hK.out _ _ (cc6_ BK322) (fun hHeld => ?_)
           clear hK K
           refine nm_ (some 7) ?_
           refine oa_ 13 (some 52) (bl_ 21 278527) HT_ fun K hK => ?_
           refine goesB_ Try.func58 #[.int .u64 (IntKind.u64.wrap (a0_4))] ?_
           with_reducible refine (wide_Of.calls (IntKind.u64.wrap (a0_4)) t326 t327 _ A25.out).mono ?_
           rintro e w38 ⟨rfl, hb⟩
           refine ⟨_, rfl, ?_⟩
           replace BK322 := bb_ BK322 hb
           replace BK331 := bb_ BK331 hb
           replace HB := bs_ w hb
           clear hb
           refine hK.out _ _ (cc6_ BK322) (fun hHeld => ?_)
           clear hK K
           refine nm_ (some 52) ?_
           refine oa_ 14 (some 53) (bl_ 21 294911) HT_ fun K hK => ?_
           refine goesB_ Try.func56 #[.agg #[.int .u64 t324, .int .u64 t325], .agg #[.int .u64 t326, .int .u64 t327]] ?_
           with_reducible refine (wide_Sub.calls t324 t325 t326 t327 t328 t329 t330 _ A26.out).mono ?_
           rintro e w39 ⟨rfl, hb⟩
           refine ⟨_, rfl, ?_⟩
           replace BK322 := bb_ BK322 hb
           replace BK331 := bb_ BK331 hb
           replace HB := bs_ w hb
           clear hb
           refine hK.out _ _ (cc6_ BK322) (fun hHeld => ?_)
           clear hK K
           refine nm_ (some 53) ?_
           refine pa_ 15 (some 38) (bl_ 21 327679) HT_ ?_
           refine pa_ 16 (some 54) (bl_ 21 393215) HT_ ?_
           refine pa_ 17 (some 55) (bl_ 21 524287) HT_ ?_
           exact no_ (hCont (gb331) _ ⟨hHeld, (bq_ BK322), (bq_ BK331), GW331.out, GE331.out, NB322_331.out, NB331_322.out, bh_⟩)
         ·refine bs2_ #[.int .u64 0, .int .u64 0] 97 ?_
          intro gb331 hg w36 BK331 hb
          have GW331 := bz_ w hg
          have GE331 := GW331
          have NB322_331 := bn_ BK322 hg
          have NB331_322 := bm_ BK322 hg
          replace BK322 := bb_ BK322 hb
          replace HB := bs_ w hb
          clear hb hg
          refine hK.out _ _ (cc6_ BK322) (fun hHeld => ?_)
          clear hK K
          refine nm_ (some 7) ?_
          refine oa_ 9 (some 48) (bl_ 21 270335) HT_ fun K hK => ?_
          refine goesB_ Try.func57 #[.int .u64 (IntKind.u64.wrap (wrap64 (a1 - a0_3))), .int .u64 (IntKind.u64.wrap (a0_2))] ?_
          with_reducible refine (wide_Mul.calls (IntKind.u64.wrap (wrap64 (a1 - a0_3))) (IntKind.u64.wrap (a0_2)) t324 t325 _ A24.out).mono ?_
          rintro e w37 ⟨rfl, hb⟩
          refine ⟨_, rfl, ?_⟩
          replace BK322 := bb_ BK322 hb
          replace BK331 := bb_ BK331 hb
          replace HB := bs_ w hb
          clear hb
          refine hK.out _ _ (cc6_ BK322) (fun hHeld => ?_)
          clear hK K
          refine nm_ (some 48) ?_
          refine oa_ 13 (some 52) (bl_ 21 278527) HT_ fun K hK => ?_
          refine goesB_ Try.func58 #[.int .u64 (IntKind.u64.wrap (a0_4))] ?_
          with_reducible refine (wide_Of.calls (IntKind.u64.wrap (a0_4)) t326 t327 _ A25.out).mono ?_
          rintro e w38 ⟨rfl, hb⟩
          refine ⟨_, rfl, ?_⟩
          replace BK322 := bb_ BK322 hb
          replace BK331 := bb_ BK331 hb
          replace HB := bs_ w hb
          clear hb
          refine hK.out _ _ (cc6_ BK322) (fun hHeld => ?_)
          clear hK K
          refine nm_ (some 52) ?_
          refine oa_ 14 (some 53) (bl_ 21 294911) HT_ fun K hK => ?_
          refine goesB_ Try.func56 #[.agg #[.int .u64 t324, .int .u64 t325], .agg #[.int .u64 t326, .int .u64 t327]] ?_
          with_reducible refine (wide_Sub.calls t324 t325 t326 t327 t328 t329 t330 _ A26.out).mono ?_
          rintro e w39 ⟨rfl, hb⟩
          refine ⟨_, rfl, ?_⟩
          replace BK322 := bb_ BK322 hb
          replace BK331 := bb_ BK331 hb
          replace HB := bs_ w hb
          clear hb
          refine hK.out _ _ (cc6_ BK322) (fun hHeld => ?_)
          clear hK K
          refine nm_ (some 53) ?_
          refine pa_ 15 (some 38) (bl_ 21 327679) HT_ ?_
          refine pa_ 16 (some 54) (bl_ 21 393215) HT_ ?_
          refine pa_ 17 (some 55) (bl_ 21 524287) HT_ ?_
          exact no_ (hCont (gb331) _ ⟨hHeld, (bq_ BK322), (bq_ BK331), GW331.out, GE331.out, NB322_331.out, NB331_322.out, bh_⟩)
        rintro gb331 w40 ⟨hS_, h0_, h1_, h2_, h3_, h4_, h5_, h6_⟩
        have BK331 := Aside0.mk h1_
        have GW331 := Aside0.mk h2_
        have GE331 := Aside0.mk h3_
        have NB322_331 := Aside0.mk h4_
        have NB331_322 := Aside0.mk h5_
        replace BK322 := Aside0.mk h0_
        replace HB := Aside0.mk h6_
        clear h0_ h1_ h2_ h3_ h4_ h5_ h6_
        have hHeld := hS_
        refine nq_ ?_
        refine oa_ 19 none (bl_ 21 1048575) HT_ fun K hK => ?_
        have hs41 : w40.cell? ⟨gb331, 0, none⟩ = some (.int .u64 0) := (blk_cell BK331.out 0).trans rfl
        have hfs41 := blk_frozen BK331.out 0
        have hns41_0 := NB322_331.out
        have hms41_0 := NB331_322.out
        have hs42 : w40.cell? ⟨gb331, 1, none⟩ = some (.int .u64 0) := (blk_cell BK331.out 1).trans rfl
        have hfs42 := blk_frozen BK331.out 1
        have hns42_0 := NB322_331.out
        have hms42_0 := NB331_322.out
        refine sk_ ?_
        refine hK.out _ _ (cf6_ hHeld) (fun hHeld => ?_)
        clear hK K
        refine pa_ 20 (some 8) (bl_ 21 2097151) HT_ ?_
        refine done_ (done_of HT_.out (by kernel_rfl)) ?_
        replace hn331_322 := NB331_322.out
        replace hn322_331 := NB322_331.out
        replace hc331 := ce2_ BK331
        replace hc322 := ce6_ BK322
        try go_wp2_with (first | ((with_reducible refine gate_callee (f := 59) rfl ?_); (try refine ug_ (by rfl) ?_); refine goesA_ (some 62) Try.func59 #[.agg #[.int .u64 t328, .int .u64 t329], .int .u64 (IntKind.u64.wrap (a0_1))] ?_; (with_reducible refine (wide_Up.calls k t328 t329 (IntKind.u64.wrap (a0_1)) t332 t333 t334 _ A27.out).mono ?_); rintro e w46 ⟨rfl, hb⟩; refine ⟨_, rfl, ?_⟩; replace BK322 := bf_ BK322 hb; replace BK331 := Aside0.mk (blk_below (g := gb331) (o := .cells #[.int .u64 t328, .int .u64 t329] 97 (0, 0)) (bp2_ (bq_ BK331)) hb); replace HB := bs_ w hb; clear hb) | ((with_reducible refine gate_dst (N := 9) rfl ?_); (try refine ug_ (by rfl) ?_); refine bx_ #[.int .u64 0, .int .u64 0] 97 ?_; intro gb335 hg w47 BK335 hb; have GW335 := bz_ w hg; have GE335 := GW335; have NB322_335 := bn_ BK322 hg; have NB335_322 := bm_ BK322 hg; have NB331_335 := bn_ BK331 hg; have NB335_331 := bm_ BK331 hg; replace BK322 := bb_ BK322 hb; replace BK331 := bb_ BK331 hb; replace HB := bs_ w hb; clear hb hg; replace hn335_322 := NB335_322.out; replace hn322_335 := NB322_335.out; replace hn335_331 := NB335_331.out; replace hn331_335 := NB331_335.out; replace hc335 := ce2_ BK335) | ((with_reducible refine gate_callee (f := 60) rfl ?_); (try refine ug_ (by rfl) ?_); refine goesA_ (some 67) Try.func60 #[.agg #[.int .u64 t332, .int .u64 t333]] ?_; (with_reducible refine (wide_Small.calls t332 t333 t336 t337 _ A28.out).mono ?_); rintro e w51 ⟨rfl, hb⟩; refine ⟨_, rfl, ?_⟩; replace BK322 := bf_ BK322 hb; replace BK331 := bf_ BK331 hb; replace BK335 := Aside0.mk (blk_below (g := gb335) (o := .cells #[.int .u64 t332, .int .u64 t333] 97 (0, 0)) (bp2_ (bq_ BK335)) hb); replace HB := bs_ w hb; clear hb; replace hc322 := ce6_ BK322))
        go_ret2
        exact fi_
       ·rw [if_neg c30] at H
        have c30b0 : decide ((IntKind.u64.wrap (18446744073709551615 - a0_5)) < t336) = false := decide_eq_false c30
        clear c30
        simp only [Option.some.injEq, Prod.mk.injEq] at H
        obtain ⟨rfl, rfl⟩ := H
        go_enter Try.func37, Try.ntmps37
        try go_wp2_with (first | ((with_reducible refine gate_dst (N := 2) rfl ?_); (try refine ug_ (by rfl) ?_); refine bx_ #[.int .i64 a0_0, .int .i64 a0_1, .int .i64 a0_2, .int .i64 a0_3, .int .i64 a0_4, .int .u64 a0_5] 63 ?_; intro gb322 hg w53 BK322 hb; have GW322 := bz_ w hg; have GE322 := GW322; replace HB := bs_ w hb; clear hb hg; replace hc322 := ce6_ BK322) | ((with_reducible refine gate_callee (f := 54) rfl ?_); (try refine ug_ (by rfl) ?_); refine goesA_ (some 14) Try.func54 #[.agg #[.int .i64 a0_0, .int .i64 a0_1, .int .i64 a0_2, .int .i64 a0_3, .int .i64 a0_4, .int .u64 a0_5]] ?_; (with_reducible refine (bucket_Check.calls a0_0 a0_1 a0_2 a0_3 a0_4 a0_5 t323 _ A3.out).mono ?_); rintro e w55 ⟨rfl, hb⟩; refine ⟨_, rfl, ?_⟩; replace BK322 := bb_ BK322 hb; replace HB := bs_ w hb; clear hb; replace hc322 := ce6_ BK322))
        replace BK322 := Aside0.mk (blk_drew BK322.out)
        replace HB := Aside0.mk (below_drew1 HB.out)
        refine start_ (n := 21) (S := fun w' => w'.cell? ⟨gb322, 0, none⟩ = some (.int .i64 a0_0) ∧ w'.cell? ⟨gb322, 1, none⟩ = some (.int .i64 a0_1) ∧ w'.cell? ⟨gb322, 2, none⟩ = some (.int .i64 a0_2) ∧ w'.cell? ⟨gb322, 3, none⟩ = some (.int .i64 a0_3) ∧ w'.cell? ⟨gb322, 4, none⟩ = some (.int .i64 a0_4) ∧ w'.cell? ⟨gb322, 5, none⟩ = some (.int .u64 a0_5)) (ds := []) (bl_ 21 0) (by kernel_rfl) rfl (by kernel_rfl) (cc6_ BK322) (fun hHeld => ?_); refine with_tabW bucket_Wait.tab10 bucket_Wait.bits10 (fun HT_ HW_ => ?_)
        generalize w55.drew = w57 at BK322 HB hHeld ⊢
        refine pa_ 0 (some 39) (bl_ 21 1) HT_ ?_
        refine pa_ 1 (some 40) (bl_ 21 3) HT_ ?_
        refine pa_ 5 (some 44) (bl_ 21 35) HT_ ?_
        refine pa_ 6 (some 45) (bl_ 21 99) HT_ ?_
        refine pa_ 10 (some 49) (bl_ 21 1123) HT_ ?_
        refine ta_ 2 (some 41) (bl_ 21 1127) HT_ HW_ hHeld ?_
        refine pa_ 3 (some 42) (bl_ 21 1135) HT_ ?_
        refine pa_ 4 (some 43) (bl_ 21 1151) HT_ ?_
        refine ta_ 7 (some 46) (bl_ 21 1279) HT_ HW_ hHeld ?_
        refine pa_ 8 (some 47) (bl_ 21 1535) HT_ ?_
        refine ta_ 11 (some 50) (bl_ 21 3583) HT_ HW_ hHeld ?_
        refine pa_ 12 (some 51) (bl_ 21 7679) HT_ ?_
        refine join_ (σ := Nat) 2 (bl_ 21 524287) (fun s_ => [(48, .agg #[.int .u64 t324, .int .u64 t325]), (52, .agg #[.int .u64 t326, .int .u64 t327]), (53, .tuple #[.agg #[.int .u64 t328, .int .u64 t329], .int .i64 t330]), (7, .pointer (some ⟨s_, 0, none⟩)), (38, .tuple #[.agg #[.int .u64 t328, .int .u64 t329], .int .i64 t330]), (54, .agg #[.int .u64 t328, .int .u64 t329]), (55, .int .i64 t330)]) (fun s_ w' => (w'.cell? ⟨gb322, 0, none⟩ = some (.int .i64 a0_0) ∧ w'.cell? ⟨gb322, 1, none⟩ = some (.int .i64 a0_1) ∧ w'.cell? ⟨gb322, 2, none⟩ = some (.int .i64 a0_2) ∧ w'.cell? ⟨gb322, 3, none⟩ = some (.int .i64 a0_3) ∧ w'.cell? ⟨gb322, 4, none⟩ = some (.int .i64 a0_4) ∧ w'.cell? ⟨gb322, 5, none⟩ = some (.int .u64 a0_5)) ∧ (w'.heap[gb322]? = some (.cells #[.int .i64 a0_0, .int .i64 a0_1, .int .i64 a0_2, .int .i64 a0_3, .int .i64 a0_4, .int .u64 a0_5] 63 (0, 0))) ∧ (w'.heap[s_]? = some (.cells #[.int .u64 0, .int .u64 0] 97 (0, 0))) ∧ (w.heap.size ≤ s_) ∧ (w.heap.size ≤ s_) ∧ (gb322 ≠ s_) ∧ (s_ ≠ gb322) ∧ (Below w.heap.size w w')) ?_ ?_
        rotate_left
        ·intro hCont
         refine tw_ 9 18 (some 48) (some 7) (bl_ 21 8191) (bl_ 21 269823) HT_ (fun K hK => ?_) fun K hK => ?_
         ·refine goesB_ Try.func57 #[.int .u64 (IntKind.u64.wrap (wrap64 (a1 - a0_3))), .int .u64 (IntKind.u64.wrap (a0_2))] ?_
          with_reducible refine (wide_Mul.calls (IntKind.u64.wrap (wrap64 (a1 - a0_3))) (IntKind.u64.wrap (a0_2)) t324 t325 _ A24.out).mono ?_
          rintro e w58 ⟨rfl, hb⟩
          refine ⟨_, rfl, ?_⟩
          replace BK322 := bb_ BK322 hb
          replace HB := bs_ w hb
          clear hb
          refine hK.out _ _ (cc6_ BK322) (fun hHeld => ?_)
          clear hK K
          refine nm_ (some 48) ?_
          refine tw_ 13 18 (some 52) (some 7) (bl_ 21 16383) (bl_ 21 270335) HT_ (fun K hK => ?_) fun K hK => ?_
          ·refine goesB_ Try.func58 #[.int .u64 (IntKind.u64.wrap (a0_4))] ?_
           with_reducible refine (wide_Of.calls (IntKind.u64.wrap (a0_4)) t326 t327 _ A25.out).mono ?_
           rintro e w59 ⟨rfl, hb⟩
           refine ⟨_, rfl, ?_⟩
           replace BK322 := bb_ BK322 hb
           replace HB := bs_ w hb
           clear hb
           refine hK.out _ _ (cc6_ BK322) (fun hHeld => ?_)
           clear hK K
           refine nm_ (some 52) ?_
           refine tw_ 14 18 (some 53) (some 7) (bl_ 21 32767) (bl_ 21 278527) HT_ (fun K hK => ?_) fun K hK => ?_
           ·refine goesB_ Try.func56 #[.agg #[.int .u64 t324, .int .u64 t325], .agg #[.int .u64 t326, .int .u64 t327]] ?_
            with_reducible refine (wide_Sub.calls t324 t325 t326 t327 t328 t329 t330 _ A26.out).mono ?_
            rintro e w60 ⟨rfl, hb⟩
            refine ⟨_, rfl, ?_⟩
            replace BK322 := bb_ BK322 hb
            replace HB := bs_ w hb
            clear hb
            refine hK.out _ _ (cc6_ BK322) (fun hHeld => ?_)
            clear hK K
            refine nm_ (some 53) ?_
            refine pa_ 15 (some 38) (bl_ 21 65535) HT_ ?_
            refine pa_ 16 (some 54) (bl_ 21 131071) HT_ ?_
            refine pa_ 17 (some 55) (bl_ 21 262143) HT_ ?_
            refine oa_ 18 (some 7) (bl_ 21 524287) HT_ fun K hK => ?_
            refine bs2_ #[.int .u64 0, .int .u64 0] 97 ?_
            intro gb331 hg w61 BK331 hb
            have GW331 := bz_ w hg
            have GE331 := GW331
            have NB322_331 := bn_ BK322 hg
            have NB331_322 := bm_ BK322 hg
            replace BK322 := bb_ BK322 hb
            replace HB := bs_ w hb
            clear hb hg
            refine hK.out _ _ (cc6_ BK322) (fun hHeld => ?_)
            clear hK K
            refine nm_ (some 7) ?_
            exact no_ (hCont (gb331) _ ⟨hHeld, (bq_ BK322), (bq_ BK331), GW331.out, GE331.out, NB322_331.out, NB331_322.out, bh_⟩)
           ·refine bs2_ #[.int .u64 0, .int .u64 0] 97 ?_
            intro gb331 hg w60 BK331 hb
            have GW331 := bz_ w hg
            have GE331 := GW331
            have NB322_331 := bn_ BK322 hg
            have NB331_322 := bm_ BK322 hg
            replace BK322 := bb_ BK322 hb
            replace HB := bs_ w hb
            clear hb hg
            refine hK.out _ _ (cc6_ BK322) (fun hHeld => ?_)
            clear hK K
            refine nm_ (some 7) ?_
            refine oa_ 14 (some 53) (bl_ 21 294911) HT_ fun K hK => ?_
            refine goesB_ Try.func56 #[.agg #[.int .u64 t324, .int .u64 t325], .agg #[.int .u64 t326, .int .u64 t327]] ?_
            with_reducible refine (wide_Sub.calls t324 t325 t326 t327 t328 t329 t330 _ A26.out).mono ?_
            rintro e w61 ⟨rfl, hb⟩
            refine ⟨_, rfl, ?_⟩
            replace BK322 := bb_ BK322 hb
            replace BK331 := bb_ BK331 hb
            replace HB := bs_ w hb
            clear hb
            refine hK.out _ _ (cc6_ BK322) (fun hHeld => ?_)
            clear hK K
            refine nm_ (some 53) ?_
            refine pa_ 15 (some 38) (bl_ 21 327679) HT_ ?_
            refine pa_ 16 (some 54) (bl_ 21 393215) HT_ ?_
            refine pa_ 17 (some 55) (bl_ 21 524287) HT_ ?_
            exact no_ (hCont (gb331) _ ⟨hHeld, (bq_ BK322), (bq_ BK331), GW331.out, GE331.out, NB322_331.out, NB331_322.out, bh_⟩)
          ·refine bs2_ #[.int .u64 0, .int .u64 0] 97 ?_
           intro gb331 hg w59 BK331 hb
           have GW331 := bz_ w hg
           have GE331 := GW331
           have NB322_331 := bn_ BK322 hg
           have NB331_322 := bm_ BK322 hg
           replace BK322 := bb_ BK322 hb
           replace HB := bs_ w hb
           clear hb hg
           refine hK.out _ _ (cc6_ BK322) (fun hHeld => ?_)
           clear hK K
           refine nm_ (some 7) ?_
           refine oa_ 13 (some 52) (bl_ 21 278527) HT_ fun K hK => ?_
           refine goesB_ Try.func58 #[.int .u64 (IntKind.u64.wrap (a0_4))] ?_
           with_reducible refine (wide_Of.calls (IntKind.u64.wrap (a0_4)) t326 t327 _ A25.out).mono ?_
           rintro e w60 ⟨rfl, hb⟩
           refine ⟨_, rfl, ?_⟩
           replace BK322 := bb_ BK322 hb
           replace BK331 := bb_ BK331 hb
           replace HB := bs_ w hb
           clear hb
           refine hK.out _ _ (cc6_ BK322) (fun hHeld => ?_)
           clear hK K
           refine nm_ (some 52) ?_
           refine oa_ 14 (some 53) (bl_ 21 294911) HT_ fun K hK => ?_
           refine goesB_ Try.func56 #[.agg #[.int .u64 t324, .int .u64 t325], .agg #[.int .u64 t326, .int .u64 t327]] ?_
           with_reducible refine (wide_Sub.calls t324 t325 t326 t327 t328 t329 t330 _ A26.out).mono ?_
           rintro e w61 ⟨rfl, hb⟩
           refine ⟨_, rfl, ?_⟩
           replace BK322 := bb_ BK322 hb
           replace BK331 := bb_ BK331 hb
           replace HB := bs_ w hb
           clear hb
           refine hK.out _ _ (cc6_ BK322) (fun hHeld => ?_)
           clear hK K
           refine nm_ (some 53) ?_
           refine pa_ 15 (some 38) (bl_ 21 327679) HT_ ?_
           refine pa_ 16 (some 54) (bl_ 21 393215) HT_ ?_
           refine pa_ 17 (some 55) (bl_ 21 524287) HT_ ?_
           exact no_ (hCont (gb331) _ ⟨hHeld, (bq_ BK322), (bq_ BK331), GW331.out, GE331.out, NB322_331.out, NB331_322.out, bh_⟩)
         ·refine bs2_ #[.int .u64 0, .int .u64 0] 97 ?_
          intro gb331 hg w58 BK331 hb
          have GW331 := bz_ w hg
          have GE331 := GW331
          have NB322_331 := bn_ BK322 hg
          have NB331_322 := bm_ BK322 hg
          replace BK322 := bb_ BK322 hb
          replace HB := bs_ w hb
          clear hb hg
          refine hK.out _ _ (cc6_ BK322) (fun hHeld => ?_)
          clear hK K
          refine nm_ (some 7) ?_
          refine oa_ 9 (some 48) (bl_ 21 270335) HT_ fun K hK => ?_
          refine goesB_ Try.func57 #[.int .u64 (IntKind.u64.wrap (wrap64 (a1 - a0_3))), .int .u64 (IntKind.u64.wrap (a0_2))] ?_
          with_reducible refine (wide_Mul.calls (IntKind.u64.wrap (wrap64 (a1 - a0_3))) (IntKind.u64.wrap (a0_2)) t324 t325 _ A24.out).mono ?_
          rintro e w59 ⟨rfl, hb⟩
          refine ⟨_, rfl, ?_⟩
          replace BK322 := bb_ BK322 hb
          replace BK331 := bb_ BK331 hb
          replace HB := bs_ w hb
          clear hb
          refine hK.out _ _ (cc6_ BK322) (fun hHeld => ?_)
          clear hK K
          refine nm_ (some 48) ?_
          refine oa_ 13 (some 52) (bl_ 21 278527) HT_ fun K hK => ?_
          refine goesB_ Try.func58 #[.int .u64 (IntKind.u64.wrap (a0_4))] ?_
          with_reducible refine (wide_Of.calls (IntKind.u64.wrap (a0_4)) t326 t327 _ A25.out).mono ?_
          rintro e w60 ⟨rfl, hb⟩
          refine ⟨_, rfl, ?_⟩
          replace BK322 := bb_ BK322 hb
          replace BK331 := bb_ BK331 hb
          replace HB := bs_ w hb
          clear hb
          refine hK.out _ _ (cc6_ BK322) (fun hHeld => ?_)
          clear hK K
          refine nm_ (some 52) ?_
          refine oa_ 14 (some 53) (bl_ 21 294911) HT_ fun K hK => ?_
          refine goesB_ Try.func56 #[.agg #[.int .u64 t324, .int .u64 t325], .agg #[.int .u64 t326, .int .u64 t327]] ?_
          with_reducible refine (wide_Sub.calls t324 t325 t326 t327 t328 t329 t330 _ A26.out).mono ?_
          rintro e w61 ⟨rfl, hb⟩
          refine ⟨_, rfl, ?_⟩
          replace BK322 := bb_ BK322 hb
          replace BK331 := bb_ BK331 hb
          replace HB := bs_ w hb
          clear hb
          refine hK.out _ _ (cc6_ BK322) (fun hHeld => ?_)
          clear hK K
          refine nm_ (some 53) ?_
          refine pa_ 15 (some 38) (bl_ 21 327679) HT_ ?_
          refine pa_ 16 (some 54) (bl_ 21 393215) HT_ ?_
          refine pa_ 17 (some 55) (bl_ 21 524287) HT_ ?_
          exact no_ (hCont (gb331) _ ⟨hHeld, (bq_ BK322), (bq_ BK331), GW331.out, GE331.out, NB322_331.out, NB331_322.out, bh_⟩)
        rintro gb331 w62 ⟨hS_, h0_, h1_, h2_, h3_, h4_, h5_, h6_⟩
        have BK331 := Aside0.mk h1_
        have GW331 := Aside0.mk h2_
        have GE331 := Aside0.mk h3_
        have NB322_331 := Aside0.mk h4_
        have NB331_322 := Aside0.mk h5_
        replace BK322 := Aside0.mk h0_
        replace HB := Aside0.mk h6_
        clear h0_ h1_ h2_ h3_ h4_ h5_ h6_
        have hHeld := hS_
        refine nq_ ?_
        refine oa_ 19 none (bl_ 21 1048575) HT_ fun K hK => ?_
        have hs63 : w62.cell? ⟨gb331, 0, none⟩ = some (.int .u64 0) := (blk_cell BK331.out 0).trans rfl
        have hfs63 := blk_frozen BK331.out 0
        have hns63_0 := NB322_331.out
        have hms63_0 := NB331_322.out
        have hs64 : w62.cell? ⟨gb331, 1, none⟩ = some (.int .u64 0) := (blk_cell BK331.out 1).trans rfl
        have hfs64 := blk_frozen BK331.out 1
        have hns64_0 := NB322_331.out
        have hms64_0 := NB331_322.out
        refine sk_ ?_
        refine hK.out _ _ (cf6_ hHeld) (fun hHeld => ?_)
        clear hK K
        refine pa_ 20 (some 8) (bl_ 21 2097151) HT_ ?_
        refine done_ (done_of HT_.out (by kernel_rfl)) ?_
        replace hn331_322 := NB331_322.out
        replace hn322_331 := NB322_331.out
        replace hc331 := ce2_ BK331
        replace hc322 := ce6_ BK322
        try go_wp2_with (first | ((with_reducible refine gate_callee (f := 59) rfl ?_); (try refine ug_ (by rfl) ?_); refine goesA_ (some 62) Try.func59 #[.agg #[.int .u64 t328, .int .u64 t329], .int .u64 (IntKind.u64.wrap (a0_1))] ?_; (with_reducible refine (wide_Up.calls k t328 t329 (IntKind.u64.wrap (a0_1)) t332 t333 t334 _ A27.out).mono ?_); rintro e w68 ⟨rfl, hb⟩; refine ⟨_, rfl, ?_⟩; replace BK322 := bf_ BK322 hb; replace BK331 := Aside0.mk (blk_below (g := gb331) (o := .cells #[.int .u64 t328, .int .u64 t329] 97 (0, 0)) (bp2_ (bq_ BK331)) hb); replace HB := bs_ w hb; clear hb) | ((with_reducible refine gate_dst (N := 9) rfl ?_); (try refine ug_ (by rfl) ?_); refine bx_ #[.int .u64 0, .int .u64 0] 97 ?_; intro gb335 hg w69 BK335 hb; have GW335 := bz_ w hg; have GE335 := GW335; have NB322_335 := bn_ BK322 hg; have NB335_322 := bm_ BK322 hg; have NB331_335 := bn_ BK331 hg; have NB335_331 := bm_ BK331 hg; replace BK322 := bb_ BK322 hb; replace BK331 := bb_ BK331 hb; replace HB := bs_ w hb; clear hb hg; replace hn335_322 := NB335_322.out; replace hn322_335 := NB322_335.out; replace hn335_331 := NB335_331.out; replace hn331_335 := NB331_335.out; replace hc335 := ce2_ BK335) | ((with_reducible refine gate_callee (f := 60) rfl ?_); (try refine ug_ (by rfl) ?_); refine goesA_ (some 67) Try.func60 #[.agg #[.int .u64 t332, .int .u64 t333]] ?_; (with_reducible refine (wide_Small.calls t332 t333 t336 t337 _ A28.out).mono ?_); rintro e w73 ⟨rfl, hb⟩; refine ⟨_, rfl, ?_⟩; replace BK322 := bf_ BK322 hb; replace BK331 := bf_ BK331 hb; replace BK335 := Aside0.mk (blk_below (g := gb335) (o := .cells #[.int .u64 t332, .int .u64 t333] 97 (0, 0)) (bp2_ (bq_ BK335)) hb); replace HB := bs_ w hb; clear hb; replace hc322 := ce6_ BK322))
        go_ret2
        exact fi_
      ·rw [if_neg c29] at H
       have c29b0 : (t337 == 0) = false := beq_eq_false_iff_ne.mpr c29
       have c29b1 : (t337 != 0) = true := bne_iff_ne.mpr c29
       simp only [Option.some.injEq, Prod.mk.injEq] at H
       obtain ⟨rfl, rfl⟩ := H
       go_enter Try.func37, Try.ntmps37
       try go_wp2_with (first | ((with_reducible refine gate_dst (N := 2) rfl ?_); (try refine ug_ (by rfl) ?_); refine bx_ #[.int .i64 a0_0, .int .i64 a0_1, .int .i64 a0_2, .int .i64 a0_3, .int .i64 a0_4, .int .u64 a0_5] 63 ?_; intro gb322 hg w75 BK322 hb; have GW322 := bz_ w hg; have GE322 := GW322; replace HB := bs_ w hb; clear hb hg; replace hc322 := ce6_ BK322) | ((with_reducible refine gate_callee (f := 54) rfl ?_); (try refine ug_ (by rfl) ?_); refine goesA_ (some 14) Try.func54 #[.agg #[.int .i64 a0_0, .int .i64 a0_1, .int .i64 a0_2, .int .i64 a0_3, .int .i64 a0_4, .int .u64 a0_5]] ?_; (with_reducible refine (bucket_Check.calls a0_0 a0_1 a0_2 a0_3 a0_4 a0_5 t323 _ A3.out).mono ?_); rintro e w77 ⟨rfl, hb⟩; refine ⟨_, rfl, ?_⟩; replace BK322 := bb_ BK322 hb; replace HB := bs_ w hb; clear hb; replace hc322 := ce6_ BK322))
       replace BK322 := Aside0.mk (blk_drew BK322.out)
       replace HB := Aside0.mk (below_drew1 HB.out)
       refine start_ (n := 21) (S := fun w' => w'.cell? ⟨gb322, 0, none⟩ = some (.int .i64 a0_0) ∧ w'.cell? ⟨gb322, 1, none⟩ = some (.int .i64 a0_1) ∧ w'.cell? ⟨gb322, 2, none⟩ = some (.int .i64 a0_2) ∧ w'.cell? ⟨gb322, 3, none⟩ = some (.int .i64 a0_3) ∧ w'.cell? ⟨gb322, 4, none⟩ = some (.int .i64 a0_4) ∧ w'.cell? ⟨gb322, 5, none⟩ = some (.int .u64 a0_5)) (ds := []) (bl_ 21 0) (by kernel_rfl) rfl (by kernel_rfl) (cc6_ BK322) (fun hHeld => ?_); refine with_tabW bucket_Wait.tab10 bucket_Wait.bits10 (fun HT_ HW_ => ?_)
       generalize w77.drew = w79 at BK322 HB hHeld ⊢
       refine pa_ 0 (some 39) (bl_ 21 1) HT_ ?_
       refine pa_ 1 (some 40) (bl_ 21 3) HT_ ?_
       refine pa_ 5 (some 44) (bl_ 21 35) HT_ ?_
       refine pa_ 6 (some 45) (bl_ 21 99) HT_ ?_
       refine pa_ 10 (some 49) (bl_ 21 1123) HT_ ?_
       refine ta_ 2 (some 41) (bl_ 21 1127) HT_ HW_ hHeld ?_
       refine pa_ 3 (some 42) (bl_ 21 1135) HT_ ?_
       refine pa_ 4 (some 43) (bl_ 21 1151) HT_ ?_
       refine ta_ 7 (some 46) (bl_ 21 1279) HT_ HW_ hHeld ?_
       refine pa_ 8 (some 47) (bl_ 21 1535) HT_ ?_
       refine ta_ 11 (some 50) (bl_ 21 3583) HT_ HW_ hHeld ?_
       refine pa_ 12 (some 51) (bl_ 21 7679) HT_ ?_
       refine join_ (σ := Nat) 2 (bl_ 21 524287) (fun s_ => [(48, .agg #[.int .u64 t324, .int .u64 t325]), (52, .agg #[.int .u64 t326, .int .u64 t327]), (53, .tuple #[.agg #[.int .u64 t328, .int .u64 t329], .int .i64 t330]), (7, .pointer (some ⟨s_, 0, none⟩)), (38, .tuple #[.agg #[.int .u64 t328, .int .u64 t329], .int .i64 t330]), (54, .agg #[.int .u64 t328, .int .u64 t329]), (55, .int .i64 t330)]) (fun s_ w' => (w'.cell? ⟨gb322, 0, none⟩ = some (.int .i64 a0_0) ∧ w'.cell? ⟨gb322, 1, none⟩ = some (.int .i64 a0_1) ∧ w'.cell? ⟨gb322, 2, none⟩ = some (.int .i64 a0_2) ∧ w'.cell? ⟨gb322, 3, none⟩ = some (.int .i64 a0_3) ∧ w'.cell? ⟨gb322, 4, none⟩ = some (.int .i64 a0_4) ∧ w'.cell? ⟨gb322, 5, none⟩ = some (.int .u64 a0_5)) ∧ (w'.heap[gb322]? = some (.cells #[.int .i64 a0_0, .int .i64 a0_1, .int .i64 a0_2, .int .i64 a0_3, .int .i64 a0_4, .int .u64 a0_5] 63 (0, 0))) ∧ (w'.heap[s_]? = some (.cells #[.int .u64 0, .int .u64 0] 97 (0, 0))) ∧ (w.heap.size ≤ s_) ∧ (w.heap.size ≤ s_) ∧ (gb322 ≠ s_) ∧ (s_ ≠ gb322) ∧ (Below w.heap.size w w')) ?_ ?_
       rotate_left
       ·intro hCont
        refine tw_ 9 18 (some 48) (some 7) (bl_ 21 8191) (bl_ 21 269823) HT_ (fun K hK => ?_) fun K hK => ?_
        ·refine goesB_ Try.func57 #[.int .u64 (IntKind.u64.wrap (wrap64 (a1 - a0_3))), .int .u64 (IntKind.u64.wrap (a0_2))] ?_
         with_reducible refine (wide_Mul.calls (IntKind.u64.wrap (wrap64 (a1 - a0_3))) (IntKind.u64.wrap (a0_2)) t324 t325 _ A24.out).mono ?_
         rintro e w80 ⟨rfl, hb⟩
         refine ⟨_, rfl, ?_⟩
         replace BK322 := bb_ BK322 hb
         replace HB := bs_ w hb
         clear hb
         refine hK.out _ _ (cc6_ BK322) (fun hHeld => ?_)
         clear hK K
         refine nm_ (some 48) ?_
         refine tw_ 13 18 (some 52) (some 7) (bl_ 21 16383) (bl_ 21 270335) HT_ (fun K hK => ?_) fun K hK => ?_
         ·refine goesB_ Try.func58 #[.int .u64 (IntKind.u64.wrap (a0_4))] ?_
          with_reducible refine (wide_Of.calls (IntKind.u64.wrap (a0_4)) t326 t327 _ A25.out).mono ?_
          rintro e w81 ⟨rfl, hb⟩
          refine ⟨_, rfl, ?_⟩
          replace BK322 := bb_ BK322 hb
          replace HB := bs_ w hb
          clear hb
          refine hK.out _ _ (cc6_ BK322) (fun hHeld => ?_)
          clear hK K
          refine nm_ (some 52) ?_
          refine tw_ 14 18 (some 53) (some 7) (bl_ 21 32767) (bl_ 21 278527) HT_ (fun K hK => ?_) fun K hK => ?_
          ·refine goesB_ Try.func56 #[.agg #[.int .u64 t324, .int .u64 t325], .agg #[.int .u64 t326, .int .u64 t327]] ?_
           with_reducible refine (wide_Sub.calls t324 t325 t326 t327 t328 t329 t330 _ A26.out).mono ?_
           rintro e w82 ⟨rfl, hb⟩
           refine ⟨_, rfl, ?_⟩
           replace BK322 := bb_ BK322 hb
           replace HB := bs_ w hb
           clear hb
           refine hK.out _ _ (cc6_ BK322) (fun hHeld => ?_)
           clear hK K
           refine nm_ (some 53) ?_
           refine pa_ 15 (some 38) (bl_ 21 65535) HT_ ?_
           refine pa_ 16 (some 54) (bl_ 21 131071) HT_ ?_
           refine pa_ 17 (some 55) (bl_ 21 262143) HT_ ?_
           refine oa_ 18 (some 7) (bl_ 21 524287) HT_ fun K hK => ?_
           refine bs2_ #[.int .u64 0, .int .u64 0] 97 ?_
           intro gb331 hg w83 BK331 hb
           have GW331 := bz_ w hg
           have GE331 := GW331
           have NB322_331 := bn_ BK322 hg
           have NB331_322 := bm_ BK322 hg
           replace BK322 := bb_ BK322 hb
           replace HB := bs_ w hb
           clear hb hg
           refine hK.out _ _ (cc6_ BK322) (fun hHeld => ?_)
           clear hK K
           refine nm_ (some 7) ?_
           exact no_ (hCont (gb331) _ ⟨hHeld, (bq_ BK322), (bq_ BK331), GW331.out, GE331.out, NB322_331.out, NB331_322.out, bh_⟩)
          ·refine bs2_ #[.int .u64 0, .int .u64 0] 97 ?_
           intro gb331 hg w82 BK331 hb
           have GW331 := bz_ w hg
           have GE331 := GW331
           have NB322_331 := bn_ BK322 hg
           have NB331_322 := bm_ BK322 hg
           replace BK322 := bb_ BK322 hb
           replace HB := bs_ w hb
           clear hb hg
           refine hK.out _ _ (cc6_ BK322) (fun hHeld => ?_)
           clear hK K
           refine nm_ (some 7) ?_
           refine oa_ 14 (some 53) (bl_ 21 294911) HT_ fun K hK => ?_
           refine goesB_ Try.func56 #[.agg #[.int .u64 t324, .int .u64 t325], .agg #[.int .u64 t326, .int .u64 t327]] ?_
           with_reducible refine (wide_Sub.calls t324 t325 t326 t327 t328 t329 t330 _ A26.out).mono ?_
           rintro e w83 ⟨rfl, hb⟩
           refine ⟨_, rfl, ?_⟩
           replace BK322 := bb_ BK322 hb
           replace BK331 := bb_ BK331 hb
           replace HB := bs_ w hb
           clear hb
           refine hK.out _ _ (cc6_ BK322) (fun hHeld => ?_)
           clear hK K
           refine nm_ (some 53) ?_
           refine pa_ 15 (some 38) (bl_ 21 327679) HT_ ?_
           refine pa_ 16 (some 54) (bl_ 21 393215) HT_ ?_
           refine pa_ 17 (some 55) (bl_ 21 524287) HT_ ?_
           exact no_ (hCont (gb331) _ ⟨hHeld, (bq_ BK322), (bq_ BK331), GW331.out, GE331.out, NB322_331.out, NB331_322.out, bh_⟩)
         ·refine bs2_ #[.int .u64 0, .int .u64 0] 97 ?_
          intro gb331 hg w81 BK331 hb
          have GW331 := bz_ w hg
          have GE331 := GW331
          have NB322_331 := bn_ BK322 hg
          have NB331_322 := bm_ BK322 hg
          replace BK322 := bb_ BK322 hb
          replace HB := bs_ w hb
          clear hb hg
          refine hK.out _ _ (cc6_ BK322) (fun hHeld => ?_)
          clear hK K
          refine nm_ (some 7) ?_
          refine oa_ 13 (some 52) (bl_ 21 278527) HT_ fun K hK => ?_
          refine goesB_ Try.func58 #[.int .u64 (IntKind.u64.wrap (a0_4))] ?_
          with_reducible refine (wide_Of.calls (IntKind.u64.wrap (a0_4)) t326 t327 _ A25.out).mono ?_
          rintro e w82 ⟨rfl, hb⟩
          refine ⟨_, rfl, ?_⟩
          replace BK322 := bb_ BK322 hb
          replace BK331 := bb_ BK331 hb
          replace HB := bs_ w hb
          clear hb
          refine hK.out _ _ (cc6_ BK322) (fun hHeld => ?_)
          clear hK K
          refine nm_ (some 52) ?_
          refine oa_ 14 (some 53) (bl_ 21 294911) HT_ fun K hK => ?_
          refine goesB_ Try.func56 #[.agg #[.int .u64 t324, .int .u64 t325], .agg #[.int .u64 t326, .int .u64 t327]] ?_
          with_reducible refine (wide_Sub.calls t324 t325 t326 t327 t328 t329 t330 _ A26.out).mono ?_
          rintro e w83 ⟨rfl, hb⟩
          refine ⟨_, rfl, ?_⟩
          replace BK322 := bb_ BK322 hb
          replace BK331 := bb_ BK331 hb
          replace HB := bs_ w hb
          clear hb
          refine hK.out _ _ (cc6_ BK322) (fun hHeld => ?_)
          clear hK K
          refine nm_ (some 53) ?_
          refine pa_ 15 (some 38) (bl_ 21 327679) HT_ ?_
          refine pa_ 16 (some 54) (bl_ 21 393215) HT_ ?_
          refine pa_ 17 (some 55) (bl_ 21 524287) HT_ ?_
          exact no_ (hCont (gb331) _ ⟨hHeld, (bq_ BK322), (bq_ BK331), GW331.out, GE331.out, NB322_331.out, NB331_322.out, bh_⟩)
        ·refine bs2_ #[.int .u64 0, .int .u64 0] 97 ?_
         intro gb331 hg w80 BK331 hb
         have GW331 := bz_ w hg
         have GE331 := GW331
         have NB322_331 := bn_ BK322 hg
         have NB331_322 := bm_ BK322 hg
         replace BK322 := bb_ BK322 hb
         replace HB := bs_ w hb
         clear hb hg
         refine hK.out _ _ (cc6_ BK322) (fun hHeld => ?_)
         clear hK K
         refine nm_ (some 7) ?_
         refine oa_ 9 (some 48) (bl_ 21 270335) HT_ fun K hK => ?_
         refine goesB_ Try.func57 #[.int .u64 (IntKind.u64.wrap (wrap64 (a1 - a0_3))), .int .u64 (IntKind.u64.wrap (a0_2))] ?_
         with_reducible refine (wide_Mul.calls (IntKind.u64.wrap (wrap64 (a1 - a0_3))) (IntKind.u64.wrap (a0_2)) t324 t325 _ A24.out).mono ?_
         rintro e w81 ⟨rfl, hb⟩
         refine ⟨_, rfl, ?_⟩
         replace BK322 := bb_ BK322 hb
         replace BK331 := bb_ BK331 hb
         replace HB := bs_ w hb
         clear hb
         refine hK.out _ _ (cc6_ BK322) (fun hHeld => ?_)
         clear hK K
         refine nm_ (some 48) ?_
         refine oa_ 13 (some 52) (bl_ 21 278527) HT_ fun K hK => ?_
         refine goesB_ Try.func58 #[.int .u64 (IntKind.u64.wrap (a0_4))] ?_
         with_reducible refine (wide_Of.calls (IntKind.u64.wrap (a0_4)) t326 t327 _ A25.out).mono ?_
         rintro e w82 ⟨rfl, hb⟩
         refine ⟨_, rfl, ?_⟩
         replace BK322 := bb_ BK322 hb
         replace BK331 := bb_ BK331 hb
         replace HB := bs_ w hb
         clear hb
         refine hK.out _ _ (cc6_ BK322) (fun hHeld => ?_)
         clear hK K
         refine nm_ (some 52) ?_
         refine oa_ 14 (some 53) (bl_ 21 294911) HT_ fun K hK => ?_
         refine goesB_ Try.func56 #[.agg #[.int .u64 t324, .int .u64 t325], .agg #[.int .u64 t326, .int .u64 t327]] ?_
         with_reducible refine (wide_Sub.calls t324 t325 t326 t327 t328 t329 t330 _ A26.out).mono ?_
         rintro e w83 ⟨rfl, hb⟩
         refine ⟨_, rfl, ?_⟩
         replace BK322 := bb_ BK322 hb
         replace BK331 := bb_ BK331 hb
         replace HB := bs_ w hb
         clear hb
         refine hK.out _ _ (cc6_ BK322) (fun hHeld => ?_)
         clear hK K
         refine nm_ (some 53) ?_
         refine pa_ 15 (some 38) (bl_ 21 327679) HT_ ?_
         refine pa_ 16 (some 54) (bl_ 21 393215) HT_ ?_
         refine pa_ 17 (some 55) (bl_ 21 524287) HT_ ?_
         exact no_ (hCont (gb331) _ ⟨hHeld, (bq_ BK322), (bq_ BK331), GW331.out, GE331.out, NB322_331.out, NB331_322.out, bh_⟩)
       rintro gb331 w84 ⟨hS_, h0_, h1_, h2_, h3_, h4_, h5_, h6_⟩
       have BK331 := Aside0.mk h1_
       have GW331 := Aside0.mk h2_
       have GE331 := Aside0.mk h3_
       have NB322_331 := Aside0.mk h4_
       have NB331_322 := Aside0.mk h5_
       replace BK322 := Aside0.mk h0_
       replace HB := Aside0.mk h6_
       clear h0_ h1_ h2_ h3_ h4_ h5_ h6_
       have hHeld := hS_
       refine nq_ ?_
       refine oa_ 19 none (bl_ 21 1048575) HT_ fun K hK => ?_
       have hs85 : w84.cell? ⟨gb331, 0, none⟩ = some (.int .u64 0) := (blk_cell BK331.out 0).trans rfl
       have hfs85 := blk_frozen BK331.out 0
       have hns85_0 := NB322_331.out
       have hms85_0 := NB331_322.out
       have hs86 : w84.cell? ⟨gb331, 1, none⟩ = some (.int .u64 0) := (blk_cell BK331.out 1).trans rfl
       have hfs86 := blk_frozen BK331.out 1
       have hns86_0 := NB322_331.out
       have hms86_0 := NB331_322.out
       refine sk_ ?_
       refine hK.out _ _ (cf6_ hHeld) (fun hHeld => ?_)
       clear hK K
       refine pa_ 20 (some 8) (bl_ 21 2097151) HT_ ?_
       refine done_ (done_of HT_.out (by kernel_rfl)) ?_
       replace hn331_322 := NB331_322.out
       replace hn322_331 := NB322_331.out
       replace hc331 := ce2_ BK331
       replace hc322 := ce6_ BK322
       try go_wp2_with (first | ((with_reducible refine gate_callee (f := 59) rfl ?_); (try refine ug_ (by rfl) ?_); refine goesA_ (some 62) Try.func59 #[.agg #[.int .u64 t328, .int .u64 t329], .int .u64 (IntKind.u64.wrap (a0_1))] ?_; (with_reducible refine (wide_Up.calls k t328 t329 (IntKind.u64.wrap (a0_1)) t332 t333 t334 _ A27.out).mono ?_); rintro e w90 ⟨rfl, hb⟩; refine ⟨_, rfl, ?_⟩; replace BK322 := bf_ BK322 hb; replace BK331 := Aside0.mk (blk_below (g := gb331) (o := .cells #[.int .u64 t328, .int .u64 t329] 97 (0, 0)) (bp2_ (bq_ BK331)) hb); replace HB := bs_ w hb; clear hb) | ((with_reducible refine gate_dst (N := 9) rfl ?_); (try refine ug_ (by rfl) ?_); refine bx_ #[.int .u64 0, .int .u64 0] 97 ?_; intro gb335 hg w91 BK335 hb; have GW335 := bz_ w hg; have GE335 := GW335; have NB322_335 := bn_ BK322 hg; have NB335_322 := bm_ BK322 hg; have NB331_335 := bn_ BK331 hg; have NB335_331 := bm_ BK331 hg; replace BK322 := bb_ BK322 hb; replace BK331 := bb_ BK331 hb; replace HB := bs_ w hb; clear hb hg; replace hn335_322 := NB335_322.out; replace hn322_335 := NB322_335.out; replace hn335_331 := NB335_331.out; replace hn331_335 := NB331_335.out; replace hc335 := ce2_ BK335) | ((with_reducible refine gate_callee (f := 60) rfl ?_); (try refine ug_ (by rfl) ?_); refine goesA_ (some 67) Try.func60 #[.agg #[.int .u64 t332, .int .u64 t333]] ?_; (with_reducible refine (wide_Small.calls t332 t333 t336 t337 _ A28.out).mono ?_); rintro e w95 ⟨rfl, hb⟩; refine ⟨_, rfl, ?_⟩; replace BK322 := bf_ BK322 hb; replace BK331 := bf_ BK331 hb; replace BK335 := Aside0.mk (blk_below (g := gb335) (o := .cells #[.int .u64 t332, .int .u64 t333] 97 (0, 0)) (bp2_ (bq_ BK335)) hb); replace HB := bs_ w hb; clear hb))
       go_ret2
       exact fi_
 ·rw [if_neg c4] at H
  have c4b0 : (t323 == 0) = false := beq_eq_false_iff_ne.mpr c4
  have c4b1 : (t323 != 0) = true := bne_iff_ne.mpr c4
  simp only [Option.some.injEq, Prod.mk.injEq] at H
  obtain ⟨rfl, rfl⟩ := H
  go_enter Try.func37, Try.ntmps37
  go_wp2_with (first | ((with_reducible refine gate_dst (N := 2) rfl ?_); (try refine ug_ (by rfl) ?_); refine bx_ #[.int .i64 a0_0, .int .i64 a0_1, .int .i64 a0_2, .int .i64 a0_3, .int .i64 a0_4, .int .u64 a0_5] 63 ?_; intro gb322 hg w96 BK322 hb; have GW322 := bz_ w hg; have GE322 := GW322; replace HB := bs_ w hb; clear hb hg; replace hc322 := ce6_ BK322) | ((with_reducible refine gate_callee (f := 54) rfl ?_); (try refine ug_ (by rfl) ?_); refine goesA_ (some 14) Try.func54 #[.agg #[.int .i64 a0_0, .int .i64 a0_1, .int .i64 a0_2, .int .i64 a0_3, .int .i64 a0_4, .int .u64 a0_5]] ?_; (with_reducible refine (bucket_Check.calls a0_0 a0_1 a0_2 a0_3 a0_4 a0_5 t323 _ A3.out).mono ?_); rintro e w98 ⟨rfl, hb⟩; refine ⟨_, rfl, ?_⟩; replace BK322 := bb_ BK322 hb; replace HB := bs_ w hb; clear hb))
  go_ret2
  exact fi_

end Go.Proofs.Ytfdpcnkghmmobaa.X
