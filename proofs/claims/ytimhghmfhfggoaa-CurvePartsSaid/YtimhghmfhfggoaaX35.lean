-- written by xprint.py, a program of this session over the kit's print
import Derived.Test.YtimhghmfhfggoaaX0
import Derived.Test.YtimhghmfhfggoaaX19
import Derived.Test.YtimhghmfhfggoaaX20
import Derived.Test.YtimhghmfhfggoaaX33
import Derived.Test.YtimhghmfhfggoaaX34
namespace Go.Proofs.Ytimhghmfhfggoaa.X
open Go.RowKit Go.Proofs.YtimhghmfhfggoaaW.PrintWords Go.Proofs.YtimhghmfhfggoaaW.PrintLast Go.Proofs.YtimhghmfhfggoaaW.PrintMore
attribute [local go_sem] max2_int min2_int max_two min_two max_three min_three max_four min_four   -- for this text's walks alone
set_option linter.unusedVariables false
set_option linter.unusedSimpArgs false

def spigotlaw40_alive.f (k : Nat)  : Option (Bool) := (spigotlaw40_given.f).bind fun t332 => ((spigotlaw40_costs.f).bind fun t335 => ((curve_Pass.f k t332 t335).bind fun bt338 => ((spigotlaw40_given.f).bind fun t342 => ((spigotlaw40_costs.f).bind fun t345 => ((curve_Below.f k t342 t345).bind fun bt348 => ((spigotlaw40_given.f).bind fun t350 => ((spigotlaw40_costs.f).bind fun t353 => ((curve_First.f k t350 t353).bind fun bt356 => ((spigotlaw40_has.f k 0 4).bind fun t359 => (if t359 = true then ((spigotlaw40_has.f k 1 7).bind fun t360 => (if t360 = true then ((spigotlaw40_has.f k 2 10).bind fun t361 => (if t361 = true then ((spigotlaw40_has.f k 3 11).bind fun t362 => (if t362 = true then (if bt338.2 = 0 then ((spigotref40_Same.f k bt338.1 (([(⟨0, 4⟩ : S62), (⟨1, 2⟩ : S62)] : List (S62)))).bind fun t366 => (if t366 = true then (if bt348.2 = 0 then (if bt348.1 = true then (none) else (if bt356.2.2 = 0 then (if bt356.1 = 0 then (some (bt356.2.1 == 1)) else (none)) else (none))) else (none)) else (none))) else (none)) else (none))) else (none))) else (none))) else (none)))))))))))
set_option maxHeartbeats 8000000 in
set_option maxRecDepth 100000 in
theorem spigotlaw40_alive.calls (k : Nat)  (r : Bool) (w : World) (h : spigotlaw40_alive.f k  = some r) :
  Calls Try.prog 20 #[] w fun e w' => e = .returned (.bool r) ∧ Below w.heap.size w w' := by
 have hu62 := Try.underlying62
 have HB := Aside0.mk (Below.refl w.heap.size w)
 have H : ((spigotlaw40_given.f).bind fun t332 => ((spigotlaw40_costs.f).bind fun t335 => ((curve_Pass.f k t332 t335).bind fun bt338 => ((spigotlaw40_given.f).bind fun t342 => ((spigotlaw40_costs.f).bind fun t345 => ((curve_Below.f k t342 t345).bind fun bt348 => ((spigotlaw40_given.f).bind fun t350 => ((spigotlaw40_costs.f).bind fun t353 => ((curve_First.f k t350 t353).bind fun bt356 => ((spigotlaw40_has.f k 0 4).bind fun t359 => (if t359 = true then ((spigotlaw40_has.f k 1 7).bind fun t360 => (if t360 = true then ((spigotlaw40_has.f k 2 10).bind fun t361 => (if t361 = true then ((spigotlaw40_has.f k 3 11).bind fun t362 => (if t362 = true then (if bt338.2 = 0 then ((spigotref40_Same.f k bt338.1 (([(⟨0, 4⟩ : S62), (⟨1, 2⟩ : S62)] : List (S62)))).bind fun t366 => (if t366 = true then (if bt348.2 = 0 then (if bt348.1 = true then (none) else (if bt356.2.2 = 0 then (if bt356.1 = 0 then (some (bt356.2.1 == 1)) else (none)) else (none))) else (none)) else (none))) else (none)) else (none))) else (none))) else (none))) else (none)))))))))))) = some r := h
 clear h
 have H0_ := bo_ H; clear H; obtain ⟨t332, A1, H⟩ := H0_
 try dsimp only at H
 have H0_ := bo_ H; clear H; obtain ⟨t335, A2, H⟩ := H0_
 try dsimp only at H
 have H0_ := bo_ H; clear H; obtain ⟨⟨t338, t339⟩, A3, H⟩ := H0_
 try dsimp only at H
 have H0_ := bo_ H; clear H; obtain ⟨t342, A4, H⟩ := H0_
 try dsimp only at H
 have H0_ := bo_ H; clear H; obtain ⟨t345, A5, H⟩ := H0_
 try dsimp only at H
 have H0_ := bo_ H; clear H; obtain ⟨⟨t348, t349⟩, A6, H⟩ := H0_
 try dsimp only at H
 have H0_ := bo_ H; clear H; obtain ⟨t350, A7, H⟩ := H0_
 try dsimp only at H
 have H0_ := bo_ H; clear H; obtain ⟨t353, A8, H⟩ := H0_
 try dsimp only at H
 have H0_ := bo_ H; clear H; obtain ⟨⟨t356, t357, t358⟩, A9, H⟩ := H0_
 try dsimp only at H
 have H0_ := bo_ H; clear H; obtain ⟨t359, A10, H⟩ := H0_
 try dsimp only at H
 by_cases c11 : t359 = true
 ·subst c11
  rw [if_pos rfl] at H
  try dsimp only at H
  have H0_ := bo_ H; clear H; obtain ⟨t360, A12, H⟩ := H0_
  try dsimp only at H
  by_cases c13 : t360 = true
  ·subst c13
   rw [if_pos rfl] at H
   try dsimp only at H
   have H0_ := bo_ H; clear H; obtain ⟨t361, A14, H⟩ := H0_
   try dsimp only at H
   by_cases c15 : t361 = true
   ·subst c15
    rw [if_pos rfl] at H
    try dsimp only at H
    have H0_ := bo_ H; clear H; obtain ⟨t362, A16, H⟩ := H0_
    try dsimp only at H
    by_cases c17 : t362 = true
    ·subst c17
     rw [if_pos rfl] at H
     try dsimp only at H
     replace H := ct_ H; obtain ⟨c18b0, c18b1, H⟩ := H
     obtain ⟨y363, hy363⟩ : ∃ y_ : List (S62), y_ = (([(⟨0, 4⟩ : S62), (⟨1, 2⟩ : S62)] : List (S62))) := ⟨_, rfl⟩
     replace H : ((spigotref40_Same.f k t338 y363).bind fun t366 => (if t366 = true then (if t349 = 0 then (if t348 = true then (none) else (if t358 = 0 then (if t356 = 0 then (some (t357 == 1)) else (none)) else (none))) else (none)) else (none))) = some r := by first | (rw [hy363]; with_reducible exact H) | (have H2_ := (Option.bind_some _ _).symm.trans H; rw [hy363]; with_reducible exact H2_) | (have H2_ := (Option.bind_some _ _).symm.trans H; with_reducible exact H2_) | with_reducible exact H | (rw [hy363]; exact H) | exact H
     have Ny363 := Aside0.mk hy363
     clear hy363
     have H0_ := bo_ H; clear H; obtain ⟨t366, A19, H⟩ := H0_
     try dsimp only at H
     by_cases c20 : t366 = true
     ·subst c20
      rw [if_pos rfl] at H
      try dsimp only at H
      replace H := ct_ H; obtain ⟨c21b0, c21b1, H⟩ := H
      by_cases c22 : t348 = true
      ·subst c22
       replace H : (none) = some r := by rw [if_pos rfl] at H; exact H
       exact absurd H (by simp)
      ·replace c22 := Bool.eq_false_iff.mpr c22
       subst c22
       rw [if_neg (show ¬ (false = true) by decide)] at H
       try dsimp only at H
       replace H := ct_ H; obtain ⟨c23b0, c23b1, H⟩ := H
       replace H := ct_ H; obtain ⟨c24b0, c24b1, H⟩ := H
       obtain rfl := Option.some.inj H
       go_enter Try.func20, Try.ntmps20
       go_wp2_with (first | ((with_reducible refine gate_callee (f := 27) rfl ?_); (try refine ug_ (by rfl) ?_); refine goesA_ (some 9) Try.func27 #[] ?_; (with_reducible refine (spigotlaw40_given.calls  t332 _ A1.out).mono ?_); rintro e w25 ⟨v333, rfl, ho0, hb⟩; refine ⟨_, rfl, ?_⟩; have HO334 := Aside0.mk (Kd.R_lower ho0 (below_size (hq_ HB))); replace HB := bs_ w hb; clear hb; (try clear ho0)) | ((with_reducible refine gate_callee (f := 37) rfl ?_); (try refine ug_ (by rfl) ?_); refine goesA_ (some 10) Try.func37 #[] ?_; (with_reducible refine (spigotlaw40_costs.calls  t335 _ A2.out).mono ?_); rintro e w26 ⟨v336, rfl, ho0, hb⟩; refine ⟨_, rfl, ?_⟩; have HO337 := Aside0.mk (Kd.R_lower ho0 (below_size (hq_ HB))); replace HO334 := rb_ HO334 hb; replace HB := bs_ w hb; (try clear hb); (try clear hb2); (try clear hk); (try clear hi); (try clear ho0); obtain ⟨Ao27, co27, eo27⟩ := Kd.R_slice HO334.out; subst eo27; obtain ⟨Ao28, co28, eo28⟩ := Kd.R_slice HO337.out; subst eo28) | ((with_reducible refine gate_callee (f := 21) rfl ?_); (try refine ug_ (by rfl) ?_); refine goesA_ (some 11) Try.func21 #[.slice Ao27 t332.length co27, .slice Ao28 t335.length co28] ?_; (with_reducible refine (curve_Pass.calls k _ _ t332 _ _ t335 t338 t339 _ ?side1 ?side2 ?side3 ?side4 A3.out).mono ?_); (case side1 => exact cr_ HO334); (case side2 => exact (Kd.R_reads' HO334.out).2.1); (case side3 => exact cr_ HO337); (case side4 => exact (Kd.R_reads' HO337.out).2.1); rintro e w29 ⟨v340, rfl, ho0, hb⟩; refine ⟨_, rfl, ?_⟩; have HO341 := Aside0.mk (Kd.R_lower (Kd.R_new' ho0 (Kd.R_lt (rs_ HO337))) (below_size (hq_ HB))); replace HO334 := rb_ HO334 hb; replace HO337 := Aside0.mk (Kd.R_elder' (rs_ HO337) (Kd.R_base ho0) hb); replace HB := bs_ w hb; (try clear hb); (try clear hb2); (try clear hk); (try clear hi); (try clear ho0)) | ((with_reducible refine gate_callee (f := 27) rfl ?_); (try refine ug_ (by rfl) ?_); refine goesA_ (some 15) Try.func27 #[] ?_; (with_reducible refine (spigotlaw40_given.calls  t342 _ A4.out).mono ?_); rintro e w30 ⟨v343, rfl, ho0, hb⟩; refine ⟨_, rfl, ?_⟩; have HO344 := Aside0.mk (Kd.R_lower (Kd.R_new' ho0 (Kd.R_lt (rs_ HO334))) (below_size (hq_ HB))); replace HO334 := Aside0.mk (Kd.R_elder' (rs_ HO334) (Kd.R_base ho0) hb); replace HO337 := rb_ HO337 hb; replace HO341 := rb_ HO341 hb; replace HB := bs_ w hb; (try clear hb); (try clear hb2); (try clear hk); (try clear hi); (try clear ho0)) | ((with_reducible refine gate_callee (f := 37) rfl ?_); (try refine ug_ (by rfl) ?_); refine goesA_ (some 16) Try.func37 #[] ?_; (with_reducible refine (spigotlaw40_costs.calls  t345 _ A5.out).mono ?_); rintro e w31 ⟨v346, rfl, ho0, hb⟩; refine ⟨_, rfl, ?_⟩; have HO347 := Aside0.mk (Kd.R_lower (Kd.R_new' (Kd.R_new' ho0 (Kd.R_lt (rs_ HO337))) (Kd.R_lt (rs_ HO341))) (below_size (hq_ HB))); replace HO334 := rb_ HO334 hb; replace HO337 := Aside0.mk (Kd.R_elder' (rs_ HO337) (Kd.R_base ho0) hb); replace HO341 := Aside0.mk (Kd.R_elder' (rs_ HO341) (Kd.R_base ho0) hb); replace HO344 := rb_ HO344 hb; replace HB := bs_ w hb; (try clear hb); (try clear hb2); (try clear hk); (try clear hi); (try clear ho0); obtain ⟨Ao32, co32, eo32⟩ := Kd.R_slice HO344.out; subst eo32; obtain ⟨Ao33, co33, eo33⟩ := Kd.R_slice HO347.out; subst eo33) | ((with_reducible refine gate_callee (f := 12) rfl ?_); (try refine ug_ (by rfl) ?_); refine goesA_ (some 17) Try.func12 #[.slice Ao32 t342.length co32, .slice Ao33 t345.length co33] ?_; (with_reducible refine (curve_Below.calls k _ _ t342 _ _ t345 false t349 _ ?side1 ?side2 ?side3 ?side4 A6.out).mono ?_); (case side1 => exact cr_ HO344); (case side2 => exact (Kd.R_reads' HO344.out).2.1); (case side3 => exact cr_ HO347); (case side4 => exact (Kd.R_reads' HO347.out).2.1); rintro e w34 ⟨rfl, hb⟩; refine ⟨_, rfl, ?_⟩; replace HO334 := rb_ HO334 hb; replace HO337 := rb_ HO337 hb; replace HO341 := rb_ HO341 hb; replace HO344 := rb_ HO344 hb; replace HO347 := rb_ HO347 hb; replace HB := bs_ w hb; clear hb) | ((with_reducible refine gate_callee (f := 27) rfl ?_); (try refine ug_ (by rfl) ?_); refine goesA_ (some 21) Try.func27 #[] ?_; (with_reducible refine (spigotlaw40_given.calls  t350 _ A7.out).mono ?_); rintro e w35 ⟨v351, rfl, ho0, hb⟩; refine ⟨_, rfl, ?_⟩; have HO352 := Aside0.mk (Kd.R_lower (Kd.R_new' (Kd.R_new' ho0 (Kd.R_lt (rs_ HO334))) (Kd.R_lt (rs_ HO344))) (below_size (hq_ HB))); replace HO334 := Aside0.mk (Kd.R_elder' (rs_ HO334) (Kd.R_base ho0) hb); replace HO337 := rb_ HO337 hb; replace HO341 := rb_ HO341 hb; replace HO344 := Aside0.mk (Kd.R_elder' (rs_ HO344) (Kd.R_base ho0) hb); replace HO347 := rb_ HO347 hb; replace HB := bs_ w hb; (try clear hb); (try clear hb2); (try clear hk); (try clear hi); (try clear ho0)) | ((with_reducible refine gate_callee (f := 37) rfl ?_); (try refine ug_ (by rfl) ?_); refine goesA_ (some 22) Try.func37 #[] ?_; (with_reducible refine (spigotlaw40_costs.calls  t353 _ A8.out).mono ?_); rintro e w36 ⟨v354, rfl, ho0, hb⟩; refine ⟨_, rfl, ?_⟩; have HO355 := Aside0.mk (Kd.R_lower (Kd.R_new' (Kd.R_new' (Kd.R_new' ho0 (Kd.R_lt (rs_ HO337))) (Kd.R_lt (rs_ HO341))) (Kd.R_lt (rs_ HO347))) (below_size (hq_ HB))); replace HO334 := rb_ HO334 hb; replace HO337 := Aside0.mk (Kd.R_elder' (rs_ HO337) (Kd.R_base ho0) hb); replace HO341 := Aside0.mk (Kd.R_elder' (rs_ HO341) (Kd.R_base ho0) hb); replace HO344 := rb_ HO344 hb; replace HO347 := Aside0.mk (Kd.R_elder' (rs_ HO347) (Kd.R_base ho0) hb); replace HO352 := rb_ HO352 hb; replace HB := bs_ w hb; (try clear hb); (try clear hb2); (try clear hk); (try clear hi); (try clear ho0); obtain ⟨Ao37, co37, eo37⟩ := Kd.R_slice HO352.out; subst eo37; obtain ⟨Ao38, co38, eo38⟩ := Kd.R_slice HO355.out; subst eo38) | ((with_reducible refine gate_callee (f := 14) rfl ?_); (try refine ug_ (by rfl) ?_); refine goesA_ (some 23) Try.func14 #[.slice Ao37 t350.length co37, .slice Ao38 t353.length co38] ?_; (with_reducible refine (curve_First.calls k _ _ t350 _ _ t353 t356 t357 t358 _ ?side1 ?side2 ?side3 ?side4 A9.out).mono ?_); (case side1 => exact cr_ HO352); (case side2 => exact (Kd.R_reads' HO352.out).2.1); (case side3 => exact cr_ HO355); (case side4 => exact (Kd.R_reads' HO355.out).2.1); rintro e w39 ⟨rfl, hb⟩; refine ⟨_, rfl, ?_⟩; replace HO334 := rb_ HO334 hb; replace HO337 := rb_ HO337 hb; replace HO341 := rb_ HO341 hb; replace HO344 := rb_ HO344 hb; replace HO347 := rb_ HO347 hb; replace HO352 := rb_ HO352 hb; replace HO355 := rb_ HO355 hb; replace HB := bs_ w hb; clear hb) | ((with_reducible refine gate_callee (f := 38) rfl ?_); (try refine ug_ (by rfl) ?_); refine goesA_ (some 27) Try.func38 #[.int .u64 0, .int .i64 4] ?_; (with_reducible refine (spigotlaw40_has.calls k 0 4 true _ A10.out).mono ?_); rintro e w40 ⟨rfl, hb⟩; refine ⟨_, rfl, ?_⟩; replace HO334 := rb_ HO334 hb; replace HO337 := rb_ HO337 hb; replace HO341 := rb_ HO341 hb; replace HO344 := rb_ HO344 hb; replace HO347 := rb_ HO347 hb; replace HO352 := rb_ HO352 hb; replace HO355 := rb_ HO355 hb; replace HB := bs_ w hb; clear hb) | (go_at_call 38; (with_reducible refine (spigotlaw40_has.calls k 1 7 true _ A12.out).mono ?_); rintro e w41 ⟨rfl, hb⟩; replace HO334 := rb_ HO334 hb; replace HO337 := rb_ HO337 hb; replace HO341 := rb_ HO341 hb; replace HO344 := rb_ HO344 hb; replace HO347 := rb_ HO347 hb; replace HO352 := rb_ HO352 hb; replace HO355 := rb_ HO355 hb; replace HB := bs_ w hb; clear hb) | (go_at_call 38; (with_reducible refine (spigotlaw40_has.calls k 2 10 true _ A14.out).mono ?_); rintro e w42 ⟨rfl, hb⟩; replace HO334 := rb_ HO334 hb; replace HO337 := rb_ HO337 hb; replace HO341 := rb_ HO341 hb; replace HO344 := rb_ HO344 hb; replace HO347 := rb_ HO347 hb; replace HO352 := rb_ HO352 hb; replace HO355 := rb_ HO355 hb; replace HB := bs_ w hb; clear hb) | (go_at_call 38; (with_reducible refine (spigotlaw40_has.calls k 3 11 true _ A16.out).mono ?_); rintro e w43 ⟨rfl, hb⟩; replace HO334 := rb_ HO334 hb; replace HO337 := rb_ HO337 hb; replace HO341 := rb_ HO341 hb; replace HO344 := rb_ HO344 hb; replace HO347 := rb_ HO347 hb; replace HO352 := rb_ HO352 hb; replace HO355 := rb_ HO355 hb; replace HB := bs_ w hb; clear hb) | ((with_reducible refine gate_dst (N := 45) rfl ?_); (try refine ug_ (by rfl) ?_); refine Kd.R_lit k62 _ 62 ?hg (N := 45) ?hd (xs := ([(⟨0, 4⟩ : S62), (⟨1, 2⟩ : S62)] : List (S62))) (inner := [.int .u64 0, .int .i64 4, .int .u64 1, .int .i64 2]) (ok := fun _ => True) (okp := fun _ => True) ?hr ?hp (fun _ hk => hk) trivial (Below.refl _ _) (Nat.le_refl _) (by simp) ?_; (case hd => rfl); (case hg => rfl); (case hr => first | (go_simp; done) | (go_simp; rfl)); (case hp => exact (Reps.c2 (show Kd.M k62 _ _ _ (⟨0, 4⟩ : S62) [.int .u64 0, .int .i64 4] from (k62_mkM _ _ _ (⟨0, 4⟩ : S62) )) (Reps.c2 (show Kd.M k62 _ _ _ (⟨1, 2⟩ : S62) [.int .u64 1, .int .i64 2] from (k62_mkM _ _ _ (⟨1, 2⟩ : S62) )) (Reps.none _ _)))); intro v364 w44 ho45 hb hg_ hnew_; clear hg_ hnew_; (first | rw [← Ny363.out] at ho45 | (simp only [Int.reduceToNat] at ho45; rw [← Ny363.out] at ho45)); have HO365 := Aside0.mk (Kd.R_lower (Kd.R_new' (Kd.R_new' (Kd.R_new' (Kd.R_new' ho45 (Kd.R_lt (rs_ HO337))) (Kd.R_lt (rs_ HO341))) (Kd.R_lt (rs_ HO347))) (Kd.R_lt (rs_ HO355))) (below_size (hq_ HB))); replace HO334 := rb_ HO334 hb; replace HO337 := Aside0.mk (Kd.R_elder' (rs_ HO337) (Kd.R_base ho45) hb); replace HO341 := Aside0.mk (Kd.R_elder' (rs_ HO341) (Kd.R_base ho45) hb); replace HO344 := rb_ HO344 hb; replace HO347 := Aside0.mk (Kd.R_elder' (rs_ HO347) (Kd.R_base ho45) hb); replace HO352 := rb_ HO352 hb; replace HO355 := Aside0.mk (Kd.R_elder' (rs_ HO355) (Kd.R_base ho45) hb); replace HB := bs_ w hb; clear hb ho45; obtain ⟨Ao46, co46, eo46⟩ := Kd.R_slice HO341.out; subst eo46; obtain ⟨Ao47, co47, eo47⟩ := Kd.R_slice HO365.out; subst eo47) | (go_at_call 22; (with_reducible refine (spigotref40_Same.calls k _ _ t338 _ _ y363 true _ ?side1 ?side2 ?side3 ?side4 A19.out).mono ?_); (case side1 => exact cr_ HO341); (case side2 => exact (Kd.R_reads' HO341.out).2.1); (case side3 => exact cr_ HO365); (case side4 => exact (Kd.R_reads' HO365.out).2.1); rintro e w' ⟨rfl, ⟨nd, rfl⟩⟩))
       go_ret
       exact fi_
     ·replace c20 := Bool.eq_false_iff.mpr c20
      subst c20
      replace H : (none) = some r := by rw [if_neg (show ¬ (false = true) by decide)] at H; exact H
      exact absurd H (by simp)
    ·replace c17 := Bool.eq_false_iff.mpr c17
     subst c17
     replace H : (none) = some r := by rw [if_neg (show ¬ (false = true) by decide)] at H; exact H
     exact absurd H (by simp)
   ·replace c15 := Bool.eq_false_iff.mpr c15
    subst c15
    replace H : (none) = some r := by rw [if_neg (show ¬ (false = true) by decide)] at H; exact H
    exact absurd H (by simp)
  ·replace c13 := Bool.eq_false_iff.mpr c13
   subst c13
   replace H : (none) = some r := by rw [if_neg (show ¬ (false = true) by decide)] at H; exact H
   exact absurd H (by simp)
 ·replace c11 := Bool.eq_false_iff.mpr c11
  subst c11
  replace H : (none) = some r := by rw [if_neg (show ¬ (false = true) by decide)] at H; exact H
  exact absurd H (by simp)

end Go.Proofs.Ytimhghmfhfggoaa.X
