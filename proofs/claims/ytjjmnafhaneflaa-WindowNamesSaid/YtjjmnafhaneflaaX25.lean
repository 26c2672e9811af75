-- written by xprint.py, a program of this session over the kit's print
import Derived.Test.YtjjmnafhaneflaaX0
import Derived.Test.YtjjmnafhaneflaaX14
import Derived.Test.YtjjmnafhaneflaaX19
import Derived.Test.YtjjmnafhaneflaaX21
import Derived.Test.YtjjmnafhaneflaaX23
namespace Go.Proofs.Ytjjmnafhaneflaa.X
open Go.RowKit Go.Proofs.YtjjmnafhaneflaaW.PrintWords Go.Proofs.YtjjmnafhaneflaaW.PrintLast Go.Proofs.YtjjmnafhaneflaaW.PrintMore
attribute [local go_sem] max2_int min2_int max_two min_two max_three min_three max_four min_four   -- for this text's walks alone
set_option linter.unusedVariables false
set_option linter.unusedSimpArgs false

/-! ### spigotlaw38_given: function 27 -/
def spigotlaw38_given.f  : Option (Int × Int) := some (5, 10)
set_option maxHeartbeats 8000000 in
set_option maxRecDepth 100000 in
theorem spigotlaw38_given.calls  (r1 : Int) (r2 : Int) (w : World) (h : spigotlaw38_given.f  = some (r1, r2)) :
  Calls Try.prog 27 #[] w fun e w' => e = .returned (.agg #[.int .i64 r1, .int .i64 r2]) ∧ Below w.heap.size w w' := by
 have hu23 := Try.underlying23
 have HB := Aside0.mk (Below.refl w.heap.size w)
 have H : (some (5, 10)) = some (r1, r2) := h
 clear h
 simp only [Option.some.injEq, Prod.mk.injEq] at H
 obtain ⟨rfl, rfl⟩ := H
 go_enter Try.func27, Try.ntmps27
 go_wp2_with (first | ((with_reducible refine gate_dst (N := 0) rfl ?_); refine bx_ #[.int .i64 0, .int .i64 0] 23 ?_; intro gb263 hg w1 BK263 hb; have GW263 := bz_ w hg; replace HB := bs_ w hb; clear hb hg; replace hc263 := ce2_ BK263))
 refine bodyPost_ret (results_cell_row rfl _ _ gb263 23 #[.int .i64 5, .int .i64 10] (0, 0) _ rfl (bp2_ (bq_ BK263)) Try.underlying23 rfl (by kernel_rfl)) rfl ?_
 exact fi_

/-! ### spigotlaw38_costs: function 41 -/
def spigotlaw38_costs.f  : Option ((List (S58))) := some (([(⟨8, 3⟩ : S58), (⟨9, 3⟩ : S58), (⟨9, 2⟩ : S58), (⟨10, 4⟩ : S58), (⟨18, 1⟩ : S58), (⟨19, 2⟩ : S58)] : List (S58)))
set_option maxHeartbeats 8000000 in
set_option maxRecDepth 100000 in
theorem spigotlaw38_costs.calls  (r : List (S58)) (w : World) (h : spigotlaw38_costs.f  = some r) :
  Calls Try.prog 41 #[] w fun e w' => ∃ v0_ : Value, e = .returned (v0_) ∧ Kd.R k58 58 w' w.heap.size (fun _ => True) v0_ r ∧ Below w.heap.size w w' := by
 have hu58 := Try.underlying58
 have HB := Aside0.mk (Below.refl w.heap.size w)
 have H : (some (([(⟨8, 3⟩ : S58), (⟨9, 3⟩ : S58), (⟨9, 2⟩ : S58), (⟨10, 4⟩ : S58), (⟨18, 1⟩ : S58), (⟨19, 2⟩ : S58)] : List (S58)))) = some r := h
 clear h
 obtain ⟨y264, hy264⟩ : ∃ y_ : List (S58), y_ = (([(⟨8, 3⟩ : S58), (⟨9, 3⟩ : S58), (⟨9, 2⟩ : S58), (⟨10, 4⟩ : S58), (⟨18, 1⟩ : S58), (⟨19, 2⟩ : S58)] : List (S58))) := ⟨_, rfl⟩
 replace H : (some y264) = some r := by first | (rw [hy264]; with_reducible exact H) | (have H2_ := (Option.bind_some _ _).symm.trans H; rw [hy264]; with_reducible exact H2_) | (have H2_ := (Option.bind_some _ _).symm.trans H; with_reducible exact H2_) | with_reducible exact H | (rw [hy264]; exact H) | exact H
 have Ny264 := Aside0.mk hy264
 clear hy264
 obtain rfl := Option.some.inj H
 go_enter Try.func41, Try.ntmps41
 go_wp2_with (first | ((with_reducible refine gate_dst (N := 7) rfl ?_); refine Kd.R_lit k58 _ 58 ?hg (N := 7) ?hd (xs := ([(⟨8, 3⟩ : S58), (⟨9, 3⟩ : S58), (⟨9, 2⟩ : S58), (⟨10, 4⟩ : S58), (⟨18, 1⟩ : S58), (⟨19, 2⟩ : S58)] : List (S58))) (inner := [.int .u64 8, .int .i64 3, .int .u64 9, .int .i64 3, .int .u64 9, .int .i64 2, .int .u64 10, .int .i64 4, .int .u64 18, .int .i64 1, .int .u64 19, .int .i64 2]) (ok := fun _ => True) (okp := fun _ => True) ?hr ?hp (fun _ hk => hk) trivial (Below.refl _ _) (Nat.le_refl _) (by simp) ?_; (case hd => rfl); (case hg => rfl); (case hr => first | (go_simp; done) | (go_simp; rfl)); (case hp => exact (Reps.c2 (show Kd.M k58 _ _ _ (⟨8, 3⟩ : S58) [.int .u64 8, .int .i64 3] from (k58_mkM _ _ _ (⟨8, 3⟩ : S58) )) (Reps.c2 (show Kd.M k58 _ _ _ (⟨9, 3⟩ : S58) [.int .u64 9, .int .i64 3] from (k58_mkM _ _ _ (⟨9, 3⟩ : S58) )) (Reps.c2 (show Kd.M k58 _ _ _ (⟨9, 2⟩ : S58) [.int .u64 9, .int .i64 2] from (k58_mkM _ _ _ (⟨9, 2⟩ : S58) )) (Reps.c2 (show Kd.M k58 _ _ _ (⟨10, 4⟩ : S58) [.int .u64 10, .int .i64 4] from (k58_mkM _ _ _ (⟨10, 4⟩ : S58) )) (Reps.c2 (show Kd.M k58 _ _ _ (⟨18, 1⟩ : S58) [.int .u64 18, .int .i64 1] from (k58_mkM _ _ _ (⟨18, 1⟩ : S58) )) (Reps.c2 (show Kd.M k58 _ _ _ (⟨19, 2⟩ : S58) [.int .u64 19, .int .i64 2] from (k58_mkM _ _ _ (⟨19, 2⟩ : S58) )) (Reps.none _ _)))))))); intro v265 w1 ho2 hb hg_ hnew_; clear hg_ hnew_; (first | rw [← Ny264.out] at ho2 | (simp only [Int.reduceToNat] at ho2; rw [← Ny264.out] at ho2)); have HO266 := Aside0.mk (Kd.R_lower ho2 (below_size (hq_ HB))); replace HB := bs_ w hb; clear hb ho2))
 go_ret
 exact ⟨_, by first | rfl | (simp [errW_none, errW_some] <;> rfl) | (simp [*, errW_none, errW_some] <;> rfl), by (with_reducible repeat (first | apply Kd.R_alloc | apply Kd.R_drewN | apply Kd.R_drew)); exact HO266.out, by repeat (first | (with_reducible first | exact HB.out | apply below_alloc | apply pw_below_drewN | apply below_drew1) | exact HB.out)⟩

/-! ### spigotlaw38_alive: function 26 -/
def spigotlaw38_alive.f (k : Nat)  : Option (Bool) := (spigotlaw38_given.f).bind fun bt267 => ((spigotlaw38_costs.f).bind fun t269 => ((window_Fixed.f k bt267.1 bt267.2 t269).bind fun bt272 => ((spigotlaw38_given.f).bind fun bt276 => ((spigotlaw38_costs.f).bind fun t278 => ((window_Slide.f k bt276.1 bt276.2 t278).bind fun bt281 => ((spigotlaw38_given.f).bind fun bt285 => ((window_Most.f k bt285.1 bt285.2 bt272.1).bind fun bt287 => (if bt272.2 = 0 then ((spigotref38_Same.f k bt272.1 (([(⟨8, 3⟩ : S58), (⟨9, 2⟩ : S58), (⟨10, 4⟩ : S58), (⟨18, 1⟩ : S58)] : List (S58)))).bind fun t292 => (if t292 = true then (if bt281.2 = 0 then ((spigotref38_Same.f k bt281.1 (([(⟨8, 3⟩ : S58), (⟨9, 2⟩ : S58), (⟨18, 1⟩ : S58), (⟨19, 2⟩ : S58)] : List (S58)))).bind fun t296 => (if t296 = true then (if bt287.2 = 0 then (some (bt287.1 == 9)) else (none)) else (none))) else (none)) else (none))) else (none)))))))))
theorem spigotlaw38_alive.mono : ∀ k, LeO (spigotlaw38_alive.f k ) (spigotlaw38_alive.f (k + 1) ) := by
  intro  k
  unfold spigotlaw38_alive.f
  repeat' first
      | (with_reducible exact spigotref38_Same.mono _ _ _)
      | (with_reducible exact window_Fixed.mono _ _ _ _)
      | (with_reducible exact window_Most.mono _ _ _ _)
      | (with_reducible exact window_Slide.mono _ _ _ _)
      | (with_reducible exact LeO.refl _)
      | (with_reducible exact LeO.none _)
      | (with_reducible refine LeO.ite ?_ ?_)
      | (with_reducible refine LeO.bind ?_ (fun _ => ?_))
      | exact spigotref38_Same.mono _ _ _
      | exact window_Fixed.mono _ _ _ _
      | exact window_Most.mono _ _ _ _
      | exact window_Slide.mono _ _ _ _
      | exact LeO.none _
      | refine LeO.ite ?_ ?_
      | refine LeO.bind ?_ (fun _ => ?_)
set_option maxHeartbeats 8000000 in
set_option maxRecDepth 100000 in
theorem spigotlaw38_alive.calls (k : Nat)  (r : Bool) (w : World) (h : spigotlaw38_alive.f k  = some r) :
  Calls Try.prog 26 #[] w fun e w' => e = .returned (.bool r) ∧ Below w.heap.size w w' := by
 have hu58 := Try.underlying58
 have HB := Aside0.mk (Below.refl w.heap.size w)
 have H : ((spigotlaw38_given.f).bind fun bt267 => ((spigotlaw38_costs.f).bind fun t269 => ((window_Fixed.f k bt267.1 bt267.2 t269).bind fun bt272 => ((spigotlaw38_given.f).bind fun bt276 => ((spigotlaw38_costs.f).bind fun t278 => ((window_Slide.f k bt276.1 bt276.2 t278).bind fun bt281 => ((spigotlaw38_given.f).bind fun bt285 => ((window_Most.f k bt285.1 bt285.2 bt272.1).bind fun bt287 => (if bt272.2 = 0 then ((spigotref38_Same.f k bt272.1 (([(⟨8, 3⟩ : S58), (⟨9, 2⟩ : S58), (⟨10, 4⟩ : S58), (⟨18, 1⟩ : S58)] : List (S58)))).bind fun t292 => (if t292 = true then (if bt281.2 = 0 then ((spigotref38_Same.f k bt281.1 (([(⟨8, 3⟩ : S58), (⟨9, 2⟩ : S58), (⟨18, 1⟩ : S58), (⟨19, 2⟩ : S58)] : List (S58)))).bind fun t296 => (if t296 = true then (if bt287.2 = 0 then (some (bt287.1 == 9)) else (none)) else (none))) else (none)) else (none))) else (none)))))))))) = some r := h
 clear h
 obtain ⟨⟨t267, t268⟩, A1, H⟩ := bo_ H
 try dsimp only at H
 obtain ⟨t269, A2, H⟩ := bo_ H
 try dsimp only at H
 obtain ⟨⟨t272, t275⟩, A3, H⟩ := bo_ H
 try dsimp only at H
 obtain ⟨⟨t276, t277⟩, A4, H⟩ := bo_ H
 try dsimp only at H
 obtain ⟨t278, A5, H⟩ := bo_ H
 try dsimp only at H
 obtain ⟨⟨t281, t284⟩, A6, H⟩ := bo_ H
 try dsimp only at H
 obtain ⟨⟨t285, t286⟩, A7, H⟩ := bo_ H
 try dsimp only at H
 obtain ⟨⟨t287, t288⟩, A8, H⟩ := bo_ H
 try dsimp only at H
 by_cases c9 : t275 = 0
 rotate_left
 ·rw [if_neg c9] at H; exact absurd H (by simp)
 rw [if_pos c9] at H
 have c9b0 : (t275 == 0) = true := beq_iff_eq.mpr c9
 have c9b1 : (t275 != 0) = false := bne_eq_false_iff_eq.mpr c9
 clear c9
 obtain ⟨y289, hy289⟩ : ∃ y_ : List (S58), y_ = (([(⟨8, 3⟩ : S58), (⟨9, 2⟩ : S58), (⟨10, 4⟩ : S58), (⟨18, 1⟩ : S58)] : List (S58))) := ⟨_, rfl⟩
 replace H : ((spigotref38_Same.f k t272 y289).bind fun t292 => (if t292 = true then (if t284 = 0 then ((spigotref38_Same.f k t281 (([(⟨8, 3⟩ : S58), (⟨9, 2⟩ : S58), (⟨18, 1⟩ : S58), (⟨19, 2⟩ : S58)] : List (S58)))).bind fun t296 => (if t296 = true then (if t288 = 0 then (some (t287 == 9)) else (none)) else (none))) else (none)) else (none))) = some r := by first | (rw [hy289]; with_reducible exact H) | (have H2_ := (Option.bind_some _ _).symm.trans H; rw [hy289]; with_reducible exact H2_) | (have H2_ := (Option.bind_some _ _).symm.trans H; with_reducible exact H2_) | with_reducible exact H | (rw [hy289]; exact H) | exact H
 have Ny289 := Aside0.mk hy289
 clear hy289
 obtain ⟨t292, A10, H⟩ := bo_ H
 try dsimp only at H
 by_cases c11 : t292 = true
 ·subst c11
  rw [if_pos rfl] at H
  try dsimp only at H
  by_cases c12 : t284 = 0
  rotate_left
  ·rw [if_neg c12] at H; exact absurd H (by simp)
  rw [if_pos c12] at H
  have c12b0 : (t284 == 0) = true := beq_iff_eq.mpr c12
  have c12b1 : (t284 != 0) = false := bne_eq_false_iff_eq.mpr c12
  clear c12
  obtain ⟨y293, hy293⟩ : ∃ y_ : List (S58), y_ = (([(⟨8, 3⟩ : S58), (⟨9, 2⟩ : S58), (⟨18, 1⟩ : S58), (⟨19, 2⟩ : S58)] : List (S58))) := ⟨_, rfl⟩
  replace H : ((spigotref38_Same.f k t281 y293).bind fun t296 => (if t296 = true then (if t288 = 0 then (some (t287 == 9)) else (none)) else (none))) = some r := by first | (rw [hy293]; with_reducible exact H) | (have H2_ := (Option.bind_some _ _).symm.trans H; rw [hy293]; with_reducible exact H2_) | (have H2_ := (Option.bind_some _ _).symm.trans H; with_reducible exact H2_) | with_reducible exact H | (rw [hy293]; exact H) | exact H
  have Ny293 := Aside0.mk hy293
  clear hy293
  obtain ⟨t296, A13, H⟩ := bo_ H
  replace H : (if t296 = true then (if t288 = 0 then (some (t287 == 9)) else (none)) else (none)) = some r := H
  by_cases c14 : t296 = true
  ·subst c14
   replace H : (if t288 = 0 then (some (t287 == 9)) else (none)) = some r := by rw [if_pos rfl] at H; exact H
   by_cases c15 : t288 = 0
   rotate_left
   ·rw [if_neg c15] at H; exact absurd H (by simp)
   rw [if_pos c15] at H
   have c15b0 : (t288 == 0) = true := beq_iff_eq.mpr c15
   have c15b1 : (t288 != 0) = false := bne_eq_false_iff_eq.mpr c15
   clear c15
   obtain rfl := Option.some.inj H
   go_enter Try.func26, Try.ntmps26
   go_wp2_with (first | ((with_reducible refine gate_callee (f := 27) rfl ?_); (try refine ug_ (by rfl) ?_); refine goesA_ (some 8) Try.func27 #[] ?_; (with_reducible refine (spigotlaw38_given.calls  t267 t268 _ A1.out).mono ?_); rintro e w16 ⟨rfl, hb⟩; refine ⟨_, rfl, ?_⟩; replace HB := bs_ w hb; clear hb) | ((with_reducible refine gate_callee (f := 41) rfl ?_); (try refine ug_ (by rfl) ?_); refine goesA_ (some 9) Try.func41 #[] ?_; (with_reducible refine (spigotlaw38_costs.calls  t269 _ A2.out).mono ?_); rintro e w17 ⟨v270, rfl, ho0, hb⟩; refine ⟨_, rfl, ?_⟩; have HO271 := Aside0.mk (Kd.R_lower ho0 (below_size (hq_ HB))); replace HB := bs_ w hb; clear hb; (try clear ho0); obtain ⟨Ao18, co18, eo18⟩ := Kd.R_slice HO271.out; subst eo18) | ((with_reducible refine gate_callee (f := 15) rfl ?_); (try refine ug_ (by rfl) ?_); refine goesA_ (some 10) Try.func15 #[.agg #[.int .i64 t267, .int .i64 t268], .slice Ao18 t269.length co18] ?_; (with_reducible refine (window_Fixed.calls k t267 t268 _ _ t269 t272 t275 _ ?side1 ?side2 A3.out).mono ?_); (case side1 => exact cr_ HO271); (case side2 => exact (Kd.R_reads' HO271.out).2.1); rintro e w19 ⟨v273, rfl, ho0, hb⟩; refine ⟨_, rfl, ?_⟩; have HO274 := Aside0.mk (Kd.R_lower (Kd.R_new' ho0 (Kd.R_lt (rs_ HO271))) (below_size (hq_ HB))); replace HO271 := Aside0.mk (Kd.R_elder' (rs_ HO271) (Kd.R_base ho0) hb); replace HB := bs_ w hb; (try clear hb); (try clear hb2); (try clear hk); (try clear hi); (try clear ho0)) | ((with_reducible refine gate_callee (f := 27) rfl ?_); (try refine ug_ (by rfl) ?_); refine goesA_ (some 14) Try.func27 #[] ?_; (with_reducible refine (spigotlaw38_given.calls  t276 t277 _ A4.out).mono ?_); rintro e w20 ⟨rfl, hb⟩; refine ⟨_, rfl, ?_⟩; replace HO271 := rb_ HO271 hb; replace HO274 := rb_ HO274 hb; replace HB := bs_ w hb; clear hb) | ((with_reducible refine gate_callee (f := 41) rfl ?_); (try refine ug_ (by rfl) ?_); refine goesA_ (some 15) Try.func41 #[] ?_; (with_reducible refine (spigotlaw38_costs.calls  t278 _ A5.out).mono ?_); rintro e w21 ⟨v279, rfl, ho0, hb⟩; refine ⟨_, rfl, ?_⟩; have HO280 := Aside0.mk (Kd.R_lower (Kd.R_new' (Kd.R_new' ho0 (Kd.R_lt (rs_ HO271))) (Kd.R_lt (rs_ HO274))) (below_size (hq_ HB))); replace HO271 := Aside0.mk (Kd.R_elder' (rs_ HO271) (Kd.R_base ho0) hb); replace HO274 := Aside0.mk (Kd.R_elder' (rs_ HO274) (Kd.R_base ho0) hb); replace HB := bs_ w hb; (try clear hb); (try clear hb2); (try clear hk); (try clear hi); (try clear ho0); obtain ⟨Ao22, co22, eo22⟩ := Kd.R_slice HO280.out; subst eo22) | ((with_reducible refine gate_callee (f := 17) rfl ?_); (try refine ug_ (by rfl) ?_); refine goesA_ (some 16) Try.func17 #[.agg #[.int .i64 t276, .int .i64 t277], .slice Ao22 t278.length co22] ?_; (with_reducible refine (window_Slide.calls k t276 t277 _ _ t278 t281 t284 _ ?side1 ?side2 A6.out).mono ?_); (case side1 => exact cr_ HO280); (case side2 => exact (Kd.R_reads' HO280.out).2.1); rintro e w23 ⟨v282, rfl, ho0, hb⟩; refine ⟨_, rfl, ?_⟩; have HO283 := Aside0.mk (Kd.R_lower (Kd.R_new' (Kd.R_new' (Kd.R_new' ho0 (Kd.R_lt (rs_ HO271))) (Kd.R_lt (rs_ HO274))) (Kd.R_lt (rs_ HO280))) (below_size (hq_ HB))); replace HO271 := Aside0.mk (Kd.R_elder' (rs_ HO271) (Kd.R_base ho0) hb); replace HO274 := Aside0.mk (Kd.R_elder' (rs_ HO274) (Kd.R_base ho0) hb); replace HO280 := Aside0.mk (Kd.R_elder' (rs_ HO280) (Kd.R_base ho0) hb); replace HB := bs_ w hb; (try clear hb); (try clear hb2); (try clear hk); (try clear hi); (try clear ho0)) | ((with_reducible refine gate_callee (f := 27) rfl ?_); (try refine ug_ (by rfl) ?_); refine goesA_ (some 20) Try.func27 #[] ?_; (with_reducible refine (spigotlaw38_given.calls  t285 t286 _ A7.out).mono ?_); rintro e w24 ⟨rfl, hb⟩; refine ⟨_, rfl, ?_⟩; replace HO271 := rb_ HO271 hb; replace HO274 := rb_ HO274 hb; replace HO280 := rb_ HO280 hb; replace HO283 := rb_ HO283 hb; replace HB := bs_ w hb; clear hb; obtain ⟨Ao25, co25, eo25⟩ := Kd.R_slice HO274.out; subst eo25) | ((with_reducible refine gate_callee (f := 12) rfl ?_); (try refine ug_ (by rfl) ?_); refine goesA_ (some 22) Try.func12 #[.agg #[.int .i64 t285, .int .i64 t286], .slice Ao25 t272.length co25] ?_; (with_reducible refine (window_Most.calls k t285 t286 _ _ t272 t287 t288 _ ?side1 ?side2 A8.out).mono ?_); (case side1 => exact cr_ HO274); (case side2 => exact (Kd.R_reads' HO274.out).2.1); rintro e w26 ⟨rfl, hb⟩; refine ⟨_, rfl, ?_⟩; replace HO271 := rb_ HO271 hb; replace HO274 := rb_ HO274 hb; replace HO280 := rb_ HO280 hb; replace HO283 := rb_ HO283 hb; replace HB := bs_ w hb; clear hb) | ((with_reducible refine gate_dst (N := 33) rfl ?_); (try refine ug_ (by rfl) ?_); refine Kd.R_lit k58 _ 58 ?hg (N := 33) ?hd (xs := ([(⟨8, 3⟩ : S58), (⟨9, 2⟩ : S58), (⟨10, 4⟩ : S58), (⟨18, 1⟩ : S58)] : List (S58))) (inner := [.int .u64 8, .int .i64 3, .int .u64 9, .int .i64 2, .int .u64 10, .int .i64 4, .int .u64 18, .int .i64 1]) (ok := fun _ => True) (okp := fun _ => True) ?hr ?hp (fun _ hk => hk) trivial (Below.refl _ _) (Nat.le_refl _) (by simp) ?_; (case hd => rfl); (case hg => rfl); (case hr => first | (go_simp; done) | (go_simp; rfl)); (case hp => exact (Reps.c2 (show Kd.M k58 _ _ _ (⟨8, 3⟩ : S58) [.int .u64 8, .int .i64 3] from (k58_mkM _ _ _ (⟨8, 3⟩ : S58) )) (Reps.c2 (show Kd.M k58 _ _ _ (⟨9, 2⟩ : S58) [.int .u64 9, .int .i64 2] from (k58_mkM _ _ _ (⟨9, 2⟩ : S58) )) (Reps.c2 (show Kd.M k58 _ _ _ (⟨10, 4⟩ : S58) [.int .u64 10, .int .i64 4] from (k58_mkM _ _ _ (⟨10, 4⟩ : S58) )) (Reps.c2 (show Kd.M k58 _ _ _ (⟨18, 1⟩ : S58) [.int .u64 18, .int .i64 1] from (k58_mkM _ _ _ (⟨18, 1⟩ : S58) )) (Reps.none _ _)))))); intro v290 w27 ho28 hb hg_ hnew_; clear hg_ hnew_; (first | rw [← Ny289.out] at ho28 | (simp only [Int.reduceToNat] at ho28; rw [← Ny289.out] at ho28)); have HO291 := Aside0.mk (Kd.R_lower (Kd.R_new' (Kd.R_new' (Kd.R_new' (Kd.R_new' ho28 (Kd.R_lt (rs_ HO271))) (Kd.R_lt (rs_ HO274))) (Kd.R_lt (rs_ HO280))) (Kd.R_lt (rs_ HO283))) (below_size (hq_ HB))); replace HO271 := Aside0.mk (Kd.R_elder' (rs_ HO271) (Kd.R_base ho28) hb); replace HO274 := Aside0.mk (Kd.R_elder' (rs_ HO274) (Kd.R_base ho28) hb); replace HO280 := Aside0.mk (Kd.R_elder' (rs_ HO280) (Kd.R_base ho28) hb); replace HO283 := Aside0.mk (Kd.R_elder' (rs_ HO283) (Kd.R_base ho28) hb); replace HB := bs_ w hb; clear hb ho28; obtain ⟨Ao29, co29, eo29⟩ := Kd.R_slice HO291.out; subst eo29) | (go_at_call 25; (with_reducible refine (spigotref38_Same.calls k _ _ t272 _ _ y289 true _ ?side1 ?side2 ?side3 ?side4 A10.out).mono ?_); (case side1 => exact cr_ HO274); (case side2 => exact (Kd.R_reads' HO274.out).2.1); (case side3 => exact cr_ HO291); (case side4 => exact (Kd.R_reads' HO291.out).2.1); rintro e w' ⟨rfl, ⟨nd, rfl⟩⟩) | ((with_reducible refine gate_dst (N := 46) rfl ?_); (try refine ug_ (by rfl) ?_); refine Kd.R_lit k58 _ 58 ?hg (N := 46) ?hd (xs := ([(⟨8, 3⟩ : S58), (⟨9, 2⟩ : S58), (⟨18, 1⟩ : S58), (⟨19, 2⟩ : S58)] : List (S58))) (inner := [.int .u64 8, .int .i64 3, .int .u64 9, .int .i64 2, .int .u64 18, .int .i64 1, .int .u64 19, .int .i64 2]) (ok := fun _ => True) (okp := fun _ => True) ?hr ?hp (fun _ hk => hk) trivial (Below.refl _ _) (Nat.le_refl _) (by simp) ?_; (case hd => rfl); (case hg => rfl); (case hr => first | (go_simp; done) | (go_simp; rfl)); (case hp => exact (Reps.c2 (show Kd.M k58 _ _ _ (⟨8, 3⟩ : S58) [.int .u64 8, .int .i64 3] from (k58_mkM _ _ _ (⟨8, 3⟩ : S58) )) (Reps.c2 (show Kd.M k58 _ _ _ (⟨9, 2⟩ : S58) [.int .u64 9, .int .i64 2] from (k58_mkM _ _ _ (⟨9, 2⟩ : S58) )) (Reps.c2 (show Kd.M k58 _ _ _ (⟨18, 1⟩ : S58) [.int .u64 18, .int .i64 1] from (k58_mkM _ _ _ (⟨18, 1⟩ : S58) )) (Reps.c2 (show Kd.M k58 _ _ _ (⟨19, 2⟩ : S58) [.int .u64 19, .int .i64 2] from (k58_mkM _ _ _ (⟨19, 2⟩ : S58) )) (Reps.none _ _)))))); intro v294 w30 ho31 hb hg_ hnew_; clear hg_ hnew_; (first | rw [← Ny293.out] at ho31 | (simp only [Int.reduceToNat] at ho31; rw [← Ny293.out] at ho31)); have HO295 := Aside0.mk (Kd.R_lower (Kd.R_new' (Kd.R_new' (Kd.R_new' (Kd.R_new' (Kd.R_new' ho31 (Kd.R_lt (rs_ HO271))) (Kd.R_lt (rs_ HO274))) (Kd.R_lt (rs_ HO280))) (Kd.R_lt (rs_ HO283))) (Kd.R_lt (rs_ HO291))) (below_size (hq_ HB))); replace HO271 := Aside0.mk (Kd.R_elder' (rs_ HO271) (Kd.R_base ho31) hb); replace HO274 := Aside0.mk (Kd.R_elder' (rs_ HO274) (Kd.R_base ho31) hb); replace HO280 := Aside0.mk (Kd.R_elder' (rs_ HO280) (Kd.R_base ho31) hb); replace HO283 := Aside0.mk (Kd.R_elder' (rs_ HO283) (Kd.R_base ho31) hb); replace HO291 := Aside0.mk (Kd.R_elder' (rs_ HO291) (Kd.R_base ho31) hb); replace HB := bs_ w hb; clear hb ho31; obtain ⟨Ao32, co32, eo32⟩ := Kd.R_slice HO283.out; subst eo32; obtain ⟨Ao33, co33, eo33⟩ := Kd.R_slice HO295.out; subst eo33) | (go_at_call 25; (with_reducible refine (spigotref38_Same.calls k _ _ t281 _ _ y293 true _ ?side1 ?side2 ?side3 ?side4 A13.out).mono ?_); (case side1 => exact cr_ HO283); (case side2 => exact (Kd.R_reads' HO283.out).2.1); (case side3 => exact cr_ HO295); (case side4 => exact (Kd.R_reads' HO295.out).2.1); rintro e w' ⟨rfl, ⟨nd, rfl⟩⟩))
   go_ret
   exact fi_
  ·replace c14 := Bool.eq_false_iff.mpr c14
   subst c14
   replace H : (none) = some r := by rw [if_neg (show ¬ (false = true) by decide)] at H; exact H
   exact absurd H (by simp)
 ·replace c11 := Bool.eq_false_iff.mpr c11
  subst c11
  replace H : (none) = some r := by rw [if_neg (show ¬ (false = true) by decide)] at H; exact H
  exact absurd H (by simp)

end Go.Proofs.Ytjjmnafhaneflaa.X
