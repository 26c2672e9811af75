-- written by xprint.py, a program of this session over the kit's print
import Derived.Test.YtbfdpodlnijeoaaX0
import Derived.Test.YtbfdpodlnijeoaaX13
import Derived.Test.YtbfdpodlnijeoaaX14
import Derived.Test.YtbfdpodlnijeoaaX15
import Derived.Test.YtbfdpodlnijeoaaX16
namespace Go.Proofs.Ytbfdpodlnijeoaa.X
open Go.RowKit Go.Proofs.YtbfdpodlnijeoaaW.PrintWords Go.Proofs.YtbfdpodlnijeoaaW.PrintLast Go.Proofs.YtbfdpodlnijeoaaW.PrintMore
attribute [local go_sem] max2_int min2_int max_two min_two max_three min_three max_four min_four   -- for this text's walks alone
set_option linter.unusedVariables false
set_option linter.unusedSimpArgs false

/-! ### spigotlaw42_alive: function 10 -/
def spigotlaw42_alive.f (k : Nat)  : Option (Bool) := (spigotlaw42_given.f).bind fun bt231 => ((lease_Run.f k bt231.1 bt231.2.1 bt231.2.2.1 bt231.2.2.2.1 bt231.2.2.2.2.1 bt231.2.2.2.2.2.1 bt231.2.2.2.2.2.2.1 bt231.2.2.2.2.2.2.2 (([(⟨1, 0, 0, 0⟩ : S31), (⟨1, 1, 0, 0⟩ : S31), (⟨2, 0, 0, 3⟩ : S31), (⟨2, 0, 0, 2⟩ : S31), (⟨1, 1, 1, 0⟩ : S31)] : List (S31)))).bind fun bt241 => ((lease_Out.f k bt241.1 bt241.2.1 bt241.2.2.1 bt241.2.2.2.1 bt241.2.2.2.2.1 bt241.2.2.2.2.2.1 bt241.2.2.2.2.2.2.1 bt241.2.2.2.2.2.2.2.1).bind fun bt256 => ((lease_Step.f k bt241.1 bt241.2.1 bt241.2.2.1 bt241.2.2.2.1 bt241.2.2.2.2.1 bt241.2.2.2.2.2.1 bt241.2.2.2.2.2.2.1 bt241.2.2.2.2.2.2.2.1 3 1 1 0).bind fun bt258 => ((lease_Out.f k bt258.1 bt258.2.1 bt258.2.2.1 bt258.2.2.2.1 bt258.2.2.2.2.1 bt258.2.2.2.2.2.1 bt258.2.2.2.2.2.2.1 bt258.2.2.2.2.2.2.2.1).bind fun bt271 => (if bt241.2.2.2.2.2.2.2.2.2 = 0 then ((spigotref42_SameLongs.f k bt241.2.2.2.2.2.2.2.2.1 (([4, 4, 3, (-1), 3] : List Int))).bind fun t276 => (if t276 = true then (if bt256.2 = 0 then (if bt256.1 = 8 then (if bt241.2.2.2.1 = 0 then (if bt258.2.2.2.2.2.2.2.2.2 = 0 then (if bt258.2.2.2.2.2.2.2.2.1 = 7 then (if bt271.2 = 0 then (if bt271.1 = 1 then (some (bt258.2.2.2.1 == 7)) else (none)) else (none)) else (none)) else (none)) else (none)) else (none)) else (none)) else (none))) else (none))))))
theorem spigotlaw42_alive.mono : ∀ k, LeO (spigotlaw42_alive.f k ) (spigotlaw42_alive.f (k + 1) ) := by
  intro  k
  unfold spigotlaw42_alive.f
  repeat' first
      | (with_reducible exact lease_Out.mono _ _ _ _ _ _ _ _ _)
      | (with_reducible exact lease_Run.mono _ _ _ _ _ _ _ _ _ _)
      | (with_reducible exact lease_Step.mono _ _ _ _ _ _ _ _ _ _ _ _ _)
      | (with_reducible exact spigotref42_SameLongs.mono _ _ _)
      | (with_reducible exact LeO.refl _)
      | (with_reducible exact LeO.none _)
      | (with_reducible refine LeO.ite ?_ ?_)
      | (with_reducible refine LeO.bind ?_ (fun _ => ?_))
      | exact lease_Out.mono _ _ _ _ _ _ _ _ _
      | exact lease_Run.mono _ _ _ _ _ _ _ _ _ _
      | exact lease_Step.mono _ _ _ _ _ _ _ _ _ _ _ _ _
      | exact spigotref42_SameLongs.mono _ _ _
      | exact LeO.none _
      | refine LeO.ite ?_ ?_
      | refine LeO.bind ?_ (fun _ => ?_)
set_option maxHeartbeats 8000000 in
set_option maxRecDepth 100000 in
theorem spigotlaw42_alive.calls (k : Nat)  (r : Bool) (w : World) (h : spigotlaw42_alive.f k  = some r) :
  Calls Try.prog 10 #[] w fun e w' => e = .returned (.bool r) ∧ Below w.heap.size w w' := by
 have hu31 := Try.underlying31
 have hu29 := Try.underlying29
 have HB := Aside0.mk (Below.refl w.heap.size w)
 have H : ((spigotlaw42_given.f).bind fun bt231 => ((lease_Run.f k bt231.1 bt231.2.1 bt231.2.2.1 bt231.2.2.2.1 bt231.2.2.2.2.1 bt231.2.2.2.2.2.1 bt231.2.2.2.2.2.2.1 bt231.2.2.2.2.2.2.2 (([(⟨1, 0, 0, 0⟩ : S31), (⟨1, 1, 0, 0⟩ : S31), (⟨2, 0, 0, 3⟩ : S31), (⟨2, 0, 0, 2⟩ : S31), (⟨1, 1, 1, 0⟩ : S31)] : List (S31)))).bind fun bt241 => ((lease_Out.f k bt241.1 bt241.2.1 bt241.2.2.1 bt241.2.2.2.1 bt241.2.2.2.2.1 bt241.2.2.2.2.2.1 bt241.2.2.2.2.2.2.1 bt241.2.2.2.2.2.2.2.1).bind fun bt256 => ((lease_Step.f k bt241.1 bt241.2.1 bt241.2.2.1 bt241.2.2.2.1 bt241.2.2.2.2.1 bt241.2.2.2.2.2.1 bt241.2.2.2.2.2.2.1 bt241.2.2.2.2.2.2.2.1 3 1 1 0).bind fun bt258 => ((lease_Out.f k bt258.1 bt258.2.1 bt258.2.2.1 bt258.2.2.2.1 bt258.2.2.2.2.1 bt258.2.2.2.2.2.1 bt258.2.2.2.2.2.2.1 bt258.2.2.2.2.2.2.2.1).bind fun bt271 => (if bt241.2.2.2.2.2.2.2.2.2 = 0 then ((spigotref42_SameLongs.f k bt241.2.2.2.2.2.2.2.2.1 (([4, 4, 3, (-1), 3] : List Int))).bind fun t276 => (if t276 = true then (if bt256.2 = 0 then (if bt256.1 = 8 then (if bt241.2.2.2.1 = 0 then (if bt258.2.2.2.2.2.2.2.2.2 = 0 then (if bt258.2.2.2.2.2.2.2.2.1 = 7 then (if bt271.2 = 0 then (if bt271.1 = 1 then (some (bt258.2.2.2.1 == 7)) else (none)) else (none)) else (none)) else (none)) else (none)) else (none)) else (none)) else (none))) else (none))))))) = some r := h
 clear h
 obtain ⟨y228, hy228⟩ : ∃ y_ : List (S31), y_ = (([(⟨1, 0, 0, 0⟩ : S31), (⟨1, 1, 0, 0⟩ : S31), (⟨2, 0, 0, 3⟩ : S31), (⟨2, 0, 0, 2⟩ : S31), (⟨1, 1, 1, 0⟩ : S31)] : List (S31))) := ⟨_, rfl⟩
 replace H : ((spigotlaw42_given.f).bind fun bt231 => ((lease_Run.f k bt231.1 bt231.2.1 bt231.2.2.1 bt231.2.2.2.1 bt231.2.2.2.2.1 bt231.2.2.2.2.2.1 bt231.2.2.2.2.2.2.1 bt231.2.2.2.2.2.2.2 y228).bind fun bt241 => ((lease_Out.f k bt241.1 bt241.2.1 bt241.2.2.1 bt241.2.2.2.1 bt241.2.2.2.2.1 bt241.2.2.2.2.2.1 bt241.2.2.2.2.2.2.1 bt241.2.2.2.2.2.2.2.1).bind fun bt256 => ((lease_Step.f k bt241.1 bt241.2.1 bt241.2.2.1 bt241.2.2.2.1 bt241.2.2.2.2.1 bt241.2.2.2.2.2.1 bt241.2.2.2.2.2.2.1 bt241.2.2.2.2.2.2.2.1 3 1 1 0).bind fun bt258 => ((lease_Out.f k bt258.1 bt258.2.1 bt258.2.2.1 bt258.2.2.2.1 bt258.2.2.2.2.1 bt258.2.2.2.2.2.1 bt258.2.2.2.2.2.2.1 bt258.2.2.2.2.2.2.2.1).bind fun bt271 => (if bt241.2.2.2.2.2.2.2.2.2 = 0 then ((spigotref42_SameLongs.f k bt241.2.2.2.2.2.2.2.2.1 (([4, 4, 3, (-1), 3] : List Int))).bind fun t276 => (if t276 = true then (if bt256.2 = 0 then (if bt256.1 = 8 then (if bt241.2.2.2.1 = 0 then (if bt258.2.2.2.2.2.2.2.2.2 = 0 then (if bt258.2.2.2.2.2.2.2.2.1 = 7 then (if bt271.2 = 0 then (if bt271.1 = 1 then (some (bt258.2.2.2.1 == 7)) else (none)) else (none)) else (none)) else (none)) else (none)) else (none)) else (none)) else (none))) else (none))))))) = some r := by first | (rw [hy228]; with_reducible exact H) | (have H2_ := (Option.bind_some _ _).symm.trans H; rw [hy228]; with_reducible exact H2_) | (have H2_ := (Option.bind_some _ _).symm.trans H; with_reducible exact H2_) | with_reducible exact H | (rw [hy228]; exact H) | exact H
 have Ny228 := Aside0.mk hy228
 clear hy228
 obtain ⟨⟨t231, t232, t233, t234, t235, t236, t237, t238⟩, A1, H⟩ := bo_ H
 try dsimp only at H
 obtain ⟨⟨t241, t242, t243, t244, t245, t246, t247, t248, t251, t254⟩, A2, H⟩ := bo_ H
 try dsimp only at H
 obtain ⟨⟨t256, t257⟩, A3, H⟩ := bo_ H
 try dsimp only at H
 obtain ⟨⟨t258, t259, t260, t261, t262, t263, t264, t265, t268, t269⟩, A4, H⟩ := bo_ H
 try dsimp only at H
 obtain ⟨⟨t271, t272⟩, A5, H⟩ := bo_ H
 try dsimp only at H
 by_cases c6 : t254 = 0
 rotate_left
 ·rw [if_neg c6] at H; exact absurd H (by simp)
 rw [if_pos c6] at H
 have c6b0 : (t254 == 0) = true := beq_iff_eq.mpr c6
 have c6b1 : (t254 != 0) = false := bne_eq_false_iff_eq.mpr c6
 clear c6
 obtain ⟨y273, hy273⟩ : ∃ y_ : List Int, y_ = (([4, 4, 3, (-1), 3] : List Int)) := ⟨_, rfl⟩
 replace H : ((spigotref42_SameLongs.f k t251 y273).bind fun t276 => (if t276 = true then (if t257 = 0 then (if t256 = 8 then (if t244 = 0 then (if t269 = 0 then (if t268 = 7 then (if t272 = 0 then (if t271 = 1 then (some (t261 == 7)) else (none)) else (none)) else (none)) else (none)) else (none)) else (none)) else (none)) else (none))) = some r := by first | (rw [hy273]; with_reducible exact H) | (have H2_ := (Option.bind_some _ _).symm.trans H; rw [hy273]; with_reducible exact H2_) | (have H2_ := (Option.bind_some _ _).symm.trans H; with_reducible exact H2_) | with_reducible exact H | (rw [hy273]; exact H) | exact H
 have Ny273 := Aside0.mk hy273
 clear hy273
 obtain ⟨t276, A7, H⟩ := bo_ H
 try dsimp only at H
 by_cases c8 : t276 = true
 ·subst c8
  rw [if_pos rfl] at H
  try dsimp only at H
  by_cases c9 : t257 = 0
  rotate_left
  ·rw [if_neg c9] at H; exact absurd H (by simp)
  rw [if_pos c9] at H
  have c9b0 : (t257 == 0) = true := beq_iff_eq.mpr c9
  have c9b1 : (t257 != 0) = false := bne_eq_false_iff_eq.mpr c9
  clear c9
  by_cases c10 : t256 = 8
  rotate_left
  ·rw [if_neg c10] at H; exact absurd H (by simp)
  rw [if_pos c10] at H
  have c10b0 : (t256 == 8) = true := beq_iff_eq.mpr c10
  have c10b1 : (t256 != 8) = false := bne_eq_false_iff_eq.mpr c10
  clear c10
  by_cases c11 : t244 = 0
  rotate_left
  ·rw [if_neg c11] at H; exact absurd H (by simp)
  rw [if_pos c11] at H
  have c11b0 : (t244 == 0) = true := beq_iff_eq.mpr c11
  have c11b1 : (t244 != 0) = false := bne_eq_false_iff_eq.mpr c11
  clear c11
  by_cases c12 : t269 = 0
  rotate_left
  ·rw [if_neg c12] at H; exact absurd H (by simp)
  rw [if_pos c12] at H
  have c12b0 : (t269 == 0) = true := beq_iff_eq.mpr c12
  have c12b1 : (t269 != 0) = false := bne_eq_false_iff_eq.mpr c12
  clear c12
  by_cases c13 : t268 = 7
  rotate_left
  ·rw [if_neg c13] at H; exact absurd H (by simp)
  rw [if_pos c13] at H
  have c13b0 : (t268 == 7) = true := beq_iff_eq.mpr c13
  have c13b1 : (t268 != 7) = false := bne_eq_false_iff_eq.mpr c13
  clear c13
  by_cases c14 : t272 = 0
  rotate_left
  ·rw [if_neg c14] at H; exact absurd H (by simp)
  rw [if_pos c14] at H
  have c14b0 : (t272 == 0) = true := beq_iff_eq.mpr c14
  have c14b1 : (t272 != 0) = false := bne_eq_false_iff_eq.mpr c14
  clear c14
  by_cases c15 : t271 = 1
  rotate_left
  ·rw [if_neg c15] at H; exact absurd H (by simp)
  rw [if_pos c15] at H
  have c15b0 : (t271 == 1) = true := beq_iff_eq.mpr c15
  have c15b1 : (t271 != 1) = false := bne_eq_false_iff_eq.mpr c15
  clear c15
  obtain rfl := Option.some.inj H
  go_enter Try.func10, Try.ntmps10
  go_wp2_with (first | ((with_reducible refine gate_dst (N := 17) rfl ?_); (try refine ug_ (by rfl) ?_); refine Kd.R_lit k31 _ 31 ?hg (N := 17) ?hd (xs := ([(⟨1, 0, 0, 0⟩ : S31), (⟨1, 1, 0, 0⟩ : S31), (⟨2, 0, 0, 3⟩ : S31), (⟨2, 0, 0, 2⟩ : S31), (⟨1, 1, 1, 0⟩ : S31)] : List (S31))) (inner := [.int .u8 1, .int .i64 0, .int .u64 0, .int .i64 0, .int .u8 1, .int .i64 1, .int .u64 0, .int .i64 0, .int .u8 2, .int .i64 0, .int .u64 0, .int .i64 3, .int .u8 2, .int .i64 0, .int .u64 0, .int .i64 2, .int .u8 1, .int .i64 1, .int .u64 1, .int .i64 0]) (ok := fun _ => True) (okp := fun _ => True) ?hr ?hp (fun _ hk => hk) trivial (Below.refl _ _) (Nat.le_refl _) (by simp) ?_; (case hd => rfl); (case hg => rfl); (case hr => first | (go_simp; done) | (go_simp; rfl)); (case hp => exact (Reps.c4 (show Kd.M k31 _ _ _ (⟨1, 0, 0, 0⟩ : S31) [.int .u8 1, .int .i64 0, .int .u64 0, .int .i64 0] from (k31_mkM _ _ _ (⟨1, 0, 0, 0⟩ : S31) )) (Reps.c4 (show Kd.M k31 _ _ _ (⟨1, 1, 0, 0⟩ : S31) [.int .u8 1, .int .i64 1, .int .u64 0, .int .i64 0] from (k31_mkM _ _ _ (⟨1, 1, 0, 0⟩ : S31) )) (Reps.c4 (show Kd.M k31 _ _ _ (⟨2, 0, 0, 3⟩ : S31) [.int .u8 2, .int .i64 0, .int .u64 0, .int .i64 3] from (k31_mkM _ _ _ (⟨2, 0, 0, 3⟩ : S31) )) (Reps.c4 (show Kd.M k31 _ _ _ (⟨2, 0, 0, 2⟩ : S31) [.int .u8 2, .int .i64 0, .int .u64 0, .int .i64 2] from (k31_mkM _ _ _ (⟨2, 0, 0, 2⟩ : S31) )) (Reps.c4 (show Kd.M k31 _ _ _ (⟨1, 1, 1, 0⟩ : S31) [.int .u8 1, .int .i64 1, .int .u64 1, .int .i64 0] from (k31_mkM _ _ _ (⟨1, 1, 1, 0⟩ : S31) )) (Reps.none _ _))))))); intro v229 w16 ho17 hb hg_ hnew_; clear hg_ hnew_; (first | rw [← Ny228.out] at ho17 | (simp only [Int.reduceToNat] at ho17; rw [← Ny228.out] at ho17)); have HO230 := Aside0.mk (Kd.R_lower ho17 (below_size (hq_ HB))); replace HB := bs_ w hb; clear hb ho17) | ((with_reducible refine gate_callee (f := 28) rfl ?_); (try refine ug_ (by rfl) ?_); refine goesA_ (some 19) Try.func28 #[] ?_; (with_reducible refine (spigotlaw42_given.calls  t231 t232 t233 t234 t235 t236 t237 t238 _ A1.out).mono ?_); rintro e w18 ⟨v239, rfl, ho0, hb⟩; refine ⟨_, rfl, ?_⟩; have HO240 := Aside0.mk (Kd.R_lower ho0 (below_size (hq_ HB))); replace HO230 := rb_ HO230 hb; replace HB := bs_ w hb; (try clear hb); (try clear hb2); (try clear hk); (try clear hi); (try clear ho0); obtain ⟨Ao19, co19, eo19⟩ := Kd.R_slice HO240.out; subst eo19; obtain ⟨Ao20, co20, eo20⟩ := Kd.R_slice HO230.out; subst eo20) | ((with_reducible refine gate_callee (f := 16) rfl ?_); (try refine ug_ (by rfl) ?_); refine goesA_ (some 21) Try.func16 #[.agg #[.int .i64 t231, .int .i64 t232, .int .i64 t233, .int .i64 t234, .int .i64 t235, .int .u64 t236, .int .i64 t237, .slice Ao19 t238.length co19], .slice Ao20 y228.length co20] ?_; (with_reducible refine (lease_Run.calls k t231 t232 t233 t234 t235 t236 t237 _ _ t238 _ _ y228 t241 t242 t243 t244 t245 t246 t247 t248 t251 t254 _ ?side1 ?side2 ?side3 ?side4 A2.out).mono ?_); (case side1 => exact cr_ HO240); (case side2 => exact (Kd.R_reads' HO240.out).2.1); (case side3 => exact cr_ HO230); (case side4 => exact (Kd.R_reads' HO230.out).2.1); rintro e w21 ⟨v249, v252, rfl, ho0, ho1, hb⟩; refine ⟨_, rfl, ?_⟩; have HO250 := Aside0.mk (Kd.R_lower (Kd.R_new' ho0 (Kd.R_lt (rs_ HO240))) (below_size (hq_ HB))); have HO253 := Aside0.mk (Kd.R_lower (Kd.R_new' ho1 (Kd.R_lt (rs_ HO240))) (below_size (hq_ HB))); replace HO230 := rb_ HO230 hb; replace HO240 := Aside0.mk (Kd.R_mono (Kd.R_told (Kd.R_told (Kd.R_old (rs_ HO240) hb) (Kd.R_base ho0)) (Kd.R_base ho1)) (fun _ h_ => h_.1)); replace HB := bs_ w hb; (try clear hb); (try clear hb2); (try clear hk); (try clear hi); (try clear ho0); (try clear ho1)) | ((with_reducible refine gate_dst (N := 2) rfl ?_); (try refine ug_ (by rfl) ?_); refine bx_ #[.int .i64 0, .int .i64 0, .int .i64 0, .int .i64 0, .int .i64 0, .int .u64 0, .int .i64 0, .slice none 0 0] 29 ?_; intro gb255 hg w22 BK255 hb; have GW255 := bz_ w hg; replace HO230 := rb_ HO230 hb; replace HO240 := rb_ HO240 hb; replace HO250 := rb_ HO250 hb; replace HO253 := rb_ HO253 hb; replace HB := bs_ w hb; clear hb hg; replace hc255 := ce8_ BK255; obtain ⟨Ao24, co24, eo24⟩ := Kd.R_slice HO250.out; subst eo24) | ((with_reducible refine gate_callee (f := 15) rfl ?_); (try refine ug_ (by rfl) ?_); refine goesA_ (some 27) Try.func15 #[.agg #[.int .i64 t241, .int .i64 t242, .int .i64 t243, .int .i64 t244, .int .i64 t245, .int .u64 t246, .int .i64 t247, .slice Ao24 t248.length co24]] ?_; (with_reducible refine (lease_Out.calls k t241 t242 t243 t244 t245 t246 t247 _ _ t248 t256 t257 _ ?side1 ?side2 A3.out).mono ?_); (case side1 => refine (Kd.R_reads' (e := 2) (base := w.heap.size) (ok := fun k_ => (some k_ ≠ (v252 : Value).ownBlock ∧ some k_ ≠ (.slice Ao19 t238.length co19 : Value).ownBlock)) (n := t248.length) (c := co24) ?_).2.2; exact (by (with_reducible repeat (first | apply Kd.R_alloc | apply Kd.R_drewN | apply Kd.R_drew)); exact (Kd.R_mono (Kd.R_far (p := ⟨gb255, 7, none⟩) (Kd.R_far (p := ⟨gb255, 6, none⟩) (Kd.R_far (p := ⟨gb255, 5, none⟩) (Kd.R_far (p := ⟨gb255, 4, none⟩) (Kd.R_far (p := ⟨gb255, 3, none⟩) (Kd.R_far (p := ⟨gb255, 2, none⟩) (Kd.R_far (p := ⟨gb255, 1, none⟩) (Kd.R_far (p := ⟨gb255, 0, none⟩) (Kd.R_types HO250.out BK255.out (by decide)) (fun _ hk => hk.2) (.int .i64 t241)) (fun _ hk => hk.2) (.int .i64 t242)) (fun _ hk => hk.2) (.int .i64 t243)) (fun _ hk => hk.2) (.int .i64 t244)) (fun _ hk => hk.2) (.int .i64 t245)) (fun _ hk => hk.2) (.int .u64 t246)) (fun _ hk => hk.2) (.int .i64 t247)) (fun _ hk => hk.2) (.slice Ao24 t248.length co24)) (fun _ h_ => h_.1)))); (case side2 => exact (Kd.R_reads' HO250.out).2.1); rintro e w25 ⟨rfl, hb⟩; refine ⟨_, rfl, ?_⟩; replace HO230 := Aside0.mk (Kd.R_below (by (with_reducible repeat (first | apply Kd.R_alloc | apply Kd.R_drewN | apply Kd.R_drew)); exact (Kd.R_mono (Kd.R_far (p := ⟨gb255, 7, none⟩) (Kd.R_far (p := ⟨gb255, 6, none⟩) (Kd.R_far (p := ⟨gb255, 5, none⟩) (Kd.R_far (p := ⟨gb255, 4, none⟩) (Kd.R_far (p := ⟨gb255, 3, none⟩) (Kd.R_far (p := ⟨gb255, 2, none⟩) (Kd.R_far (p := ⟨gb255, 1, none⟩) (Kd.R_far (p := ⟨gb255, 0, none⟩) (Kd.R_types HO230.out BK255.out (by decide)) (fun _ hk => hk.2) (.int .i64 t241)) (fun _ hk => hk.2) (.int .i64 t242)) (fun _ hk => hk.2) (.int .i64 t243)) (fun _ hk => hk.2) (.int .i64 t244)) (fun _ hk => hk.2) (.int .i64 t245)) (fun _ hk => hk.2) (.int .u64 t246)) (fun _ hk => hk.2) (.int .i64 t247)) (fun _ hk => hk.2) (.slice Ao24 t248.length co24)) (fun _ h_ => h_.1))) hb); replace HO240 := Aside0.mk (Kd.R_below (by (with_reducible repeat (first | apply Kd.R_alloc | apply Kd.R_drewN | apply Kd.R_drew)); exact (Kd.R_mono (Kd.R_far (p := ⟨gb255, 7, none⟩) (Kd.R_far (p := ⟨gb255, 6, none⟩) (Kd.R_far (p := ⟨gb255, 5, none⟩) (Kd.R_far (p := ⟨gb255, 4, none⟩) (Kd.R_far (p := ⟨gb255, 3, none⟩) (Kd.R_far (p := ⟨gb255, 2, none⟩) (Kd.R_far (p := ⟨gb255, 1, none⟩) (Kd.R_far (p := ⟨gb255, 0, none⟩) (Kd.R_types HO240.out BK255.out (by decide)) (fun _ hk => hk.2) (.int .i64 t241)) (fun _ hk => hk.2) (.int .i64 t242)) (fun _ hk => hk.2) (.int .i64 t243)) (fun _ hk => hk.2) (.int .i64 t244)) (fun _ hk => hk.2) (.int .i64 t245)) (fun _ hk => hk.2) (.int .u64 t246)) (fun _ hk => hk.2) (.int .i64 t247)) (fun _ hk => hk.2) (.slice Ao24 t248.length co24)) (fun _ h_ => h_.1))) hb); replace HO250 := Aside0.mk (Kd.R_below (by (with_reducible repeat (first | apply Kd.R_alloc | apply Kd.R_drewN | apply Kd.R_drew)); exact (Kd.R_mono (Kd.R_far (p := ⟨gb255, 7, none⟩) (Kd.R_far (p := ⟨gb255, 6, none⟩) (Kd.R_far (p := ⟨gb255, 5, none⟩) (Kd.R_far (p := ⟨gb255, 4, none⟩) (Kd.R_far (p := ⟨gb255, 3, none⟩) (Kd.R_far (p := ⟨gb255, 2, none⟩) (Kd.R_far (p := ⟨gb255, 1, none⟩) (Kd.R_far (p := ⟨gb255, 0, none⟩) (Kd.R_types HO250.out BK255.out (by decide)) (fun _ hk => hk.2) (.int .i64 t241)) (fun _ hk => hk.2) (.int .i64 t242)) (fun _ hk => hk.2) (.int .i64 t243)) (fun _ hk => hk.2) (.int .i64 t244)) (fun _ hk => hk.2) (.int .i64 t245)) (fun _ hk => hk.2) (.int .u64 t246)) (fun _ hk => hk.2) (.int .i64 t247)) (fun _ hk => hk.2) (.slice Ao24 t248.length co24)) (fun _ h_ => h_.1))) hb); replace HO253 := Aside0.mk (Kd.R_below (by (with_reducible repeat (first | apply Kd.R_alloc | apply Kd.R_drewN | apply Kd.R_drew)); exact (Kd.R_mono (Kd.R_far (p := ⟨gb255, 7, none⟩) (Kd.R_far (p := ⟨gb255, 6, none⟩) (Kd.R_far (p := ⟨gb255, 5, none⟩) (Kd.R_far (p := ⟨gb255, 4, none⟩) (Kd.R_far (p := ⟨gb255, 3, none⟩) (Kd.R_far (p := ⟨gb255, 2, none⟩) (Kd.R_far (p := ⟨gb255, 1, none⟩) (Kd.R_far (p := ⟨gb255, 0, none⟩) (Kd.R_types HO253.out BK255.out (by decide)) (fun _ hk => hk.2) (.int .i64 t241)) (fun _ hk => hk.2) (.int .i64 t242)) (fun _ hk => hk.2) (.int .i64 t243)) (fun _ hk => hk.2) (.int .i64 t244)) (fun _ hk => hk.2) (.int .i64 t245)) (fun _ hk => hk.2) (.int .u64 t246)) (fun _ hk => hk.2) (.int .i64 t247)) (fun _ hk => hk.2) (.slice Ao24 t248.length co24)) (fun _ h_ => h_.1))) hb); replace BK255 := Aside0.mk (blk_below (g := gb255) (o := .cells #[.int .i64 t241, .int .i64 t242, .int .i64 t243, .int .i64 t244, .int .i64 t245, .int .u64 t246, .int .i64 t247, .slice Ao24 t248.length co24] 29 (0, 0)) (blk_put (cs := #[.int .i64 t241, .int .i64 t242, .int .i64 t243, .int .i64 t244, .int .i64 t245, .int .u64 t246, .int .i64 t247, .slice none 0 0]) (blk_put (cs := #[.int .i64 t241, .int .i64 t242, .int .i64 t243, .int .i64 t244, .int .i64 t245, .int .u64 t246, .int .i64 0, .slice none 0 0]) (blk_put (cs := #[.int .i64 t241, .int .i64 t242, .int .i64 t243, .int .i64 t244, .int .i64 t245, .int .u64 0, .int .i64 0, .slice none 0 0]) (blk_put (cs := #[.int .i64 t241, .int .i64 t242, .int .i64 t243, .int .i64 t244, .int .i64 0, .int .u64 0, .int .i64 0, .slice none 0 0]) (blk_put (cs := #[.int .i64 t241, .int .i64 t242, .int .i64 t243, .int .i64 0, .int .i64 0, .int .u64 0, .int .i64 0, .slice none 0 0]) (blk_put (cs := #[.int .i64 t241, .int .i64 t242, .int .i64 0, .int .i64 0, .int .i64 0, .int .u64 0, .int .i64 0, .slice none 0 0]) (blk_put (cs := #[.int .i64 t241, .int .i64 0, .int .i64 0, .int .i64 0, .int .i64 0, .int .u64 0, .int .i64 0, .slice none 0 0]) (blk_put (cs := #[.int .i64 0, .int .i64 0, .int .i64 0, .int .i64 0, .int .i64 0, .int .u64 0, .int .i64 0, .slice none 0 0]) (bq_ BK255) 0 _ rfl) 1 _ rfl) 2 _ rfl) 3 _ rfl) 4 _ rfl) 5 _ rfl) 6 _ rfl) 7 _ rfl) hb); replace HB := bs_ w hb; clear hb; replace hc255 := ce8_ BK255) | ((with_reducible refine gate_callee (f := 14) rfl ?_); (try refine ug_ (by rfl) ?_); refine goesA_ (some 33) Try.func14 #[.agg #[.int .i64 t241, .int .i64 t242, .int .i64 t243, .int .i64 t244, .int .i64 t245, .int .u64 t246, .int .i64 t247, .slice Ao24 t248.length co24], .agg #[.int .u8 3, .int .i64 1, .int .u64 1, .int .i64 0]] ?_; (with_reducible refine (lease_Step.calls k t241 t242 t243 t244 t245 t246 t247 _ _ t248 3 1 1 0 t258 t259 t260 t261 t262 t263 t264 t265 t268 t269 _ ?side1 ?side2 A4.out).mono ?_); (case side1 => exact cr_ HO250); (case side2 => exact (Kd.R_reads' HO250.out).2.1); rintro e w27 ⟨v266, rfl, ho0, hb⟩; refine ⟨_, rfl, ?_⟩; have HO267 := Aside0.mk (Kd.R_lower (Kd.R_new' (Kd.R_new' (Kd.R_new' ho0 (Kd.R_lt (rs_ HO240))) (Kd.R_lt (rs_ HO250))) (Kd.R_lt (rs_ HO253))) (below_size bh_)); replace HO230 := rb_ HO230 hb; replace HO240 := Aside0.mk (Kd.R_elder' (rs_ HO240) (Kd.R_base ho0) hb); replace HO250 := Aside0.mk (Kd.R_elder' (rs_ HO250) (Kd.R_base ho0) hb); replace HO253 := Aside0.mk (Kd.R_elder' (rs_ HO253) (Kd.R_base ho0) hb); replace BK255 := bb_ BK255 hb; replace HB := bs_ w hb; (try clear hb); (try clear hb2); (try clear hk); (try clear hi); (try clear ho0)) | ((with_reducible refine gate_dst (N := 7) rfl ?_); (try refine ug_ (by rfl) ?_); refine bx_ #[.int .i64 0, .int .i64 0, .int .i64 0, .int .i64 0, .int .i64 0, .int .u64 0, .int .i64 0, .slice none 0 0] 29 ?_; intro gb270 hg w28 BK270 hb; have GW270 := bz_ w hg; have NB255_270 := bn_ BK255 hg; have NB270_255 := bm_ BK255 hg; replace HO230 := rb_ HO230 hb; replace HO240 := rb_ HO240 hb; replace HO250 := rb_ HO250 hb; replace HO253 := rb_ HO253 hb; replace HO267 := rb_ HO267 hb; replace BK255 := bb_ BK255 hb; replace HB := bs_ w hb; clear hb hg; replace hn270_255 := NB270_255.out; replace hn255_270 := NB255_270.out; replace hc270 := ce8_ BK270; obtain ⟨Ao31, co31, eo31⟩ := Kd.R_slice HO267.out; subst eo31) | ((with_reducible refine gate_callee (f := 15) rfl ?_); (try refine ug_ (by rfl) ?_); refine goesA_ (some 39) Try.func15 #[.agg #[.int .i64 t258, .int .i64 t259, .int .i64 t260, .int .i64 t261, .int .i64 t262, .int .u64 t263, .int .i64 t264, .slice Ao31 t265.length co31]] ?_; (with_reducible refine (lease_Out.calls k t258 t259 t260 t261 t262 t263 t264 _ _ t265 t271 t272 _ ?side1 ?side2 A5.out).mono ?_); (case side1 => refine (Kd.R_reads' (e := 2) (base := w.heap.size) (ok := fun k_ => (((True ∧ some k_ ≠ (.slice Ao19 t238.length co19 : Value).ownBlock) ∧ some k_ ≠ (.slice Ao24 t248.length co24 : Value).ownBlock) ∧ some k_ ≠ (v252 : Value).ownBlock)) (n := t265.length) (c := co31) ?_).2.2; exact (by (with_reducible repeat (first | apply Kd.R_alloc | apply Kd.R_drewN | apply Kd.R_drew)); exact (Kd.R_mono (Kd.R_far (p := ⟨gb270, 7, none⟩) (Kd.R_far (p := ⟨gb270, 6, none⟩) (Kd.R_far (p := ⟨gb270, 5, none⟩) (Kd.R_far (p := ⟨gb270, 4, none⟩) (Kd.R_far (p := ⟨gb270, 3, none⟩) (Kd.R_far (p := ⟨gb270, 2, none⟩) (Kd.R_far (p := ⟨gb270, 1, none⟩) (Kd.R_far (p := ⟨gb270, 0, none⟩) (Kd.R_types HO267.out BK270.out (by decide)) (fun _ hk => hk.2) (.int .i64 t258)) (fun _ hk => hk.2) (.int .i64 t259)) (fun _ hk => hk.2) (.int .i64 t260)) (fun _ hk => hk.2) (.int .i64 t261)) (fun _ hk => hk.2) (.int .i64 t262)) (fun _ hk => hk.2) (.int .u64 t263)) (fun _ hk => hk.2) (.int .i64 t264)) (fun _ hk => hk.2) (.slice Ao31 t265.length co31)) (fun _ h_ => h_.1)))); (case side2 => exact (Kd.R_reads' HO267.out).2.1); rintro e w32 ⟨rfl, hb⟩; refine ⟨_, rfl, ?_⟩; replace HO230 := Aside0.mk (Kd.R_below (by (with_reducible repeat (first | apply Kd.R_alloc | apply Kd.R_drewN | apply Kd.R_drew)); exact (Kd.R_mono (Kd.R_far (p := ⟨gb270, 7, none⟩) (Kd.R_far (p := ⟨gb270, 6, none⟩) (Kd.R_far (p := ⟨gb270, 5, none⟩) (Kd.R_far (p := ⟨gb270, 4, none⟩) (Kd.R_far (p := ⟨gb270, 3, none⟩) (Kd.R_far (p := ⟨gb270, 2, none⟩) (Kd.R_far (p := ⟨gb270, 1, none⟩) (Kd.R_far (p := ⟨gb270, 0, none⟩) (Kd.R_types HO230.out BK270.out (by decide)) (fun _ hk => hk.2) (.int .i64 t258)) (fun _ hk => hk.2) (.int .i64 t259)) (fun _ hk => hk.2) (.int .i64 t260)) (fun _ hk => hk.2) (.int .i64 t261)) (fun _ hk => hk.2) (.int .i64 t262)) (fun _ hk => hk.2) (.int .u64 t263)) (fun _ hk => hk.2) (.int .i64 t264)) (fun _ hk => hk.2) (.slice Ao31 t265.length co31)) (fun _ h_ => h_.1))) hb); replace HO240 := Aside0.mk (Kd.R_below (by (with_reducible repeat (first | apply Kd.R_alloc | apply Kd.R_drewN | apply Kd.R_drew)); exact (Kd.R_mono (Kd.R_far (p := ⟨gb270, 7, none⟩) (Kd.R_far (p := ⟨gb270, 6, none⟩) (Kd.R_far (p := ⟨gb270, 5, none⟩) (Kd.R_far (p := ⟨gb270, 4, none⟩) (Kd.R_far (p := ⟨gb270, 3, none⟩) (Kd.R_far (p := ⟨gb270, 2, none⟩) (Kd.R_far (p := ⟨gb270, 1, none⟩) (Kd.R_far (p := ⟨gb270, 0, none⟩) (Kd.R_types HO240.out BK270.out (by decide)) (fun _ hk => hk.2) (.int .i64 t258)) (fun _ hk => hk.2) (.int .i64 t259)) (fun _ hk => hk.2) (.int .i64 t260)) (fun _ hk => hk.2) (.int .i64 t261)) (fun _ hk => hk.2) (.int .i64 t262)) (fun _ hk => hk.2) (.int .u64 t263)) (fun _ hk => hk.2) (.int .i64 t264)) (fun _ hk => hk.2) (.slice Ao31 t265.length co31)) (fun _ h_ => h_.1))) hb); replace HO250 := Aside0.mk (Kd.R_below (by (with_reducible repeat (first | apply Kd.R_alloc | apply Kd.R_drewN | apply Kd.R_drew)); exact (Kd.R_mono (Kd.R_far (p := ⟨gb270, 7, none⟩) (Kd.R_far (p := ⟨gb270, 6, none⟩) (Kd.R_far (p := ⟨gb270, 5, none⟩) (Kd.R_far (p := ⟨gb270, 4, none⟩) (Kd.R_far (p := ⟨gb270, 3, none⟩) (Kd.R_far (p := ⟨gb270, 2, none⟩) (Kd.R_far (p := ⟨gb270, 1, none⟩) (Kd.R_far (p := ⟨gb270, 0, none⟩) (Kd.R_types HO250.out BK270.out (by decide)) (fun _ hk => hk.2) (.int .i64 t258)) (fun _ hk => hk.2) (.int .i64 t259)) (fun _ hk => hk.2) (.int .i64 t260)) (fun _ hk => hk.2) (.int .i64 t261)) (fun _ hk => hk.2) (.int .i64 t262)) (fun _ hk => hk.2) (.int .u64 t263)) (fun _ hk => hk.2) (.int .i64 t264)) (fun _ hk => hk.2) (.slice Ao31 t265.length co31)) (fun _ h_ => h_.1))) hb); replace HO253 := Aside0.mk (Kd.R_below (by (with_reducible repeat (first | apply Kd.R_alloc | apply Kd.R_drewN | apply Kd.R_drew)); exact (Kd.R_mono (Kd.R_far (p := ⟨gb270, 7, none⟩) (Kd.R_far (p := ⟨gb270, 6, none⟩) (Kd.R_far (p := ⟨gb270, 5, none⟩) (Kd.R_far (p := ⟨gb270, 4, none⟩) (Kd.R_far (p := ⟨gb270, 3, none⟩) (Kd.R_far (p := ⟨gb270, 2, none⟩) (Kd.R_far (p := ⟨gb270, 1, none⟩) (Kd.R_far (p := ⟨gb270, 0, none⟩) (Kd.R_types HO253.out BK270.out (by decide)) (fun _ hk => hk.2) (.int .i64 t258)) (fun _ hk => hk.2) (.int .i64 t259)) (fun _ hk => hk.2) (.int .i64 t260)) (fun _ hk => hk.2) (.int .i64 t261)) (fun _ hk => hk.2) (.int .i64 t262)) (fun _ hk => hk.2) (.int .u64 t263)) (fun _ hk => hk.2) (.int .i64 t264)) (fun _ hk => hk.2) (.slice Ao31 t265.length co31)) (fun _ h_ => h_.1))) hb); replace HO267 := Aside0.mk (Kd.R_below (by (with_reducible repeat (first | apply Kd.R_alloc | apply Kd.R_drewN | apply Kd.R_drew)); exact (Kd.R_mono (Kd.R_far (p := ⟨gb270, 7, none⟩) (Kd.R_far (p := ⟨gb270, 6, none⟩) (Kd.R_far (p := ⟨gb270, 5, none⟩) (Kd.R_far (p := ⟨gb270, 4, none⟩) (Kd.R_far (p := ⟨gb270, 3, none⟩) (Kd.R_far (p := ⟨gb270, 2, none⟩) (Kd.R_far (p := ⟨gb270, 1, none⟩) (Kd.R_far (p := ⟨gb270, 0, none⟩) (Kd.R_types HO267.out BK270.out (by decide)) (fun _ hk => hk.2) (.int .i64 t258)) (fun _ hk => hk.2) (.int .i64 t259)) (fun _ hk => hk.2) (.int .i64 t260)) (fun _ hk => hk.2) (.int .i64 t261)) (fun _ hk => hk.2) (.int .i64 t262)) (fun _ hk => hk.2) (.int .u64 t263)) (fun _ hk => hk.2) (.int .i64 t264)) (fun _ hk => hk.2) (.slice Ao31 t265.length co31)) (fun _ h_ => h_.1))) hb); replace BK255 := bf_ BK255 hb; replace BK270 := Aside0.mk (blk_below (g := gb270) (o := .cells #[.int .i64 t258, .int .i64 t259, .int .i64 t260, .int .i64 t261, .int .i64 t262, .int .u64 t263, .int .i64 t264, .slice Ao31 t265.length co31] 29 (0, 0)) (blk_put (cs := #[.int .i64 t258, .int .i64 t259, .int .i64 t260, .int .i64 t261, .int .i64 t262, .int .u64 t263, .int .i64 t264, .slice none 0 0]) (blk_put (cs := #[.int .i64 t258, .int .i64 t259, .int .i64 t260, .int .i64 t261, .int .i64 t262, .int .u64 t263, .int .i64 0, .slice none 0 0]) (blk_put (cs := #[.int .i64 t258, .int .i64 t259, .int .i64 t260, .int .i64 t261, .int .i64 t262, .int .u64 0, .int .i64 0, .slice none 0 0]) (blk_put (cs := #[.int .i64 t258, .int .i64 t259, .int .i64 t260, .int .i64 t261, .int .i64 0, .int .u64 0, .int .i64 0, .slice none 0 0]) (blk_put (cs := #[.int .i64 t258, .int .i64 t259, .int .i64 t260, .int .i64 0, .int .i64 0, .int .u64 0, .int .i64 0, .slice none 0 0]) (blk_put (cs := #[.int .i64 t258, .int .i64 t259, .int .i64 0, .int .i64 0, .int .i64 0, .int .u64 0, .int .i64 0, .slice none 0 0]) (blk_put (cs := #[.int .i64 t258, .int .i64 0, .int .i64 0, .int .i64 0, .int .i64 0, .int .u64 0, .int .i64 0, .slice none 0 0]) (blk_put (cs := #[.int .i64 0, .int .i64 0, .int .i64 0, .int .i64 0, .int .i64 0, .int .u64 0, .int .i64 0, .slice none 0 0]) (bq_ BK270) 0 _ rfl) 1 _ rfl) 2 _ rfl) 3 _ rfl) 4 _ rfl) 5 _ rfl) 6 _ rfl) 7 _ rfl) hb); replace HB := bs_ w hb; clear hb) | ((with_reducible refine gate_dst (N := 46) rfl ?_); (try refine ug_ (by rfl) ?_); refine Kd.R_lit (Kd.int .i64) _ 2 ?hg (N := 46) ?hd (xs := ([4, 4, 3, (-1), 3] : List Int)) (inner := [.int .i64 4, .int .i64 4, .int .i64 3, .int .i64 (-1), .int .i64 3]) (ok := fun _ => True) (okp := fun _ => True) ?hr ?hp (fun _ hk => hk) trivial (Below.refl _ _) (Nat.le_refl _) (by simp) ?_; (case hd => rfl); (case hg => rfl); (case hr => first | (go_simp; done) | (go_simp; rfl)); (case hp => exact (Reps.one (show Kd.M (Kd.int .i64) _ _ _ 4 [.int .i64 4] from rfl) (Reps.one (show Kd.M (Kd.int .i64) _ _ _ 4 [.int .i64 4] from rfl) (Reps.one (show Kd.M (Kd.int .i64) _ _ _ 3 [.int .i64 3] from rfl) (Reps.one (show Kd.M (Kd.int .i64) _ _ _ (-1) [.int .i64 (-1)] from rfl) (Reps.one (show Kd.M (Kd.int .i64) _ _ _ 3 [.int .i64 3] from rfl) (Reps.none _ _))))))); intro v274 w33 ho34 hb hg_ hnew_; clear hg_ hnew_; (first | rw [← Ny273.out] at ho34 | (simp only [Int.reduceToNat] at ho34; rw [← Ny273.out] at ho34)); have HO275 := Aside0.mk (Kd.R_lower (Kd.R_new' (Kd.R_new' (Kd.R_new' (Kd.R_new' ho34 (Kd.R_lt (rs_ HO240))) (Kd.R_lt (rs_ HO250))) (Kd.R_lt (rs_ HO253))) (Kd.R_lt (rs_ HO267))) (below_size bh_)); replace HO230 := rb_ HO230 hb; replace HO240 := Aside0.mk (Kd.R_elder' (rs_ HO240) (Kd.R_base ho34) hb); replace HO250 := Aside0.mk (Kd.R_elder' (rs_ HO250) (Kd.R_base ho34) hb); replace HO253 := Aside0.mk (Kd.R_elder' (rs_ HO253) (Kd.R_base ho34) hb); replace HO267 := Aside0.mk (Kd.R_elder' (rs_ HO267) (Kd.R_base ho34) hb); replace BK255 := bb_ BK255 hb; replace BK270 := bb_ BK270 hb; replace HB := bs_ w hb; clear hb ho34; obtain ⟨Ao35, co35, eo35⟩ := Kd.R_slice HO253.out; subst eo35; obtain ⟨Ao36, co36, eo36⟩ := Kd.R_slice HO275.out; subst eo36) | (go_at_call 21; (with_reducible refine (spigotref42_SameLongs.calls k _ _ t251 _ _ y273 true _ ?side1 ?side2 ?side3 ?side4 A7.out).mono ?_); (case side1 => exact cr_ HO253); (case side2 => exact (Kd.R_reads' HO253.out).2.1); (case side3 => exact cr_ HO275); (case side4 => exact (Kd.R_reads' HO275.out).2.1); rintro e w' ⟨rfl, ⟨nd, rfl⟩⟩; replace hc255 := ce8_ BK255; replace hc270 := ce8_ BK270))
  go_ret
  exact fi_
 ·replace c8 := Bool.eq_false_iff.mpr c8
  subst c8
  replace H : (none) = some r := by rw [if_neg (show ¬ (false = true) by decide)] at H; exact H
  exact absurd H (by simp)

/-! ### spigotref42_Great: function 11 -/
def spigotref42_Great.f (a0_0 : Int) (a0_1 : Int) (a0_2 : Int) (a0_3 : Int) (a0_4 : Int) (a0_5 : Int) (a0_6 : Int) (l0_7 : List Int) (l1 : List (S31)) : Option (Bool) := if (l0_7.length : Int) > 30 then (some true) else (if (l1.length : Int) > 30 then (if (l1.length : Int) ≤ 100 then (some true) else (some (decide ((l1.length : Int) > 150)))) else (some (decide ((l1.length : Int) > 150))))
set_option maxHeartbeats 8000000 in
set_option maxRecDepth 100000 in
theorem spigotref42_Great.calls (a0_0 : Int) (a0_1 : Int) (a0_2 : Int) (a0_3 : Int) (a0_4 : Int) (a0_5 : Int) (a0_6 : Int) (A0_7 : Option Addr) (c0_7 : Nat) (l0_7 : List Int) (A1 : Option Addr) (c1 : Nat) (l1 : List (S31)) (r : Bool) (w : World) (hr0_7 : Kd.C (Kd.int .i64) w A0_7 l0_7.length l0_7) (hc0_7 : l0_7.length ≤ c0_7) (hr1 : Kd.C k31 w A1 l1.length l1) (hc1 : l1.length ≤ c1) (h : spigotref42_Great.f a0_0 a0_1 a0_2 a0_3 a0_4 a0_5 a0_6 l0_7 l1 = some r) :
  Calls Try.prog 11 #[.agg #[.int .i64 a0_0, .int .i64 a0_1, .int .i64 a0_2, .int .i64 a0_3, .int .i64 a0_4, .int .u64 a0_5, .int .i64 a0_6, .slice A0_7 l0_7.length c0_7], .slice A1 l1.length c1] w fun e w' => e = .returned (.bool r) ∧ Below w.heap.size w w' := by
 have hu29 := Try.underlying29
 have HR0_7 := Aside0.mk hr0_7
 have HC0_7 := Aside0.mk hc0_7
 clear hr0_7 hc0_7
 have HR1 := Aside0.mk hr1
 have HC1 := Aside0.mk hc1
 clear hr1 hc1
 have HB := Aside0.mk (Below.refl w.heap.size w)
 have H : (if (l0_7.length : Int) > 30 then (some true) else (if (l1.length : Int) > 30 then (if (l1.length : Int) ≤ 100 then (some true) else (some (decide ((l1.length : Int) > 150)))) else (some (decide ((l1.length : Int) > 150))))) = some r := h
 clear h
 by_cases c3 : (l0_7.length : Int) > 30
 ·rw [if_pos c3] at H
  have c3b0 : decide (30 < (l0_7.length : Int)) = true := decide_eq_true c3
  have c3b1 : decide (30 < l0_7.length) = true := decide_eq_true (by omega)
  clear c3
  obtain rfl := Option.some.inj H
  go_enter Try.func11, Try.ntmps11
  go_wp2_with (first | ((with_reducible refine gate_dst (N := 2) rfl ?_); (try refine ug_ (by rfl) ?_); refine bx_ #[.int .i64 a0_0, .int .i64 a0_1, .int .i64 a0_2, .int .i64 a0_3, .int .i64 a0_4, .int .u64 a0_5, .int .i64 a0_6, .slice A0_7 l0_7.length c0_7] 29 ?_; intro gb277 hg w4 BK277 hb; have GW277 := bz_ w hg; have GE277 := GW277; replace HB := bs_ w hb; clear hb hg; replace hc277 := ce8_ BK277))
  go_ret
  exact fi_
 ·rw [if_neg c3] at H
  have c3b0 : decide (30 < (l0_7.length : Int)) = false := decide_eq_false c3
  have c3b1 : decide (30 < l0_7.length) = false := decide_eq_false (by omega)
  clear c3
  by_cases c6 : (l1.length : Int) > 30
  ·rw [if_pos c6] at H
   have c6b0 : decide (30 < (l1.length : Int)) = true := decide_eq_true c6
   have c6b1 : decide (30 < l1.length) = true := decide_eq_true (by omega)
   clear c6
   by_cases c7 : (l1.length : Int) ≤ 100
   ·rw [if_pos c7] at H
    have c7b0 : decide ((l1.length : Int) ≤ 100) = true := decide_eq_true c7
    have c7b1 : decide (l1.length ≤ 100) = true := decide_eq_true (by omega)
    clear c7
    obtain rfl := Option.some.inj H
    go_enter Try.func11, Try.ntmps11
    go_wp2_with (first | ((with_reducible refine gate_dst (N := 2) rfl ?_); (try refine ug_ (by rfl) ?_); refine bx_ #[.int .i64 a0_0, .int .i64 a0_1, .int .i64 a0_2, .int .i64 a0_3, .int .i64 a0_4, .int .u64 a0_5, .int .i64 a0_6, .slice A0_7 l0_7.length c0_7] 29 ?_; intro gb277 hg w8 BK277 hb; have GW277 := bz_ w hg; have GE277 := GW277; replace HB := bs_ w hb; clear hb hg; replace hc277 := ce8_ BK277))
    go_ret
    exact fi_
   ·rw [if_neg c7] at H
    have c7b0 : decide ((l1.length : Int) ≤ 100) = false := decide_eq_false c7
    have c7b1 : decide (l1.length ≤ 100) = false := decide_eq_false (by omega)
    clear c7
    obtain rfl := Option.some.inj H
    go_enter Try.func11, Try.ntmps11
    go_wp2_with (first | ((with_reducible refine gate_dst (N := 2) rfl ?_); (try refine ug_ (by rfl) ?_); refine bx_ #[.int .i64 a0_0, .int .i64 a0_1, .int .i64 a0_2, .int .i64 a0_3, .int .i64 a0_4, .int .u64 a0_5, .int .i64 a0_6, .slice A0_7 l0_7.length c0_7] 29 ?_; intro gb277 hg w10 BK277 hb; have GW277 := bz_ w hg; have GE277 := GW277; replace HB := bs_ w hb; clear hb hg; replace hc277 := ce8_ BK277))
    go_ret
    exact fi_
  ·rw [if_neg c6] at H
   have c6b0 : decide (30 < (l1.length : Int)) = false := decide_eq_false c6
   have c6b1 : decide (30 < l1.length) = false := decide_eq_false (by omega)
   clear c6
   obtain rfl := Option.some.inj H
   go_enter Try.func11, Try.ntmps11
   go_wp2_with (first | ((with_reducible refine gate_dst (N := 2) rfl ?_); (try refine ug_ (by rfl) ?_); refine bx_ #[.int .i64 a0_0, .int .i64 a0_1, .int .i64 a0_2, .int .i64 a0_3, .int .i64 a0_4, .int .u64 a0_5, .int .i64 a0_6, .slice A0_7 l0_7.length c0_7] 29 ?_; intro gb277 hg w12 BK277 hb; have GW277 := bz_ w hg; have GE277 := GW277; replace HB := bs_ w hb; clear hb hg; replace hc277 := ce8_ BK277))
   go_ret
   exact fi_

end Go.Proofs.Ytbfdpodlnijeoaa.X
