-- written by xprint.py, a program of this session over the kit's print
import Derived.Test.YtcdmjdghmbdikaaX0
import Derived.Test.YtcdmjdghmbdikaaX1
import Derived.Test.YtcdmjdghmbdikaaX3
import Derived.Test.YtcdmjdghmbdikaaX11
namespace Go.Proofs.Ytcdmjdghmbdikaa.X
open Go.RowKit Go.Proofs.YtcdmjdghmbdikaaW.PrintWords Go.Proofs.YtcdmjdghmbdikaaW.PrintLast Go.Proofs.YtcdmjdghmbdikaaW.PrintMore
attribute [local go_sem] max2_int min2_int max_two min_two max_three min_three max_four min_four   -- for this text's walks alone
set_option linter.unusedVariables false
set_option linter.unusedSimpArgs false

attribute [local go_sem high] eqA25
/-! ### spigotlaw21_TallyAdds: function 8 -/
def spigotlaw21_TallyAdds.f (k : Nat) (a0_0 : Int) (a0_1 : Int) (a0_2 : Int) (a1_0 : Int) (a1_1 : Int) (a1_2 : Int) (a2_0 : Int) (a2_1 : Int) (a2_2 : Int) : Option (Bool) := (spigotlaw21_alive.f k).bind fun t269 => ((tally_Sum.f k (([(⟨a0_0, a0_1, a0_2⟩ : S25), (⟨a1_0, a1_1, a1_2⟩ : S25), (⟨a2_0, a2_1, a2_2⟩ : S25)] : List (S25)))).bind fun bt273 => ((tally_Add.f a0_0 a0_1 a0_2 a1_0 a1_1 a1_2).bind fun bt278 => ((tally_Add.f bt278.1 bt278.2.1 bt278.2.2 a2_0 a2_1 a2_2).bind fun bt281 => ((tally_Add.f a1_0 a1_1 a1_2 a2_0 a2_1 a2_2).bind fun bt284 => ((tally_Add.f a0_0 a0_1 a0_2 bt284.1 bt284.2.1 bt284.2.2).bind fun bt287 => (if t269 = true then (if bt273.2.2.2 = 0 then ((tally_Add.f a0_0 a0_1 a0_2 a1_0 a1_1 a1_2).bind fun bt292 => ((tally_Add.f a1_0 a1_1 a1_2 a0_0 a0_1 a0_2).bind fun bt295 => (if (bt292.1 == bt295.1 && (bt292.2.1 == bt295.2.1 && (bt292.2.2 == bt295.2.2))) = true then (if (bt281.1 == bt287.1 && (bt281.2.1 == bt287.2.1 && (bt281.2.2 == bt287.2.2))) = true then (if (bt273.1 == bt281.1 && (bt273.2.1 == bt281.2.1 && (bt273.2.2.1 == bt281.2.2))) = true then ((tally_Add.f a0_0 a0_1 a0_2 0 0 0).bind fun bt298 => (some (bt298.1 == a0_0 && (bt298.2.1 == a0_1 && (bt298.2.2 == a0_2))))) else (none)) else (none)) else (none)))) else (none)) else (none)))))))
theorem spigotlaw21_TallyAdds.mono : ∀ a0 a1 a2 a3 a4 a5 a6 a7 a8 k, LeO (spigotlaw21_TallyAdds.f k a0 a1 a2 a3 a4 a5 a6 a7 a8) (spigotlaw21_TallyAdds.f (k + 1) a0 a1 a2 a3 a4 a5 a6 a7 a8) := by
  intro a0 a1 a2 a3 a4 a5 a6 a7 a8 k
  unfold spigotlaw21_TallyAdds.f
  repeat' first
      | (with_reducible exact spigotlaw21_alive.mono _)
      | (with_reducible exact tally_Sum.mono _ _)
      | (with_reducible exact LeO.refl _)
      | (with_reducible exact LeO.none _)
      | (with_reducible refine LeO.ite ?_ ?_)
      | (with_reducible refine LeO.bind ?_ (fun _ => ?_))
      | exact spigotlaw21_alive.mono _
      | exact tally_Sum.mono _ _
      | exact LeO.none _
      | refine LeO.ite ?_ ?_
      | refine LeO.bind ?_ (fun _ => ?_)
def spigotlaw21_TallyAdds.T3 : Bool × List (List Nat × List Nat) := (true, [([], []), ([], []), ([0, 1], [0, 1]), ([], []), ([2, 3, 2], [2, 3]), ([], []), ([], []), ([], []), ([6, 7, 4], [6, 7]), ([5, 8, 8], [5, 8]), ([], []), ([], []), ([10, 4, 9, 0, 1, 2, 3, 4, 10, 11], [4, 10]), ([11, 9, 12, 0, 1, 2, 3, 4, 5, 6, 7, 8, 9, 10, 11, 12], [9, 11])])
def spigotlaw21_TallyAdds.B3 : List Nat := [0, 0, 3, 0, 15, 0, 0, 0, 223, 511, 0, 0, 4095, 8191]
theorem spigotlaw21_TallyAdds.tab3 : rtab .any (opsOf Try.f8 3) = spigotlaw21_TallyAdds.T3 := by kernel_rfl
theorem spigotlaw21_TallyAdds.bits3 : waitsOk spigotlaw21_TallyAdds.T3.2 spigotlaw21_TallyAdds.B3 = true := by kernel_rfl
def spigotlaw21_TallyAdds.T4 : Bool × List (List Nat × List Nat) := (true, [([], []), ([0], [0]), ([1], [1]), ([2, 1], [1, 2]), ([1, 3], [1, 3]), ([4, 1], [4]), ([5], [5]), ([5], [5]), ([6, 7, 5, 5], [5, 6, 7]), ([5], [5]), ([5], [5]), ([9, 10, 8, 5], [5, 9, 10]), ([8, 11, 5], [5, 8, 11]), ([5, 12], [5, 12]), ([13, 11], [13]), ([14], [14]), ([14], [14]), ([15, 16, 14], [14, 15, 16]), ([14, 17], [14, 17]), ([18, 14], [18]), ([19], [19]), ([19], [19]), ([20, 21, 19], [19, 20, 21]), ([19, 22], [19, 22]), ([23, 19], [23]), ([24], [24]), ([24], [24]), ([25, 26, 24, 24], [24, 25, 26]), ([24], [24]), ([27, 28, 24], [24, 27, 28]), ([24, 29], [24, 29]), ([30, 27, 0, 1, 2, 3, 4, 5, 6, 7, 8, 9, 10, 11, 12, 13, 14, 15, 16, 17, 18, 19, 20, 21, 22, 23, 24, 25, 26, 27, 28, 29, 30], [30])])
def spigotlaw21_TallyAdds.B4 : List Nat := [0, 1, 3, 7, 15, 31, 63, 63, 255, 63, 63, 2047, 4095, 8191, 16383, 32767, 32767, 131071, 262143, 524287, 1048575, 1048575, 4194303, 8388607, 16777215, 33554431, 33554431, 134217727, 33554431, 536870911, 1073741823, 2147483647]
theorem spigotlaw21_TallyAdds.tab4 : rtab .any (opsOf Try.f8 4) = spigotlaw21_TallyAdds.T4 := by kernel_rfl
theorem spigotlaw21_TallyAdds.bits4 : waitsOk spigotlaw21_TallyAdds.T4.2 spigotlaw21_TallyAdds.B4 = true := by kernel_rfl
set_option maxHeartbeats 8000000 in
set_option maxRecDepth 100000 in
theorem spigotlaw21_TallyAdds.calls (k : Nat) (a0_0 : Int) (a0_1 : Int) (a0_2 : Int) (a1_0 : Int) (a1_1 : Int) (a1_2 : Int) (a2_0 : Int) (a2_1 : Int) (a2_2 : Int) (r : Bool) (w : World) (h : spigotlaw21_TallyAdds.f k a0_0 a0_1 a0_2 a1_0 a1_1 a1_2 a2_0 a2_1 a2_2 = some r) :
  Calls Try.prog 8 #[.agg #[.int .u64 a0_0, .int .u64 a0_1, .int .u64 a0_2], .agg #[.int .u64 a1_0, .int .u64 a1_1, .int .u64 a1_2], .agg #[.int .u64 a2_0, .int .u64 a2_1, .int .u64 a2_2]] w fun e w' => e = .returned (.bool r) ∧ Below w.heap.size w w' := by
 have hu25 := Try.underlying25
 have HB := Aside0.mk (Below.refl w.heap.size w)
 have H : ((spigotlaw21_alive.f k).bind fun t269 => ((tally_Sum.f k (([(⟨a0_0, a0_1, a0_2⟩ : S25), (⟨a1_0, a1_1, a1_2⟩ : S25), (⟨a2_0, a2_1, a2_2⟩ : S25)] : List (S25)))).bind fun bt273 => ((tally_Add.f a0_0 a0_1 a0_2 a1_0 a1_1 a1_2).bind fun bt278 => ((tally_Add.f bt278.1 bt278.2.1 bt278.2.2 a2_0 a2_1 a2_2).bind fun bt281 => ((tally_Add.f a1_0 a1_1 a1_2 a2_0 a2_1 a2_2).bind fun bt284 => ((tally_Add.f a0_0 a0_1 a0_2 bt284.1 bt284.2.1 bt284.2.2).bind fun bt287 => (if t269 = true then (if bt273.2.2.2 = 0 then ((tally_Add.f a0_0 a0_1 a0_2 a1_0 a1_1 a1_2).bind fun bt292 => ((tally_Add.f a1_0 a1_1 a1_2 a0_0 a0_1 a0_2).bind fun bt295 => (if (bt292.1 == bt295.1 && (bt292.2.1 == bt295.2.1 && (bt292.2.2 == bt295.2.2))) = true then (if (bt281.1 == bt287.1 && (bt281.2.1 == bt287.2.1 && (bt281.2.2 == bt287.2.2))) = true then (if (bt273.1 == bt281.1 && (bt273.2.1 == bt281.2.1 && (bt273.2.2.1 == bt281.2.2))) = true then ((tally_Add.f a0_0 a0_1 a0_2 0 0 0).bind fun bt298 => (some (bt298.1 == a0_0 && (bt298.2.1 == a0_1 && (bt298.2.2 == a0_2))))) else (none)) else (none)) else (none)))) else (none)) else (none)))))))) = some r := h
 clear h
 replace H := Option.bind_eq_some_iff.mp H
 obtain ⟨t269, A40, H⟩ := H
 try dsimp only at H
 have A4 := Aside0.mk A40
 clear A40
 obtain ⟨y270, hy270⟩ : ∃ y_ : List (S25), y_ = (([(⟨a0_0, a0_1, a0_2⟩ : S25), (⟨a1_0, a1_1, a1_2⟩ : S25), (⟨a2_0, a2_1, a2_2⟩ : S25)] : List (S25))) := ⟨_, rfl⟩
 replace H : ((tally_Sum.f k y270).bind fun bt273 => ((tally_Add.f a0_0 a0_1 a0_2 a1_0 a1_1 a1_2).bind fun bt278 => ((tally_Add.f bt278.1 bt278.2.1 bt278.2.2 a2_0 a2_1 a2_2).bind fun bt281 => ((tally_Add.f a1_0 a1_1 a1_2 a2_0 a2_1 a2_2).bind fun bt284 => ((tally_Add.f a0_0 a0_1 a0_2 bt284.1 bt284.2.1 bt284.2.2).bind fun bt287 => (if t269 = true then (if bt273.2.2.2 = 0 then ((tally_Add.f a0_0 a0_1 a0_2 a1_0 a1_1 a1_2).bind fun bt292 => ((tally_Add.f a1_0 a1_1 a1_2 a0_0 a0_1 a0_2).bind fun bt295 => (if (bt292.1 == bt295.1 && (bt292.2.1 == bt295.2.1 && (bt292.2.2 == bt295.2.2))) = true then (if (bt281.1 == bt287.1 && (bt281.2.1 == bt287.2.1 && (bt281.2.2 == bt287.2.2))) = true then (if (bt273.1 == bt281.1 && (bt273.2.1 == bt281.2.1 && (bt273.2.2.1 == bt281.2.2))) = true then ((tally_Add.f a0_0 a0_1 a0_2 0 0 0).bind fun bt298 => (some (bt298.1 == a0_0 && (bt298.2.1 == a0_1 && (bt298.2.2 == a0_2))))) else (none)) else (none)) else (none)))) else (none)) else (none))))))) = some r := by first | (rw [hy270]; with_reducible exact H) | (have H2_ := (Option.bind_some _ _).symm.trans H; rw [hy270]; with_reducible exact H2_) | (have H2_ := (Option.bind_some _ _).symm.trans H; with_reducible exact H2_) | with_reducible exact H | (rw [hy270]; exact H) | exact H
 have Ny270 := Aside0.mk hy270
 clear hy270
 replace H := Option.bind_eq_some_iff.mp H
 obtain ⟨⟨t273, t274, t275, t276⟩, A50, H⟩ := H
 try dsimp only at H
 have A5 := Aside0.mk A50
 clear A50
 replace H := Option.bind_eq_some_iff.mp H
 obtain ⟨⟨t278, t279, t280⟩, A60, H⟩ := H
 try dsimp only at H
 have A6 := Aside0.mk A60
 clear A60
 replace H := Option.bind_eq_some_iff.mp H
 obtain ⟨⟨t281, t282, t283⟩, A70, H⟩ := H
 try dsimp only at H
 have A7 := Aside0.mk A70
 clear A70
 replace H := Option.bind_eq_some_iff.mp H
 obtain ⟨⟨t284, t285, t286⟩, A80, H⟩ := H
 try dsimp only at H
 have A8 := Aside0.mk A80
 clear A80
 replace H := Option.bind_eq_some_iff.mp H
 obtain ⟨⟨t287, t288, t289⟩, A90, H⟩ := H
 try dsimp only at H
 have A9 := Aside0.mk A90
 clear A90
 by_cases c10 : t269 = true
 ·subst c10
  have H1 : (if t276 = 0 then ((tally_Add.f a0_0 a0_1 a0_2 a1_0 a1_1 a1_2).bind fun bt292 => ((tally_Add.f a1_0 a1_1 a1_2 a0_0 a0_1 a0_2).bind fun bt295 => (if (bt292.1 == bt295.1 && (bt292.2.1 == bt295.2.1 && (bt292.2.2 == bt295.2.2))) = true then (if (t281 == t287 && (t282 == t288 && (t283 == t289))) = true then (if (t273 == t281 && (t274 == t282 && (t275 == t283))) = true then ((tally_Add.f a0_0 a0_1 a0_2 0 0 0).bind fun bt298 => (some (bt298.1 == a0_0 && (bt298.2.1 == a0_1 && (bt298.2.2 == a0_2))))) else (none)) else (none)) else (none)))) else (none)) = some r := by rw [if_pos rfl] at H; exact H
  clear H
  have H := H1
  clear H1
  by_cases c11 : t276 = 0
  rotate_left
  ·rw [if_neg c11] at H; exact absurd H (by simp)
  rw [if_pos c11] at H
  have c11b0 : (t276 == 0) = true := beq_iff_eq.mpr c11
  have c11b1 : (t276 != 0) = false := bne_eq_false_iff_eq.mpr c11
  clear c11
  replace H := Option.bind_eq_some_iff.mp H
  obtain ⟨⟨t292, t293, t294⟩, A120, H⟩ := H
  try dsimp only at H
  have A12 := Aside0.mk A120
  clear A120
  replace H := Option.bind_eq_some_iff.mp H
  obtain ⟨⟨t295, t296, t297⟩, A130, H⟩ := H
  try dsimp only at H
  have A13 := Aside0.mk A130
  clear A130
  by_cases c14 : (t292 == t295 && (t293 == t296 && (t294 == t297))) = true
  rotate_left
  ·rw [if_neg c14] at H; exact absurd H (by simp)
  rw [if_pos c14] at H
  have c14b0 : (t292 == t295 && (t293 == t296 && (t294 == t297))) = true := c14
  (try (have c14b1 : decide (t292 = t295 && (t293 == t296 && (t294 == t297))) = true := by simpa using c14))
  (try (have c14b2 : (t292 == t295 && (t293 == t296 && (t294 == t297))) = true := by simpa using c14))
  clear c14
  by_cases c15 : (t281 == t287 && (t282 == t288 && (t283 == t289))) = true
  rotate_left
  ·rw [if_neg c15] at H; exact absurd H (by simp)
  rw [if_pos c15] at H
  have c15b0 : (t281 == t287 && (t282 == t288 && (t283 == t289))) = true := c15
  (try (have c15b1 : decide (t281 = t287 && (t282 == t288 && (t283 == t289))) = true := by simpa using c15))
  (try (have c15b2 : (t281 == t287 && (t282 == t288 && (t283 == t289))) = true := by simpa using c15))
  clear c15
  by_cases c16 : (t273 == t281 && (t274 == t282 && (t275 == t283))) = true
  rotate_left
  ·rw [if_neg c16] at H; exact absurd H (by simp)
  rw [if_pos c16] at H
  have c16b0 : (t273 == t281 && (t274 == t282 && (t275 == t283))) = true := c16
  (try (have c16b1 : decide (t273 = t281 && (t274 == t282 && (t275 == t283))) = true := by simpa using c16))
  (try (have c16b2 : (t273 == t281 && (t274 == t282 && (t275 == t283))) = true := by simpa using c16))
  clear c16
  replace H := Option.bind_eq_some_iff.mp H
  obtain ⟨⟨t298, t299, t300⟩, A170, H⟩ := H
  replace H : (some (t298 == a0_0 && (t299 == a0_1 && (t300 == a0_2)))) = some r := H
  have A17 := Aside0.mk A170
  clear A170
  obtain rfl := Option.some.inj H
  go_enter Try.func8, Try.ntmps8
  try go_wp2_with (first | ((with_reducible refine gate_dst (N := 3) rfl ?_); refine box_event ?hg (N := 3) ?hd (cs := #[.int .u64 a0_0, .int .u64 a0_1, .int .u64 a0_2]) (t := 25) ?hr ?_; (case hd => rfl); (case hg => rfl); (case hr => first | (go_simp; done) | (go_simp; rfl)); intro gb266 hg w18 hbox hb; have BK266 := Aside0.mk (hbox); have GW266 := Aside0.mk ((by rw [hg]; exact (below_size (hq_ HB)) : w.heap.size ≤ gb266)); have GE266 := GW266; replace HB := Aside0.mk (below_step (hq_ HB) hb); clear hb hbox hg) | ((with_reducible refine gate_dst (N := 4) rfl ?_); refine box_event ?hg (N := 4) ?hd (cs := #[.int .u64 a1_0, .int .u64 a1_1, .int .u64 a1_2]) (t := 25) ?hr ?_; (case hd => rfl); (case hg => rfl); (case hr => first | (go_simp; done) | (go_simp; rfl)); intro gb267 hg w19 hbox hb; have BK267 := Aside0.mk (hbox); have GW267 := Aside0.mk ((by rw [hg]; exact (below_size (by repeat (first | (with_reducible first | exact HB.out | apply below_alloc | apply pw_below_drewN | apply below_drew1 | refine below_set ?_ (Aside0.out (by assumption))) | exact HB.out))) : w.heap.size ≤ gb267)); have GE267 := GW267; have NB266_267 := bn_ BK266 hg; have NB267_266 := bm_ BK266 hg; replace BK266 := bb_ BK266 hb; replace HB := Aside0.mk (below_step (by repeat (first | (with_reducible first | exact HB.out | apply below_alloc | apply pw_below_drewN | apply below_drew1 | refine below_set ?_ (Aside0.out (by assumption))) | exact HB.out)) hb); clear hb hbox hg) | ((with_reducible refine gate_dst (N := 5) rfl ?_); refine box_event ?hg (N := 5) ?hd (cs := #[.int .u64 a2_0, .int .u64 a2_1, .int .u64 a2_2]) (t := 25) ?hr ?_; (case hd => rfl); (case hg => rfl); (case hr => first | (go_simp; done) | (go_simp; rfl)); intro gb268 hg w20 hbox hb; have BK268 := Aside0.mk (hbox); have GW268 := Aside0.mk ((by rw [hg]; exact (below_size (by repeat (first | (with_reducible first | exact HB.out | apply below_alloc | apply pw_below_drewN | apply below_drew1 | refine below_set ?_ (Aside0.out (by assumption))) | exact HB.out))) : w.heap.size ≤ gb268)); have GE268 := GW268; have NB266_268 := bn_ BK266 hg; have NB268_266 := bm_ BK266 hg; have NB267_268 := bn_ BK267 hg; have NB268_267 := bm_ BK267 hg; replace BK266 := bb_ BK266 hb; replace BK267 := bb_ BK267 hb; replace HB := Aside0.mk (below_step (by repeat (first | (with_reducible first | exact HB.out | apply below_alloc | apply pw_below_drewN | apply below_drew1 | refine below_set ?_ (Aside0.out (by assumption))) | exact HB.out)) hb); clear hb hbox hg) | ((with_reducible refine gate_callee (f := 17) rfl ?_); refine goesL_ (some 12) rfl rfl Try.func17 (by kernel_rfl) rfl #[] rfl (by (try simp only [List.map_toArray, List.map_cons, List.map_nil]); first | done | rfl | (simp only [List.length_drop, List.length_take]; rfl)) ?_; (with_reducible refine (spigotlaw21_alive.calls k  true _ A4.out).mono ?_); rintro e w21 ⟨rfl, hb⟩; refine ⟨_, rfl, ?_⟩; replace BK266 := bb_ BK266 hb; replace BK267 := bb_ BK267 hb; replace BK268 := bb_ BK268 hb; replace HB := Aside0.mk (below_step (by repeat (first | (with_reducible first | exact HB.out | apply below_alloc | apply pw_below_drewN | apply below_drew1 | refine below_set ?_ (Aside0.out (by assumption))) | exact HB.out)) hb); (try clear hb); (try clear hb2); (try clear hk); (try clear hi); have hnb22 := NB266_267.out; have hnc22 := NB267_266.out; have hnb23 := NB266_268.out; have hnc23 := NB268_266.out; have hcz24_0 : w21.cell? ⟨gb266, 0, none⟩ = some (.int .u64 a0_0) := (blk_cell BK266.out 0).trans rfl; have hcz24_1 : w21.cell? ⟨gb266, 1, none⟩ = some (.int .u64 a0_1) := (blk_cell BK266.out 1).trans rfl; have hcz24_2 : w21.cell? ⟨gb266, 2, none⟩ = some (.int .u64 a0_2) := (blk_cell BK266.out 2).trans rfl; have hfz24_0 := blk_frozen BK266.out 0; have hfz24_1 := blk_frozen BK266.out 1; have hfz24_2 := blk_frozen BK266.out 2; have hnb25 := NB267_268.out; have hnc25 := NB268_267.out; have hcz26_0 : w21.cell? ⟨gb267, 0, none⟩ = some (.int .u64 a1_0) := (blk_cell BK267.out 0).trans rfl; have hcz26_1 : w21.cell? ⟨gb267, 1, none⟩ = some (.int .u64 a1_1) := (blk_cell BK267.out 1).trans rfl; have hcz26_2 : w21.cell? ⟨gb267, 2, none⟩ = some (.int .u64 a1_2) := (blk_cell BK267.out 2).trans rfl; have hfz26_0 := blk_frozen BK267.out 0; have hfz26_1 := blk_frozen BK267.out 1; have hfz26_2 := blk_frozen BK267.out 2; have hcz27_0 : w21.cell? ⟨gb268, 0, none⟩ = some (.int .u64 a2_0) := (blk_cell BK268.out 0).trans rfl; have hcz27_1 : w21.cell? ⟨gb268, 1, none⟩ = some (.int .u64 a2_1) := (blk_cell BK268.out 1).trans rfl; have hcz27_2 : w21.cell? ⟨gb268, 2, none⟩ = some (.int .u64 a2_2) := (blk_cell BK268.out 2).trans rfl; have hfz27_0 := blk_frozen BK268.out 0; have hfz27_1 := blk_frozen BK268.out 1; have hfz27_2 := blk_frozen BK268.out 2) | ((with_reducible refine gate_dst (N := 17) rfl ?_); refine Kd.R_lit k25 _ 25 ?hg (N := 17) ?hd (xs := ([(⟨a0_0, a0_1, a0_2⟩ : S25), (⟨a1_0, a1_1, a1_2⟩ : S25), (⟨a2_0, a2_1, a2_2⟩ : S25)] : List (S25))) (inner := [.int .u64 a0_0, .int .u64 a0_1, .int .u64 a0_2, .int .u64 a1_0, .int .u64 a1_1, .int .u64 a1_2, .int .u64 a2_0, .int .u64 a2_1, .int .u64 a2_2]) (ok := fun _ => True) (okp := fun _ => True) ?hr ?hp (fun _ hk => hk) trivial (Below.refl _ _) (Nat.le_refl _) (by simp) ?_; (case hd => rfl); (case hg => rfl); (case hr => first | (go_simp; done) | (go_simp; rfl)); (case hp => exact (Reps.c3 (show Kd.M k25 _ _ _ (⟨a0_0, a0_1, a0_2⟩ : S25) [.int .u64 a0_0, .int .u64 a0_1, .int .u64 a0_2] from (k25_mkM _ _ _ (⟨a0_0, a0_1, a0_2⟩ : S25) )) (Reps.c3 (show Kd.M k25 _ _ _ (⟨a1_0, a1_1, a1_2⟩ : S25) [.int .u64 a1_0, .int .u64 a1_1, .int .u64 a1_2] from (k25_mkM _ _ _ (⟨a1_0, a1_1, a1_2⟩ : S25) )) (Reps.c3 (show Kd.M k25 _ _ _ (⟨a2_0, a2_1, a2_2⟩ : S25) [.int .u64 a2_0, .int .u64 a2_1, .int .u64 a2_2] from (k25_mkM _ _ _ (⟨a2_0, a2_1, a2_2⟩ : S25) )) (Reps.none _ _))))); intro v271 w28 ho29 hb hg_ hnew_; clear hg_ hnew_; (first | rw [← Ny270.out] at ho29 | (simp only [Int.reduceToNat] at ho29; rw [← Ny270.out] at ho29)); have HO272 := Aside0.mk (Kd.R_lower (Kd.R_newB (Kd.R_newB (Kd.R_newB ho29 (g := gb266) (o := .cells #[.int .u64 a0_0, .int .u64 a0_1, .int .u64 a0_2] 25 (0, 0)) (bq_ BK266)) (g := gb267) (o := .cells #[.int .u64 a1_0, .int .u64 a1_1, .int .u64 a1_2] 25 (0, 0)) (bq_ BK267)) (g := gb268) (o := .cells #[.int .u64 a2_0, .int .u64 a2_1, .int .u64 a2_2] 25 (0, 0)) (bq_ BK268)) (below_size (by repeat (first | (with_reducible first | exact HB.out | apply below_alloc | apply pw_below_drewN | apply below_drew1 | refine below_set ?_ (Aside0.out (by assumption))) | exact HB.out)))); replace BK266 := bb_ BK266 hb; replace BK267 := bb_ BK267 hb; replace BK268 := bb_ BK268 hb; replace HB := Aside0.mk (below_step (by repeat (first | (with_reducible first | exact HB.out | apply below_alloc | apply pw_below_drewN | apply below_drew1 | refine below_set ?_ (Aside0.out (by assumption))) | exact HB.out)) hb); clear hb ho29; obtain ⟨Ao30, co30, eo30⟩ := Kd.R_slice HO272.out; subst eo30) | ((with_reducible refine gate_callee (f := 15) rfl ?_); refine goesL_ (some 18) rfl rfl Try.func15 (by kernel_rfl) rfl #[.slice Ao30 y270.length co30] rfl (by (try simp only [List.map_toArray, List.map_cons, List.map_nil]); first | done | rfl | (simp only [List.length_drop, List.length_take]; rfl)) ?_; (with_reducible refine (tally_Sum.calls k _ _ y270 t273 t274 t275 t276 _ ?side1 ?side2 A5.out).mono ?_); (case side1 => repeat (first | exact (Kd.R_reads' HO272.out).2.2 | (with_reducible refine Kd.C_alloc ?_ _) | (with_reducible refine Kd.C_drewN ?_ _) | (with_reducible refine Kd.C_drew ?_))); (case side2 => exact (Kd.R_reads' HO272.out).2.1); rintro e w31 ⟨rfl, hb⟩; refine ⟨_, rfl, ?_⟩; replace HO272 := Aside0.mk (Kd.R_below (by (with_reducible repeat (first | apply Kd.R_alloc | apply Kd.R_drewN | apply Kd.R_drew)); exact HO272.out) hb); replace BK266 := bb_ BK266 hb; replace BK267 := bb_ BK267 hb; replace BK268 := bb_ BK268 hb; replace HB := Aside0.mk (below_step (by repeat (first | (with_reducible first | exact HB.out | apply below_alloc | apply pw_below_drewN | apply below_drew1 | refine below_set ?_ (Aside0.out (by assumption))) | exact HB.out)) hb); (try clear hb); (try clear hb2); (try clear hk); (try clear hi)) | ((with_reducible refine gate_dst (N := 8) rfl ?_); refine box_event ?hg (N := 8) ?hd (cs := #[.int .u64 0, .int .u64 0, .int .u64 0]) (t := 25) ?hr ?_; (case hd => rfl); (case hg => rfl); (case hr => first | (go_simp; done) | (go_simp; rfl)); intro gb277 hg w32 hbox hb; have BK277 := Aside0.mk (hbox); have GW277 := Aside0.mk ((by rw [hg]; exact (below_size (by repeat (first | (with_reducible first | exact HB.out | apply below_alloc | apply pw_below_drewN | apply below_drew1 | refine below_set ?_ (Aside0.out (by assumption))) | exact HB.out))) : w.heap.size ≤ gb277)); have GE277 := GW277; have NB266_277 := bn_ BK266 hg; have NB277_266 := bm_ BK266 hg; have NB267_277 := bn_ BK267 hg; have NB277_267 := bm_ BK267 hg; have NB268_277 := bn_ BK268 hg; have NB277_268 := bm_ BK268 hg; replace HO272 := Aside0.mk (Kd.R_below (Kd.R_elderB (by (with_reducible repeat (first | apply Kd.R_alloc | apply Kd.R_drewN | apply Kd.R_drew)); exact HO272.out) gb277 (Nat.le_of_eq hg.symm)) hb); replace BK266 := bb_ BK266 hb; replace BK267 := bb_ BK267 hb; replace BK268 := bb_ BK268 hb; replace HB := Aside0.mk (below_step (by repeat (first | (with_reducible first | exact HB.out | apply below_alloc | apply pw_below_drewN | apply below_drew1 | refine below_set ?_ (Aside0.out (by assumption))) | exact HB.out)) hb); clear hb hbox hg; have hnb33 := NB277_266.out; have hnc33 := NB266_277.out; have hnb34 := NB277_267.out; have hnc34 := NB267_277.out; have hnb35 := NB277_268.out; have hnc35 := NB268_277.out; have hcz36_0 : w32.cell? ⟨gb277, 0, none⟩ = some (.int .u64 0) := (blk_cell BK277.out 0).trans rfl; have hcz36_1 : w32.cell? ⟨gb277, 1, none⟩ = some (.int .u64 0) := (blk_cell BK277.out 1).trans rfl; have hcz36_2 : w32.cell? ⟨gb277, 2, none⟩ = some (.int .u64 0) := (blk_cell BK277.out 2).trans rfl; have hfz36_0 := blk_frozen BK277.out 0; have hfz36_1 := blk_frozen BK277.out 1; have hfz36_2 := blk_frozen BK277.out 2))
  have n0_ : Aside0 (Kd.R k25 25 (((w32.setCell ⟨gb277, 0, none⟩ (.int .u64 t273)).setCell ⟨gb277, 1, none⟩ (.int .u64 t274)).setCell ⟨gb277, 2, none⟩ (.int .u64 t275)) w.heap.size (fun k_ => k_ ≠ gb266 ∧ k_ ≠ gb267 ∧ k_ ≠ gb268 ∧ k_ ≠ gb277) (.slice Ao30 y270.length co30) y270) := ⟨by (with_reducible repeat (first | apply Kd.R_alloc | apply Kd.R_drewN | apply Kd.R_drew)); exact Kd.R_mono (Kd.R_far (p := ⟨gb277, 2, none⟩) (Kd.R_far (p := ⟨gb277, 1, none⟩) (Kd.R_far (p := ⟨gb277, 0, none⟩) (Kd.R_mono HO272.out (fun k_ hk => (⟨hk, hk.2⟩ : _ ∧ k_ ≠ gb277))) (fun _ hk => hk.2) (.int .u64 t273)) (fun _ hk => hk.2) (.int .u64 t274)) (fun _ hk => hk.2) (.int .u64 t275)) (fun _ hk => ⟨hk.1.1.1.1.2, ⟨hk.1.1.1.2, ⟨hk.1.1.2, hk.1.2⟩⟩⟩)⟩
  have n1_ : Aside0 ((((w32.setCell ⟨gb277, 0, none⟩ (.int .u64 t273)).setCell ⟨gb277, 1, none⟩ (.int .u64 t274)).setCell ⟨gb277, 2, none⟩ (.int .u64 t275)).heap[gb266]? = some (.cells #[.int .u64 a0_0, .int .u64 a0_1, .int .u64 a0_2] 25 (0, 0))) := ⟨by (with_reducible repeat (first | refine blk_drewN ?_ _ | refine blk_drew ?_ | refine blk_alloc ?_ _)); refine blk_far ?_ NB266_277.out _; (with_reducible repeat (first | refine blk_drewN ?_ _ | refine blk_drew ?_ | refine blk_alloc ?_ _)); refine blk_far ?_ NB266_277.out _; (with_reducible repeat (first | refine blk_drewN ?_ _ | refine blk_drew ?_ | refine blk_alloc ?_ _)); refine blk_far ?_ NB266_277.out _; (with_reducible repeat (first | refine blk_drewN ?_ _ | refine blk_drew ?_ | refine blk_alloc ?_ _)); exact BK266.out⟩
  have n2_ : Aside0 ((((w32.setCell ⟨gb277, 0, none⟩ (.int .u64 t273)).setCell ⟨gb277, 1, none⟩ (.int .u64 t274)).setCell ⟨gb277, 2, none⟩ (.int .u64 t275)).heap[gb267]? = some (.cells #[.int .u64 a1_0, .int .u64 a1_1, .int .u64 a1_2] 25 (0, 0))) := ⟨by (with_reducible repeat (first | refine blk_drewN ?_ _ | refine blk_drew ?_ | refine blk_alloc ?_ _)); refine blk_far ?_ NB267_277.out _; (with_reducible repeat (first | refine blk_drewN ?_ _ | refine blk_drew ?_ | refine blk_alloc ?_ _)); refine blk_far ?_ NB267_277.out _; (with_reducible repeat (first | refine blk_drewN ?_ _ | refine blk_drew ?_ | refine blk_alloc ?_ _)); refine blk_far ?_ NB267_277.out _; (with_reducible repeat (first | refine blk_drewN ?_ _ | refine blk_drew ?_ | refine blk_alloc ?_ _)); exact BK267.out⟩
  have n3_ : Aside0 ((((w32.setCell ⟨gb277, 0, none⟩ (.int .u64 t273)).setCell ⟨gb277, 1, none⟩ (.int .u64 t274)).setCell ⟨gb277, 2, none⟩ (.int .u64 t275)).heap[gb268]? = some (.cells #[.int .u64 a2_0, .int .u64 a2_1, .int .u64 a2_2] 25 (0, 0))) := ⟨by (with_reducible repeat (first | refine blk_drewN ?_ _ | refine blk_drew ?_ | refine blk_alloc ?_ _)); refine blk_far ?_ NB268_277.out _; (with_reducible repeat (first | refine blk_drewN ?_ _ | refine blk_drew ?_ | refine blk_alloc ?_ _)); refine blk_far ?_ NB268_277.out _; (with_reducible repeat (first | refine blk_drewN ?_ _ | refine blk_drew ?_ | refine blk_alloc ?_ _)); refine blk_far ?_ NB268_277.out _; (with_reducible repeat (first | refine blk_drewN ?_ _ | refine blk_drew ?_ | refine blk_alloc ?_ _)); exact BK268.out⟩
  have n4_ : Aside0 ((((w32.setCell ⟨gb277, 0, none⟩ (.int .u64 t273)).setCell ⟨gb277, 1, none⟩ (.int .u64 t274)).setCell ⟨gb277, 2, none⟩ (.int .u64 t275)).heap[gb277]? = some (.cells #[.int .u64 t273, .int .u64 t274, .int .u64 t275] 25 (0, 0))) := ⟨by (with_reducible repeat (first | refine blk_drewN ?_ _ | refine blk_drew ?_ | refine blk_alloc ?_ _)); refine blk_put (cs := #[.int .u64 t273, .int .u64 t274, .int .u64 0]) ?_ 2 _ rfl; (with_reducible repeat (first | refine blk_drewN ?_ _ | refine blk_drew ?_ | refine blk_alloc ?_ _)); refine blk_put (cs := #[.int .u64 t273, .int .u64 0, .int .u64 0]) ?_ 1 _ rfl; (with_reducible repeat (first | refine blk_drewN ?_ _ | refine blk_drew ?_ | refine blk_alloc ?_ _)); refine blk_put (cs := #[.int .u64 0, .int .u64 0, .int .u64 0]) ?_ 0 _ rfl; (with_reducible repeat (first | refine blk_drewN ?_ _ | refine blk_drew ?_ | refine blk_alloc ?_ _)); exact BK277.out⟩
  have n5_ : Aside0 (Below w.heap.size w (((w32.setCell ⟨gb277, 0, none⟩ (.int .u64 t273)).setCell ⟨gb277, 1, none⟩ (.int .u64 t274)).setCell ⟨gb277, 2, none⟩ (.int .u64 t275))) := ⟨by repeat (first | (with_reducible first | exact HB.out | apply below_alloc | apply pw_below_drewN | apply below_drew1 | refine below_set ?_ GE266.out | refine below_set ?_ GE267.out | refine below_set ?_ GE268.out | refine below_set ?_ GE277.out) | exact HB.out)⟩
  (try clear HO272)
  (try clear BK266)
  (try clear BK267)
  (try clear BK268)
  (try clear BK277)
  (try clear HB)
  generalize (((w32.setCell ⟨gb277, 0, none⟩ (.int .u64 t273)).setCell ⟨gb277, 1, none⟩ (.int .u64 t274)).setCell ⟨gb277, 2, none⟩ (.int .u64 t275)) = w37 at n0_ n1_ n2_ n3_ n4_ n5_ ⊢
  have HO272 := n0_
  have BK266 := n1_
  have BK267 := n2_
  have BK268 := n3_
  have BK277 := n4_
  have HB := n5_
  clear n0_ n1_ n2_ n3_ n4_ n5_
  replace HO272 := Aside0.mk (Kd.R_drew HO272.out)
  replace BK266 := Aside0.mk (blk_drew BK266.out)
  replace BK267 := Aside0.mk (blk_drew BK267.out)
  replace BK268 := Aside0.mk (blk_drew BK268.out)
  replace BK277 := Aside0.mk (blk_drew BK277.out)
  replace HB := Aside0.mk (below_drew1 HB.out)
  refine start_ (n := 14) (S := fun w' => w'.cell? ⟨gb266, 0, none⟩ = some (.int .u64 a0_0) ∧ w'.cell? ⟨gb266, 1, none⟩ = some (.int .u64 a0_1) ∧ w'.cell? ⟨gb266, 2, none⟩ = some (.int .u64 a0_2) ∧ w'.cell? ⟨gb267, 0, none⟩ = some (.int .u64 a1_0) ∧ w'.cell? ⟨gb267, 1, none⟩ = some (.int .u64 a1_1) ∧ w'.cell? ⟨gb267, 2, none⟩ = some (.int .u64 a1_2) ∧ w'.cell? ⟨gb268, 0, none⟩ = some (.int .u64 a2_0) ∧ w'.cell? ⟨gb268, 1, none⟩ = some (.int .u64 a2_1) ∧ w'.cell? ⟨gb268, 2, none⟩ = some (.int .u64 a2_2)) (ds := []) #[false, false, false, false, false, false, false, false, false, false, false, false, false, false] (by kernel_rfl) rfl rfl ⟨(blk_cell BK266.out 0).trans rfl, (blk_cell BK266.out 1).trans rfl, (blk_cell BK266.out 2).trans rfl, (blk_cell BK267.out 0).trans rfl, (blk_cell BK267.out 1).trans rfl, (blk_cell BK267.out 2).trans rfl, (blk_cell BK268.out 0).trans rfl, (blk_cell BK268.out 1).trans rfl, (blk_cell BK268.out 2).trans rfl⟩ (fun hHeld => ?_); refine with_tabW spigotlaw21_TallyAdds.tab3 spigotlaw21_TallyAdds.bits3 (fun HT_ HW_ => ?_)
  generalize w37.drew = w38 at HO272 BK266 BK267 BK268 BK277 HB hHeld ⊢
  refine take_ (i := 0) (N := some 21) (v := ?_) (a' := ?_) #[true, false, false, false, false, false, false, false, false, false, false, false, false, false] rfl rfl (take_ofW HT_.out HW_.out (by kernel_rfl)) (fun _ _ _ h => h) (Or.inl ⟨by rfl, ?_⟩) hHeld ?_ ?_
  rotate_left
  ·rintro w' ⟨s0, s1, s2, s3, s4, s5, s6, s7, s8⟩
   go_simp
   with_reducible rfl
  rotate_left
  ·simp only [Act.put, List.setIfInBounds_toArray, List.set_cons_zero, List.set_cons_succ, i64_w, i32_w]
   rfl
  refine take_ (i := 1) (N := some 22) (v := ?_) (a' := ?_) #[true, true, false, false, false, false, false, false, false, false, false, false, false, false] rfl rfl (take_ofW HT_.out HW_.out (by kernel_rfl)) (fun _ _ _ h => h) (Or.inl ⟨by rfl, ?_⟩) hHeld ?_ ?_
  rotate_left
  ·rintro w' ⟨s0, s1, s2, s3, s4, s5, s6, s7, s8⟩
   go_simp
   with_reducible rfl
  rotate_left
  ·simp only [Act.put, List.setIfInBounds_toArray, List.set_cons_zero, List.set_cons_succ, i64_w, i32_w]
   rfl
  refine take_ (i := 3) (N := some 24) (v := ?_) (a' := ?_) #[true, true, false, true, false, false, false, false, false, false, false, false, false, false] rfl rfl (take_ofW HT_.out HW_.out (by kernel_rfl)) (fun _ _ _ h => h) (Or.inl ⟨by rfl, ?_⟩) hHeld ?_ ?_
  rotate_left
  ·rintro w' ⟨s0, s1, s2, s3, s4, s5, s6, s7, s8⟩
   go_simp
   with_reducible rfl
  rotate_left
  ·simp only [Act.put, List.setIfInBounds_toArray, List.set_cons_zero, List.set_cons_succ, i64_w, i32_w]
   rfl
  refine take_ (i := 5) (N := some 26) (v := ?_) (a' := ?_) #[true, true, false, true, false, true, false, false, false, false, false, false, false, false] rfl rfl (take_ofW HT_.out HW_.out (by kernel_rfl)) (fun _ _ _ h => h) (Or.inl ⟨by rfl, ?_⟩) hHeld ?_ ?_
  rotate_left
  ·rintro w' ⟨s0, s1, s2, s3, s4, s5, s6, s7, s8⟩
   go_simp
   with_reducible rfl
  rotate_left
  ·simp only [Act.put, List.setIfInBounds_toArray, List.set_cons_zero, List.set_cons_succ, i64_w, i32_w]
   rfl
  refine take_ (i := 6) (N := some 27) (v := ?_) (a' := ?_) #[true, true, false, true, false, true, true, false, false, false, false, false, false, false] rfl rfl (take_ofW HT_.out HW_.out (by kernel_rfl)) (fun _ _ _ h => h) (Or.inl ⟨by rfl, ?_⟩) hHeld ?_ ?_
  rotate_left
  ·rintro w' ⟨s0, s1, s2, s3, s4, s5, s6, s7, s8⟩
   go_simp
   with_reducible rfl
  rotate_left
  ·simp only [Act.put, List.setIfInBounds_toArray, List.set_cons_zero, List.set_cons_succ, i64_w, i32_w]
   rfl
  refine take_ (i := 7) (N := some 28) (v := ?_) (a' := ?_) #[true, true, false, true, false, true, true, true, false, false, false, false, false, false] rfl rfl (take_ofW HT_.out HW_.out (by kernel_rfl)) (fun _ _ _ h => h) (Or.inl ⟨by rfl, ?_⟩) hHeld ?_ ?_
  rotate_left
  ·rintro w' ⟨s0, s1, s2, s3, s4, s5, s6, s7, s8⟩
   go_simp
   with_reducible rfl
  rotate_left
  ·simp only [Act.put, List.setIfInBounds_toArray, List.set_cons_zero, List.set_cons_succ, i64_w, i32_w]
   rfl
  refine join_ (σ := Nat × Nat) 2 #[true, true, true, true, true, true, true, true, true, true, true, true, false, false] (fun s_ => [(23, .agg #[.int .u64 t278, .int .u64 t279, .int .u64 t280]), (25, .agg #[.int .u64 t281, .int .u64 t282, .int .u64 t283]), (29, .agg #[.int .u64 t284, .int .u64 t285, .int .u64 t286]), (30, .agg #[.int .u64 t287, .int .u64 t288, .int .u64 t289]), (10, .pointer (some ⟨s_.1, 0, none⟩)), (11, .pointer (some ⟨s_.2, 0, none⟩))]) (fun s_ w' => (w'.cell? ⟨gb266, 0, none⟩ = some (.int .u64 a0_0) ∧ w'.cell? ⟨gb266, 1, none⟩ = some (.int .u64 a0_1) ∧ w'.cell? ⟨gb266, 2, none⟩ = some (.int .u64 a0_2) ∧ w'.cell? ⟨gb267, 0, none⟩ = some (.int .u64 a1_0) ∧ w'.cell? ⟨gb267, 1, none⟩ = some (.int .u64 a1_1) ∧ w'.cell? ⟨gb267, 2, none⟩ = some (.int .u64 a1_2) ∧ w'.cell? ⟨gb268, 0, none⟩ = some (.int .u64 a2_0) ∧ w'.cell? ⟨gb268, 1, none⟩ = some (.int .u64 a2_1) ∧ w'.cell? ⟨gb268, 2, none⟩ = some (.int .u64 a2_2)) ∧ (Kd.R k25 25 w' w.heap.size (fun k_ => k_ ≠ gb266 ∧ k_ ≠ gb267 ∧ k_ ≠ gb268 ∧ k_ ≠ gb277 ∧ k_ ≠ s_.1 ∧ k_ ≠ s_.2) (.slice Ao30 y270.length co30) y270) ∧ (w'.heap[gb266]? = some (.cells #[.int .u64 a0_0, .int .u64 a0_1, .int .u64 a0_2] 25 (0, 0))) ∧ (w'.heap[gb267]? = some (.cells #[.int .u64 a1_0, .int .u64 a1_1, .int .u64 a1_2] 25 (0, 0))) ∧ (w'.heap[gb268]? = some (.cells #[.int .u64 a2_0, .int .u64 a2_1, .int .u64 a2_2] 25 (0, 0))) ∧ (w'.heap[gb277]? = some (.cells #[.int .u64 t273, .int .u64 t274, .int .u64 t275] 25 (0, 0))) ∧ (w'.heap[s_.1]? = some (.cells #[.int .u64 0, .int .u64 0, .int .u64 0] 25 (0, 0))) ∧ (w'.heap[s_.2]? = some (.cells #[.int .u64 0, .int .u64 0, .int .u64 0] 25 (0, 0))) ∧ (w.heap.size ≤ s_.1) ∧ (w.heap.size ≤ s_.1) ∧ (gb266 ≠ s_.1) ∧ (s_.1 ≠ gb266) ∧ (gb267 ≠ s_.1) ∧ (s_.1 ≠ gb267) ∧ (gb268 ≠ s_.1) ∧ (s_.1 ≠ gb268) ∧ (gb277 ≠ s_.1) ∧ (s_.1 ≠ gb277) ∧ (s_.2 ≠ s_.1) ∧ (s_.1 ≠ s_.2) ∧ (w.heap.size ≤ s_.2) ∧ (w.heap.size ≤ s_.2) ∧ (gb266 ≠ s_.2) ∧ (s_.2 ≠ gb266) ∧ (gb267 ≠ s_.2) ∧ (s_.2 ≠ gb267) ∧ (gb268 ≠ s_.2) ∧ (s_.2 ≠ gb268) ∧ (gb277 ≠ s_.2) ∧ (s_.2 ≠ gb277) ∧ (Below w.heap.size w w')) ?_ ?_
  rotate_left
  ·intro hJ2_4_8_9_10_11
   refine join_ (σ := Nat) 3 #[true, true, true, true, true, true, true, true, true, true, true, false, false, false] (fun s_ => [(23, .agg #[.int .u64 t278, .int .u64 t279, .int .u64 t280]), (25, .agg #[.int .u64 t281, .int .u64 t282, .int .u64 t283]), (29, .agg #[.int .u64 t284, .int .u64 t285, .int .u64 t286]), (30, .agg #[.int .u64 t287, .int .u64 t288, .int .u64 t289]), (10, .pointer (some ⟨s_, 0, none⟩))]) (fun s_ w' => (w'.cell? ⟨gb266, 0, none⟩ = some (.int .u64 a0_0) ∧ w'.cell? ⟨gb266, 1, none⟩ = some (.int .u64 a0_1) ∧ w'.cell? ⟨gb266, 2, none⟩ = some (.int .u64 a0_2) ∧ w'.cell? ⟨gb267, 0, none⟩ = some (.int .u64 a1_0) ∧ w'.cell? ⟨gb267, 1, none⟩ = some (.int .u64 a1_1) ∧ w'.cell? ⟨gb267, 2, none⟩ = some (.int .u64 a1_2) ∧ w'.cell? ⟨gb268, 0, none⟩ = some (.int .u64 a2_0) ∧ w'.cell? ⟨gb268, 1, none⟩ = some (.int .u64 a2_1) ∧ w'.cell? ⟨gb268, 2, none⟩ = some (.int .u64 a2_2)) ∧ (Kd.R k25 25 w' w.heap.size (fun k_ => k_ ≠ gb266 ∧ k_ ≠ gb267 ∧ k_ ≠ gb268 ∧ k_ ≠ gb277 ∧ k_ ≠ s_) (.slice Ao30 y270.length co30) y270) ∧ (w'.heap[gb266]? = some (.cells #[.int .u64 a0_0, .int .u64 a0_1, .int .u64 a0_2] 25 (0, 0))) ∧ (w'.heap[gb267]? = some (.cells #[.int .u64 a1_0, .int .u64 a1_1, .int .u64 a1_2] 25 (0, 0))) ∧ (w'.heap[gb268]? = some (.cells #[.int .u64 a2_0, .int .u64 a2_1, .int .u64 a2_2] 25 (0, 0))) ∧ (w'.heap[gb277]? = some (.cells #[.int .u64 t273, .int .u64 t274, .int .u64 t275] 25 (0, 0))) ∧ (w'.heap[s_]? = some (.cells #[.int .u64 0, .int .u64 0, .int .u64 0] 25 (0, 0))) ∧ (w.heap.size ≤ s_) ∧ (w.heap.size ≤ s_) ∧ (gb266 ≠ s_) ∧ (s_ ≠ gb266) ∧ (gb267 ≠ s_) ∧ (s_ ≠ gb267) ∧ (gb268 ≠ s_) ∧ (s_ ≠ gb268) ∧ (gb277 ≠ s_) ∧ (s_ ≠ gb277) ∧ (Below w.heap.size w w')) ?_ ?_
   rotate_left
   ·intro hJ2_4_8_9_10
    refine join_ (σ := Nat) 3 #[true, true, true, true, true, true, true, true, true, true, false, true, false, false] (fun s_ => [(23, .agg #[.int .u64 t278, .int .u64 t279, .int .u64 t280]), (25, .agg #[.int .u64 t281, .int .u64 t282, .int .u64 t283]), (29, .agg #[.int .u64 t284, .int .u64 t285, .int .u64 t286]), (30, .agg #[.int .u64 t287, .int .u64 t288, .int .u64 t289]), (11, .pointer (some ⟨s_, 0, none⟩))]) (fun s_ w' => (w'.cell? ⟨gb266, 0, none⟩ = some (.int .u64 a0_0) ∧ w'.cell? ⟨gb266, 1, none⟩ = some (.int .u64 a0_1) ∧ w'.cell? ⟨gb266, 2, none⟩ = some (.int .u64 a0_2) ∧ w'.cell? ⟨gb267, 0, none⟩ = some (.int .u64 a1_0) ∧ w'.cell? ⟨gb267, 1, none⟩ = some (.int .u64 a1_1) ∧ w'.cell? ⟨gb267, 2, none⟩ = some (.int .u64 a1_2) ∧ w'.cell? ⟨gb268, 0, none⟩ = some (.int .u64 a2_0) ∧ w'.cell? ⟨gb268, 1, none⟩ = some (.int .u64 a2_1) ∧ w'.cell? ⟨gb268, 2, none⟩ = some (.int .u64 a2_2)) ∧ (Kd.R k25 25 w' w.heap.size (fun k_ => k_ ≠ gb266 ∧ k_ ≠ gb267 ∧ k_ ≠ gb268 ∧ k_ ≠ gb277 ∧ k_ ≠ s_) (.slice Ao30 y270.length co30) y270) ∧ (w'.heap[gb266]? = some (.cells #[.int .u64 a0_0, .int .u64 a0_1, .int .u64 a0_2] 25 (0, 0))) ∧ (w'.heap[gb267]? = some (.cells #[.int .u64 a1_0, .int .u64 a1_1, .int .u64 a1_2] 25 (0, 0))) ∧ (w'.heap[gb268]? = some (.cells #[.int .u64 a2_0, .int .u64 a2_1, .int .u64 a2_2] 25 (0, 0))) ∧ (w'.heap[gb277]? = some (.cells #[.int .u64 t273, .int .u64 t274, .int .u64 t275] 25 (0, 0))) ∧ (w'.heap[s_]? = some (.cells #[.int .u64 0, .int .u64 0, .int .u64 0] 25 (0, 0))) ∧ (w.heap.size ≤ s_) ∧ (w.heap.size ≤ s_) ∧ (gb266 ≠ s_) ∧ (s_ ≠ gb266) ∧ (gb267 ≠ s_) ∧ (s_ ≠ gb267) ∧ (gb268 ≠ s_) ∧ (s_ ≠ gb268) ∧ (gb277 ≠ s_) ∧ (s_ ≠ gb277) ∧ (Below w.heap.size w w')) ?_ ?_
    rotate_left
    ·intro hJ2_4_8_9_11
     refine join_ (σ := Nat × Nat) 3 #[true, true, true, true, true, true, true, true, true, false, true, true, false, false] (fun s_ => [(23, .agg #[.int .u64 t278, .int .u64 t279, .int .u64 t280]), (25, .agg #[.int .u64 t281, .int .u64 t282, .int .u64 t283]), (29, .agg #[.int .u64 t284, .int .u64 t285, .int .u64 t286]), (10, .pointer (some ⟨s_.1, 0, none⟩)), (11, .pointer (some ⟨s_.2, 0, none⟩))]) (fun s_ w' => (w'.cell? ⟨gb266, 0, none⟩ = some (.int .u64 a0_0) ∧ w'.cell? ⟨gb266, 1, none⟩ = some (.int .u64 a0_1) ∧ w'.cell? ⟨gb266, 2, none⟩ = some (.int .u64 a0_2) ∧ w'.cell? ⟨gb267, 0, none⟩ = some (.int .u64 a1_0) ∧ w'.cell? ⟨gb267, 1, none⟩ = some (.int .u64 a1_1) ∧ w'.cell? ⟨gb267, 2, none⟩ = some (.int .u64 a1_2) ∧ w'.cell? ⟨gb268, 0, none⟩ = some (.int .u64 a2_0) ∧ w'.cell? ⟨gb268, 1, none⟩ = some (.int .u64 a2_1) ∧ w'.cell? ⟨gb268, 2, none⟩ = some (.int .u64 a2_2)) ∧ (Kd.R k25 25 w' w.heap.size (fun k_ => k_ ≠ gb266 ∧ k_ ≠ gb267 ∧ k_ ≠ gb268 ∧ k_ ≠ gb277 ∧ k_ ≠ s_.1 ∧ k_ ≠ s_.2) (.slice Ao30 y270.length co30) y270) ∧ (w'.heap[gb266]? = some (.cells #[.int .u64 a0_0, .int .u64 a0_1, .int .u64 a0_2] 25 (0, 0))) ∧ (w'.heap[gb267]? = some (.cells #[.int .u64 a1_0, .int .u64 a1_1, .int .u64 a1_2] 25 (0, 0))) ∧ (w'.heap[gb268]? = some (.cells #[.int .u64 a2_0, .int .u64 a2_1, .int .u64 a2_2] 25 (0, 0))) ∧ (w'.heap[gb277]? = some (.cells #[.int .u64 t273, .int .u64 t274, .int .u64 t275] 25 (0, 0))) ∧ (w'.heap[s_.1]? = some (.cells #[.int .u64 0, .int .u64 0, .int .u64 0] 25 (0, 0))) ∧ (w'.heap[s_.2]? = some (.cells #[.int .u64 0, .int .u64 0, .int .u64 0] 25 (0, 0))) ∧ (w.heap.size ≤ s_.1) ∧ (w.heap.size ≤ s_.1) ∧ (gb266 ≠ s_.1) ∧ (s_.1 ≠ gb266) ∧ (gb267 ≠ s_.1) ∧ (s_.1 ≠ gb267) ∧ (gb268 ≠ s_.1) ∧ (s_.1 ≠ gb268) ∧ (gb277 ≠ s_.1) ∧ (s_.1 ≠ gb277) ∧ (s_.2 ≠ s_.1) ∧ (s_.1 ≠ s_.2) ∧ (w.heap.size ≤ s_.2) ∧ (w.heap.size ≤ s_.2) ∧ (gb266 ≠ s_.2) ∧ (s_.2 ≠ gb266) ∧ (gb267 ≠ s_.2) ∧ (s_.2 ≠ gb267) ∧ (gb268 ≠ s_.2) ∧ (s_.2 ≠ gb268) ∧ (gb277 ≠ s_.2) ∧ (s_.2 ≠ gb277) ∧ (Below w.heap.size w w')) ?_ ?_
     rotate_left
     ·intro hJ2_4_8_10_11
      refine join_ (σ := Unit) 4 #[true, true, true, true, true, true, true, true, true, true, false, false, false, false] (fun s_ => [(23, .agg #[.int .u64 t278, .int .u64 t279, .int .u64 t280]), (25, .agg #[.int .u64 t281, .int .u64 t282, .int .u64 t283]), (29, .agg #[.int .u64 t284, .int .u64 t285, .int .u64 t286]), (30, .agg #[.int .u64 t287, .int .u64 t288, .int .u64 t289])]) (fun s_ w' => (w'.cell? ⟨gb266, 0, none⟩ = some (.int .u64 a0_0) ∧ w'.cell? ⟨gb266, 1, none⟩ = some (.int .u64 a0_1) ∧ w'.cell? ⟨gb266, 2, none⟩ = some (.int .u64 a0_2) ∧ w'.cell? ⟨gb267, 0, none⟩ = some (.int .u64 a1_0) ∧ w'.cell? ⟨gb267, 1, none⟩ = some (.int .u64 a1_1) ∧ w'.cell? ⟨gb267, 2, none⟩ = some (.int .u64 a1_2) ∧ w'.cell? ⟨gb268, 0, none⟩ = some (.int .u64 a2_0) ∧ w'.cell? ⟨gb268, 1, none⟩ = some (.int .u64 a2_1) ∧ w'.cell? ⟨gb268, 2, none⟩ = some (.int .u64 a2_2)) ∧ (Kd.R k25 25 w' w.heap.size (fun k_ => k_ ≠ gb266 ∧ k_ ≠ gb267 ∧ k_ ≠ gb268 ∧ k_ ≠ gb277) (.slice Ao30 y270.length co30) y270) ∧ (w'.heap[gb266]? = some (.cells #[.int .u64 a0_0, .int .u64 a0_1, .int .u64 a0_2] 25 (0, 0))) ∧ (w'.heap[gb267]? = some (.cells #[.int .u64 a1_0, .int .u64 a1_1, .int .u64 a1_2] 25 (0, 0))) ∧ (w'.heap[gb268]? = some (.cells #[.int .u64 a2_0, .int .u64 a2_1, .int .u64 a2_2] 25 (0, 0))) ∧ (w'.heap[gb277]? = some (.cells #[.int .u64 t273, .int .u64 t274, .int .u64 t275] 25 (0, 0))) ∧ (Below w.heap.size w w')) ?_ ?_
      rotate_left
      ·intro hJ2_4_8_9
       refine join_ (σ := Nat) 4 #[true, true, true, true, true, true, true, true, true, false, true, false, false, false] (fun s_ => [(23, .agg #[.int .u64 t278, .int .u64 t279, .int .u64 t280]), (25, .agg #[.int .u64 t281, .int .u64 t282, .int .u64 t283]), (29, .agg #[.int .u64 t284, .int .u64 t285, .int .u64 t286]), (10, .pointer (some ⟨s_, 0, none⟩))]) (fun s_ w' => (w'.cell? ⟨gb266, 0, none⟩ = some (.int .u64 a0_0) ∧ w'.cell? ⟨gb266, 1, none⟩ = some (.int .u64 a0_1) ∧ w'.cell? ⟨gb266, 2, none⟩ = some (.int .u64 a0_2) ∧ w'.cell? ⟨gb267, 0, none⟩ = some (.int .u64 a1_0) ∧ w'.cell? ⟨gb267, 1, none⟩ = some (.int .u64 a1_1) ∧ w'.cell? ⟨gb267, 2, none⟩ = some (.int .u64 a1_2) ∧ w'.cell? ⟨gb268, 0, none⟩ = some (.int .u64 a2_0) ∧ w'.cell? ⟨gb268, 1, none⟩ = some (.int .u64 a2_1) ∧ w'.cell? ⟨gb268, 2, none⟩ = some (.int .u64 a2_2)) ∧ (Kd.R k25 25 w' w.heap.size (fun k_ => k_ ≠ gb266 ∧ k_ ≠ gb267 ∧ k_ ≠ gb268 ∧ k_ ≠ gb277 ∧ k_ ≠ s_) (.slice Ao30 y270.length co30) y270) ∧ (w'.heap[gb266]? = some (.cells #[.int .u64 a0_0, .int .u64 a0_1, .int .u64 a0_2] 25 (0, 0))) ∧ (w'.heap[gb267]? = some (.cells #[.int .u64 a1_0, .int .u64 a1_1, .int .u64 a1_2] 25 (0, 0))) ∧ (w'.heap[gb268]? = some (.cells #[.int .u64 a2_0, .int .u64 a2_1, .int .u64 a2_2] 25 (0, 0))) ∧ (w'.heap[gb277]? = some (.cells #[.int .u64 t273, .int .u64 t274, .int .u64 t275] 25 (0, 0))) ∧ (w'.heap[s_]? = some (.cells #[.int .u64 0, .int .u64 0, .int .u64 0] 25 (0, 0))) ∧ (w.heap.size ≤ s_) ∧ (w.heap.size ≤ s_) ∧ (gb266 ≠ s_) ∧ (s_ ≠ gb266) ∧ (gb267 ≠ s_) ∧ (s_ ≠ gb267) ∧ (gb268 ≠ s_) ∧ (s_ ≠ gb268) ∧ (gb277 ≠ s_) ∧ (s_ ≠ gb277) ∧ (Below w.heap.size w w')) ?_ ?_
       rotate_left
       ·intro hJ2_4_8_10
        refine join_ (σ := Nat) 4 #[true, true, true, true, true, true, true, true, true, false, false, true, false, false] (fun s_ => [(23, .agg #[.int .u64 t278, .int .u64 t279, .int .u64 t280]), (25, .agg #[.int .u64 t281, .int .u64 t282, .int .u64 t283]), (29, .agg #[.int .u64 t284, .int .u64 t285, .int .u64 t286]), (11, .pointer (some ⟨s_, 0, none⟩))]) (fun s_ w' => (w'.cell? ⟨gb266, 0, none⟩ = some (.int .u64 a0_0) ∧ w'.cell? ⟨gb266, 1, none⟩ = some (.int .u64 a0_1) ∧ w'.cell? ⟨gb266, 2, none⟩ = some (.int .u64 a0_2) ∧ w'.cell? ⟨gb267, 0, none⟩ = some (.int .u64 a1_0) ∧ w'.cell? ⟨gb267, 1, none⟩ = some (.int .u64 a1_1) ∧ w'.cell? ⟨gb267, 2, none⟩ = some (.int .u64 a1_2) ∧ w'.cell? ⟨gb268, 0, none⟩ = some (.int .u64 a2_0) ∧ w'.cell? ⟨gb268, 1, none⟩ = some (.int .u64 a2_1) ∧ w'.cell? ⟨gb268, 2, none⟩ = some (.int .u64 a2_2)) ∧ (Kd.R k25 25 w' w.heap.size (fun k_ => k_ ≠ gb266 ∧ k_ ≠ gb267 ∧ k_ ≠ gb268 ∧ k_ ≠ gb277 ∧ k_ ≠ s_) (.slice Ao30 y270.length co30) y270) ∧ (w'.heap[gb266]? = some (.cells #[.int .u64 a0_0, .int .u64 a0_1, .int .u64 a0_2] 25 (0, 0))) ∧ (w'.heap[gb267]? = some (.cells #[.int .u64 a1_0, .int .u64 a1_1, .int .u64 a1_2] 25 (0, 0))) ∧ (w'.heap[gb268]? = some (.cells #[.int .u64 a2_0, .int .u64 a2_1, .int .u64 a2_2] 25 (0, 0))) ∧ (w'.heap[gb277]? = some (.cells #[.int .u64 t273, .int .u64 t274, .int .u64 t275] 25 (0, 0))) ∧ (w'.heap[s_]? = some (.cells #[.int .u64 0, .int .u64 0, .int .u64 0] 25 (0, 0))) ∧ (w.heap.size ≤ s_) ∧ (w.heap.size ≤ s_) ∧ (gb266 ≠ s_) ∧ (s_ ≠ gb266) ∧ (gb267 ≠ s_) ∧ (s_ ≠ gb267) ∧ (gb268 ≠ s_) ∧ (s_ ≠ gb268) ∧ (gb277 ≠ s_) ∧ (s_ ≠ gb277) ∧ (Below w.heap.size w w')) ?_ ?_
        rotate_left
        ·intro hJ2_4_8_11
         refine join_ (σ := Nat × Nat) 4 #[true, true, true, true, true, true, true, true, false, false, true, true, false, false] (fun s_ => [(23, .agg #[.int .u64 t278, .int .u64 t279, .int .u64 t280]), (25, .agg #[.int .u64 t281, .int .u64 t282, .int .u64 t283]), (10, .pointer (some ⟨s_.1, 0, none⟩)), (11, .pointer (some ⟨s_.2, 0, none⟩))]) (fun s_ w' => (w'.cell? ⟨gb266, 0, none⟩ = some (.int .u64 a0_0) ∧ w'.cell? ⟨gb266, 1, none⟩ = some (.int .u64 a0_1) ∧ w'.cell? ⟨gb266, 2, none⟩ = some (.int .u64 a0_2) ∧ w'.cell? ⟨gb267, 0, none⟩ = some (.int .u64 a1_0) ∧ w'.cell? ⟨gb267, 1, none⟩ = some (.int .u64 a1_1) ∧ w'.cell? ⟨gb267, 2, none⟩ = some (.int .u64 a1_2) ∧ w'.cell? ⟨gb268, 0, none⟩ = some (.int .u64 a2_0) ∧ w'.cell? ⟨gb268, 1, none⟩ = some (.int .u64 a2_1) ∧ w'.cell? ⟨gb268, 2, none⟩ = some (.int .u64 a2_2)) ∧ (Kd.R k25 25 w' w.heap.size (fun k_ => k_ ≠ gb266 ∧ k_ ≠ gb267 ∧ k_ ≠ gb268 ∧ k_ ≠ gb277 ∧ k_ ≠ s_.1 ∧ k_ ≠ s_.2) (.slice Ao30 y270.length co30) y270) ∧ (w'.heap[gb266]? = some (.cells #[.int .u64 a0_0, .int .u64 a0_1, .int .u64 a0_2] 25 (0, 0))) ∧ (w'.heap[gb267]? = some (.cells #[.int .u64 a1_0, .int .u64 a1_1, .int .u64 a1_2] 25 (0, 0))) ∧ (w'.heap[gb268]? = some (.cells #[.int .u64 a2_0, .int .u64 a2_1, .int .u64 a2_2] 25 (0, 0))) ∧ (w'.heap[gb277]? = some (.cells #[.int .u64 t273, .int .u64 t274, .int .u64 t275] 25 (0, 0))) ∧ (w'.heap[s_.1]? = some (.cells #[.int .u64 0, .int .u64 0, .int .u64 0] 25 (0, 0))) ∧ (w'.heap[s_.2]? = some (.cells #[.int .u64 0, .int .u64 0, .int .u64 0] 25 (0, 0))) ∧ (w.heap.size ≤ s_.1) ∧ (w.heap.size ≤ s_.1) ∧ (gb266 ≠ s_.1) ∧ (s_.1 ≠ gb266) ∧ (gb267 ≠ s_.1) ∧ (s_.1 ≠ gb267) ∧ (gb268 ≠ s_.1) ∧ (s_.1 ≠ gb268) ∧ (gb277 ≠ s_.1) ∧ (s_.1 ≠ gb277) ∧ (s_.2 ≠ s_.1) ∧ (s_.1 ≠ s_.2) ∧ (w.heap.size ≤ s_.2) ∧ (w.heap.size ≤ s_.2) ∧ (gb266 ≠ s_.2) ∧ (s_.2 ≠ gb266) ∧ (gb267 ≠ s_.2) ∧ (s_.2 ≠ gb267) ∧ (gb268 ≠ s_.2) ∧ (s_.2 ≠ gb268) ∧ (gb277 ≠ s_.2) ∧ (s_.2 ≠ gb277) ∧ (Below w.heap.size w w')) ?_ ?_
         rotate_left
         ·intro hJ2_4_10_11
          refine join_ (σ := Unit) 5 #[true, true, true, true, true, true, true, true, true, false, false, false, false, false] (fun s_ => [(23, .agg #[.int .u64 t278, .int .u64 t279, .int .u64 t280]), (25, .agg #[.int .u64 t281, .int .u64 t282, .int .u64 t283]), (29, .agg #[.int .u64 t284, .int .u64 t285, .int .u64 t286])]) (fun s_ w' => (w'.cell? ⟨gb266, 0, none⟩ = some (.int .u64 a0_0) ∧ w'.cell? ⟨gb266, 1, none⟩ = some (.int .u64 a0_1) ∧ w'.cell? ⟨gb266, 2, none⟩ = some (.int .u64 a0_2) ∧ w'.cell? ⟨gb267, 0, none⟩ = some (.int .u64 a1_0) ∧ w'.cell? ⟨gb267, 1, none⟩ = some (.int .u64 a1_1) ∧ w'.cell? ⟨gb267, 2, none⟩ = some (.int .u64 a1_2) ∧ w'.cell? ⟨gb268, 0, none⟩ = some (.int .u64 a2_0) ∧ w'.cell? ⟨gb268, 1, none⟩ = some (.int .u64 a2_1) ∧ w'.cell? ⟨gb268, 2, none⟩ = some (.int .u64 a2_2)) ∧ (Kd.R k25 25 w' w.heap.size (fun k_ => k_ ≠ gb266 ∧ k_ ≠ gb267 ∧ k_ ≠ gb268 ∧ k_ ≠ gb277) (.slice Ao30 y270.length co30) y270) ∧ (w'.heap[gb266]? = some (.cells #[.int .u64 a0_0, .int .u64 a0_1, .int .u64 a0_2] 25 (0, 0))) ∧ (w'.heap[gb267]? = some (.cells #[.int .u64 a1_0, .int .u64 a1_1, .int .u64 a1_2] 25 (0, 0))) ∧ (w'.heap[gb268]? = some (.cells #[.int .u64 a2_0, .int .u64 a2_1, .int .u64 a2_2] 25 (0, 0))) ∧ (w'.heap[gb277]? = some (.cells #[.int .u64 t273, .int .u64 t274, .int .u64 t275] 25 (0, 0))) ∧ (Below w.heap.size w w')) ?_ ?_
          rotate_left
          ·intro hJ2_4_8
           refine join_ (σ := Nat) 5 #[true, true, true, true, true, true, true, true, false, false, true, false, false, false] (fun s_ => [(23, .agg #[.int .u64 t278, .int .u64 t279, .int .u64 t280]), (25, .agg #[.int .u64 t281, .int .u64 t282, .int .u64 t283]), (10, .pointer (some ⟨s_, 0, none⟩))]) (fun s_ w' => (w'.cell? ⟨gb266, 0, none⟩ = some (.int .u64 a0_0) ∧ w'.cell? ⟨gb266, 1, none⟩ = some (.int .u64 a0_1) ∧ w'.cell? ⟨gb266, 2, none⟩ = some (.int .u64 a0_2) ∧ w'.cell? ⟨gb267, 0, none⟩ = some (.int .u64 a1_0) ∧ w'.cell? ⟨gb267, 1, none⟩ = some (.int .u64 a1_1) ∧ w'.cell? ⟨gb267, 2, none⟩ = some (.int .u64 a1_2) ∧ w'.cell? ⟨gb268, 0, none⟩ = some (.int .u64 a2_0) ∧ w'.cell? ⟨gb268, 1, none⟩ = some (.int .u64 a2_1) ∧ w'.cell? ⟨gb268, 2, none⟩ = some (.int .u64 a2_2)) ∧ (Kd.R k25 25 w' w.heap.size (fun k_ => k_ ≠ gb266 ∧ k_ ≠ gb267 ∧ k_ ≠ gb268 ∧ k_ ≠ gb277 ∧ k_ ≠ s_) (.slice Ao30 y270.length co30) y270) ∧ (w'.heap[gb266]? = some (.cells #[.int .u64 a0_0, .int .u64 a0_1, .int .u64 a0_2] 25 (0, 0))) ∧ (w'.heap[gb267]? = some (.cells #[.int .u64 a1_0, .int .u64 a1_1, .int .u64 a1_2] 25 (0, 0))) ∧ (w'.heap[gb268]? = some (.cells #[.int .u64 a2_0, .int .u64 a2_1, .int .u64 a2_2] 25 (0, 0))) ∧ (w'.heap[gb277]? = some (.cells #[.int .u64 t273, .int .u64 t274, .int .u64 t275] 25 (0, 0))) ∧ (w'.heap[s_]? = some (.cells #[.int .u64 0, .int .u64 0, .int .u64 0] 25 (0, 0))) ∧ (w.heap.size ≤ s_) ∧ (w.heap.size ≤ s_) ∧ (gb266 ≠ s_) ∧ (s_ ≠ gb266) ∧ (gb267 ≠ s_) ∧ (s_ ≠ gb267) ∧ (gb268 ≠ s_) ∧ (s_ ≠ gb268) ∧ (gb277 ≠ s_) ∧ (s_ ≠ gb277) ∧ (Below w.heap.size w w')) ?_ ?_
           rotate_left
           ·intro hJ2_4_10
            refine join_ (σ := Nat) 5 #[true, true, true, true, true, true, true, true, false, false, false, true, false, false] (fun s_ => [(23, .agg #[.int .u64 t278, .int .u64 t279, .int .u64 t280]), (25, .agg #[.int .u64 t281, .int .u64 t282, .int .u64 t283]), (11, .pointer (some ⟨s_, 0, none⟩))]) (fun s_ w' => (w'.cell? ⟨gb266, 0, none⟩ = some (.int .u64 a0_0) ∧ w'.cell? ⟨gb266, 1, none⟩ = some (.int .u64 a0_1) ∧ w'.cell? ⟨gb266, 2, none⟩ = some (.int .u64 a0_2) ∧ w'.cell? ⟨gb267, 0, none⟩ = some (.int .u64 a1_0) ∧ w'.cell? ⟨gb267, 1, none⟩ = some (.int .u64 a1_1) ∧ w'.cell? ⟨gb267, 2, none⟩ = some (.int .u64 a1_2) ∧ w'.cell? ⟨gb268, 0, none⟩ = some (.int .u64 a2_0) ∧ w'.cell? ⟨gb268, 1, none⟩ = some (.int .u64 a2_1) ∧ w'.cell? ⟨gb268, 2, none⟩ = some (.int .u64 a2_2)) ∧ (Kd.R k25 25 w' w.heap.size (fun k_ => k_ ≠ gb266 ∧ k_ ≠ gb267 ∧ k_ ≠ gb268 ∧ k_ ≠ gb277 ∧ k_ ≠ s_) (.slice Ao30 y270.length co30) y270) ∧ (w'.heap[gb266]? = some (.cells #[.int .u64 a0_0, .int .u64 a0_1, .int .u64 a0_2] 25 (0, 0))) ∧ (w'.heap[gb267]? = some (.cells #[.int .u64 a1_0, .int .u64 a1_1, .int .u64 a1_2] 25 (0, 0))) ∧ (w'.heap[gb268]? = some (.cells #[.int .u64 a2_0, .int .u64 a2_1, .int .u64 a2_2] 25 (0, 0))) ∧ (w'.heap[gb277]? = some (.cells #[.int .u64 t273, .int .u64 t274, .int .u64 t275] 25 (0, 0))) ∧ (w'.heap[s_]? = some (.cells #[.int .u64 0, .int .u64 0, .int .u64 0] 25 (0, 0))) ∧ (w.heap.size ≤ s_) ∧ (w.heap.size ≤ s_) ∧ (gb266 ≠ s_) ∧ (s_ ≠ gb266) ∧ (gb267 ≠ s_) ∧ (s_ ≠ gb267) ∧ (gb268 ≠ s_) ∧ (s_ ≠ gb268) ∧ (gb277 ≠ s_) ∧ (s_ ≠ gb277) ∧ (Below w.heap.size w w')) ?_ ?_
            rotate_left
            ·intro hJ2_4_11
             refine join_ (σ := Nat × Nat) 5 #[true, true, true, true, false, true, true, true, false, false, true, true, false, false] (fun s_ => [(23, .agg #[.int .u64 t278, .int .u64 t279, .int .u64 t280]), (10, .pointer (some ⟨s_.1, 0, none⟩)), (11, .pointer (some ⟨s_.2, 0, none⟩))]) (fun s_ w' => (w'.cell? ⟨gb266, 0, none⟩ = some (.int .u64 a0_0) ∧ w'.cell? ⟨gb266, 1, none⟩ = some (.int .u64 a0_1) ∧ w'.cell? ⟨gb266, 2, none⟩ = some (.int .u64 a0_2) ∧ w'.cell? ⟨gb267, 0, none⟩ = some (.int .u64 a1_0) ∧ w'.cell? ⟨gb267, 1, none⟩ = some (.int .u64 a1_1) ∧ w'.cell? ⟨gb267, 2, none⟩ = some (.int .u64 a1_2) ∧ w'.cell? ⟨gb268, 0, none⟩ = some (.int .u64 a2_0) ∧ w'.cell? ⟨gb268, 1, none⟩ = some (.int .u64 a2_1) ∧ w'.cell? ⟨gb268, 2, none⟩ = some (.int .u64 a2_2)) ∧ (Kd.R k25 25 w' w.heap.size (fun k_ => k_ ≠ gb266 ∧ k_ ≠ gb267 ∧ k_ ≠ gb268 ∧ k_ ≠ gb277 ∧ k_ ≠ s_.1 ∧ k_ ≠ s_.2) (.slice Ao30 y270.length co30) y270) ∧ (w'.heap[gb266]? = some (.cells #[.int .u64 a0_0, .int .u64 a0_1, .int .u64 a0_2] 25 (0, 0))) ∧ (w'.heap[gb267]? = some (.cells #[.int .u64 a1_0, .int .u64 a1_1, .int .u64 a1_2] 25 (0, 0))) ∧ (w'.heap[gb268]? = some (.cells #[.int .u64 a2_0, .int .u64 a2_1, .int .u64 a2_2] 25 (0, 0))) ∧ (w'.heap[gb277]? = some (.cells #[.int .u64 t273, .int .u64 t274, .int .u64 t275] 25 (0, 0))) ∧ (w'.heap[s_.1]? = some (.cells #[.int .u64 0, .int .u64 0, .int .u64 0] 25 (0, 0))) ∧ (w'.heap[s_.2]? = some (.cells #[.int .u64 0, .int .u64 0, .int .u64 0] 25 (0, 0))) ∧ (w.heap.size ≤ s_.1) ∧ (w.heap.size ≤ s_.1) ∧ (gb266 ≠ s_.1) ∧ (s_.1 ≠ gb266) ∧ (gb267 ≠ s_.1) ∧ (s_.1 ≠ gb267) ∧ (gb268 ≠ s_.1) ∧ (s_.1 ≠ gb268) ∧ (gb277 ≠ s_.1) ∧ (s_.1 ≠ gb277) ∧ (s_.2 ≠ s_.1) ∧ (s_.1 ≠ s_.2) ∧ (w.heap.size ≤ s_.2) ∧ (w.heap.size ≤ s_.2) ∧ (gb266 ≠ s_.2) ∧ (s_.2 ≠ gb266) ∧ (gb267 ≠ s_.2) ∧ (s_.2 ≠ gb267) ∧ (gb268 ≠ s_.2) ∧ (s_.2 ≠ gb268) ∧ (gb277 ≠ s_.2) ∧ (s_.2 ≠ gb277) ∧ (Below w.heap.size w w')) ?_ ?_
             rotate_left
             ·intro hJ2_10_11
              refine join_ (σ := Unit) 6 #[true, true, true, true, true, true, true, true, false, false, false, false, false, false] (fun s_ => [(23, .agg #[.int .u64 t278, .int .u64 t279, .int .u64 t280]), (25, .agg #[.int .u64 t281, .int .u64 t282, .int .u64 t283])]) (fun s_ w' => (w'.cell? ⟨gb266, 0, none⟩ = some (.int .u64 a0_0) ∧ w'.cell? ⟨gb266, 1, none⟩ = some (.int .u64 a0_1) ∧ w'.cell? ⟨gb266, 2, none⟩ = some (.int .u64 a0_2) ∧ w'.cell? ⟨gb267, 0, none⟩ = some (.int .u64 a1_0) ∧ w'.cell? ⟨gb267, 1, none⟩ = some (.int .u64 a1_1) ∧ w'.cell? ⟨gb267, 2, none⟩ = some (.int .u64 a1_2) ∧ w'.cell? ⟨gb268, 0, none⟩ = some (.int .u64 a2_0) ∧ w'.cell? ⟨gb268, 1, none⟩ = some (.int .u64 a2_1) ∧ w'.cell? ⟨gb268, 2, none⟩ = some (.int .u64 a2_2)) ∧ (Kd.R k25 25 w' w.heap.size (fun k_ => k_ ≠ gb266 ∧ k_ ≠ gb267 ∧ k_ ≠ gb268 ∧ k_ ≠ gb277) (.slice Ao30 y270.length co30) y270) ∧ (w'.heap[gb266]? = some (.cells #[.int .u64 a0_0, .int .u64 a0_1, .int .u64 a0_2] 25 (0, 0))) ∧ (w'.heap[gb267]? = some (.cells #[.int .u64 a1_0, .int .u64 a1_1, .int .u64 a1_2] 25 (0, 0))) ∧ (w'.heap[gb268]? = some (.cells #[.int .u64 a2_0, .int .u64 a2_1, .int .u64 a2_2] 25 (0, 0))) ∧ (w'.heap[gb277]? = some (.cells #[.int .u64 t273, .int .u64 t274, .int .u64 t275] 25 (0, 0))) ∧ (Below w.heap.size w w')) ?_ ?_
              rotate_left
              ·intro hJ2_4
               refine join_ (σ := Nat) 6 #[true, true, true, true, false, true, true, true, false, false, true, false, false, false] (fun s_ => [(23, .agg #[.int .u64 t278, .int .u64 t279, .int .u64 t280]), (10, .pointer (some ⟨s_, 0, none⟩))]) (fun s_ w' => (w'.cell? ⟨gb266, 0, none⟩ = some (.int .u64 a0_0) ∧ w'.cell? ⟨gb266, 1, none⟩ = some (.int .u64 a0_1) ∧ w'.cell? ⟨gb266, 2, none⟩ = some (.int .u64 a0_2) ∧ w'.cell? ⟨gb267, 0, none⟩ = some (.int .u64 a1_0) ∧ w'.cell? ⟨gb267, 1, none⟩ = some (.int .u64 a1_1) ∧ w'.cell? ⟨gb267, 2, none⟩ = some (.int .u64 a1_2) ∧ w'.cell? ⟨gb268, 0, none⟩ = some (.int .u64 a2_0) ∧ w'.cell? ⟨gb268, 1, none⟩ = some (.int .u64 a2_1) ∧ w'.cell? ⟨gb268, 2, none⟩ = some (.int .u64 a2_2)) ∧ (Kd.R k25 25 w' w.heap.size (fun k_ => k_ ≠ gb266 ∧ k_ ≠ gb267 ∧ k_ ≠ gb268 ∧ k_ ≠ gb277 ∧ k_ ≠ s_) (.slice Ao30 y270.length co30) y270) ∧ (w'.heap[gb266]? = some (.cells #[.int .u64 a0_0, .int .u64 a0_1, .int .u64 a0_2] 25 (0, 0))) ∧ (w'.heap[gb267]? = some (.cells #[.int .u64 a1_0, .int .u64 a1_1, .int .u64 a1_2] 25 (0, 0))) ∧ (w'.heap[gb268]? = some (.cells #[.int .u64 a2_0, .int .u64 a2_1, .int .u64 a2_2] 25 (0, 0))) ∧ (w'.heap[gb277]? = some (.cells #[.int .u64 t273, .int .u64 t274, .int .u64 t275] 25 (0, 0))) ∧ (w'.heap[s_]? = some (.cells #[.int .u64 0, .int .u64 0, .int .u64 0] 25 (0, 0))) ∧ (w.heap.size ≤ s_) ∧ (w.heap.size ≤ s_) ∧ (gb266 ≠ s_) ∧ (s_ ≠ gb266) ∧ (gb267 ≠ s_) ∧ (s_ ≠ gb267) ∧ (gb268 ≠ s_) ∧ (s_ ≠ gb268) ∧ (gb277 ≠ s_) ∧ (s_ ≠ gb277) ∧ (Below w.heap.size w w')) ?_ ?_
               rotate_left
               ·intro hJ2_10
                refine join_ (σ := Nat) 6 #[true, true, true, true, false, true, true, true, false, false, false, true, false, false] (fun s_ => [(23, .agg #[.int .u64 t278, .int .u64 t279, .int .u64 t280]), (11, .pointer (some ⟨s_, 0, none⟩))]) (fun s_ w' => (w'.cell? ⟨gb266, 0, none⟩ = some (.int .u64 a0_0) ∧ w'.cell? ⟨gb266, 1, none⟩ = some (.int .u64 a0_1) ∧ w'.cell? ⟨gb266, 2, none⟩ = some (.int .u64 a0_2) ∧ w'.cell? ⟨gb267, 0, none⟩ = some (.int .u64 a1_0) ∧ w'.cell? ⟨gb267, 1, none⟩ = some (.int .u64 a1_1) ∧ w'.cell? ⟨gb267, 2, none⟩ = some (.int .u64 a1_2) ∧ w'.cell? ⟨gb268, 0, none⟩ = some (.int .u64 a2_0) ∧ w'.cell? ⟨gb268, 1, none⟩ = some (.int .u64 a2_1) ∧ w'.cell? ⟨gb268, 2, none⟩ = some (.int .u64 a2_2)) ∧ (Kd.R k25 25 w' w.heap.size (fun k_ => k_ ≠ gb266 ∧ k_ ≠ gb267 ∧ k_ ≠ gb268 ∧ k_ ≠ gb277 ∧ k_ ≠ s_) (.slice Ao30 y270.length co30) y270) ∧ (w'.heap[gb266]? = some (.cells #[.int .u64 a0_0, .int .u64 a0_1, .int .u64 a0_2] 25 (0, 0))) ∧ (w'.heap[gb267]? = some (.cells #[.int .u64 a1_0, .int .u64 a1_1, .int .u64 a1_2] 25 (0, 0))) ∧ (w'.heap[gb268]? = some (.cells #[.int .u64 a2_0, .int .u64 a2_1, .int .u64 a2_2] 25 (0, 0))) ∧ (w'.heap[gb277]? = some (.cells #[.int .u64 t273, .int .u64 t274, .int .u64 t275] 25 (0, 0))) ∧ (w'.heap[s_]? = some (.cells #[.int .u64 0, .int .u64 0, .int .u64 0] 25 (0, 0))) ∧ (w.heap.size ≤ s_) ∧ (w.heap.size ≤ s_) ∧ (gb266 ≠ s_) ∧ (s_ ≠ gb266) ∧ (gb267 ≠ s_) ∧ (s_ ≠ gb267) ∧ (gb268 ≠ s_) ∧ (s_ ≠ gb268) ∧ (gb277 ≠ s_) ∧ (s_ ≠ gb277) ∧ (Below w.heap.size w w')) ?_ ?_
                rotate_left
                ·intro hJ2_11
                 refine join_ (σ := Nat × Nat) 6 #[true, true, false, true, false, true, true, true, false, false, true, true, false, false] (fun s_ => [(10, .pointer (some ⟨s_.1, 0, none⟩)), (11, .pointer (some ⟨s_.2, 0, none⟩))]) (fun s_ w' => (w'.cell? ⟨gb266, 0, none⟩ = some (.int .u64 a0_0) ∧ w'.cell? ⟨gb266, 1, none⟩ = some (.int .u64 a0_1) ∧ w'.cell? ⟨gb266, 2, none⟩ = some (.int .u64 a0_2) ∧ w'.cell? ⟨gb267, 0, none⟩ = some (.int .u64 a1_0) ∧ w'.cell? ⟨gb267, 1, none⟩ = some (.int .u64 a1_1) ∧ w'.cell? ⟨gb267, 2, none⟩ = some (.int .u64 a1_2) ∧ w'.cell? ⟨gb268, 0, none⟩ = some (.int .u64 a2_0) ∧ w'.cell? ⟨gb268, 1, none⟩ = some (.int .u64 a2_1) ∧ w'.cell? ⟨gb268, 2, none⟩ = some (.int .u64 a2_2)) ∧ (Kd.R k25 25 w' w.heap.size (fun k_ => k_ ≠ gb266 ∧ k_ ≠ gb267 ∧ k_ ≠ gb268 ∧ k_ ≠ gb277 ∧ k_ ≠ s_.1 ∧ k_ ≠ s_.2) (.slice Ao30 y270.length co30) y270) ∧ (w'.heap[gb266]? = some (.cells #[.int .u64 a0_0, .int .u64 a0_1, .int .u64 a0_2] 25 (0, 0))) ∧ (w'.heap[gb267]? = some (.cells #[.int .u64 a1_0, .int .u64 a1_1, .int .u64 a1_2] 25 (0, 0))) ∧ (w'.heap[gb268]? = some (.cells #[.int .u64 a2_0, .int .u64 a2_1, .int .u64 a2_2] 25 (0, 0))) ∧ (w'.heap[gb277]? = some (.cells #[.int .u64 t273, .int .u64 t274, .int .u64 t275] 25 (0, 0))) ∧ (w'.heap[s_.1]? = some (.cells #[.int .u64 0, .int .u64 0, .int .u64 0] 25 (0, 0))) ∧ (w'.heap[s_.2]? = some (.cells #[.int .u64 0, .int .u64 0, .int .u64 0] 25 (0, 0))) ∧ (w.heap.size ≤ s_.1) ∧ (w.heap.size ≤ s_.1) ∧ (gb266 ≠ s_.1) ∧ (s_.1 ≠ gb266) ∧ (gb267 ≠ s_.1) ∧ (s_.1 ≠ gb267) ∧ (gb268 ≠ s_.1) ∧ (s_.1 ≠ gb268) ∧ (gb277 ≠ s_.1) ∧ (s_.1 ≠ gb277) ∧ (s_.2 ≠ s_.1) ∧ (s_.1 ≠ s_.2) ∧ (w.heap.size ≤ s_.2) ∧ (w.heap.size ≤ s_.2) ∧ (gb266 ≠ s_.2) ∧ (s_.2 ≠ gb266) ∧ (gb267 ≠ s_.2) ∧ (s_.2 ≠ gb267) ∧ (gb268 ≠ s_.2) ∧ (s_.2 ≠ gb268) ∧ (gb277 ≠ s_.2) ∧ (s_.2 ≠ gb277) ∧ (Below w.heap.size w w')) ?_ ?_
                 rotate_left
                 ·intro hJ10_11
                  refine join_ (σ := Unit) 7 #[true, true, true, true, false, true, true, true, false, false, false, false, false, false] (fun s_ => [(23, .agg #[.int .u64 t278, .int .u64 t279, .int .u64 t280])]) (fun s_ w' => (w'.cell? ⟨gb266, 0, none⟩ = some (.int .u64 a0_0) ∧ w'.cell? ⟨gb266, 1, none⟩ = some (.int .u64 a0_1) ∧ w'.cell? ⟨gb266, 2, none⟩ = some (.int .u64 a0_2) ∧ w'.cell? ⟨gb267, 0, none⟩ = some (.int .u64 a1_0) ∧ w'.cell? ⟨gb267, 1, none⟩ = some (.int .u64 a1_1) ∧ w'.cell? ⟨gb267, 2, none⟩ = some (.int .u64 a1_2) ∧ w'.cell? ⟨gb268, 0, none⟩ = some (.int .u64 a2_0) ∧ w'.cell? ⟨gb268, 1, none⟩ = some (.int .u64 a2_1) ∧ w'.cell? ⟨gb268, 2, none⟩ = some (.int .u64 a2_2)) ∧ (Kd.R k25 25 w' w.heap.size (fun k_ => k_ ≠ gb266 ∧ k_ ≠ gb267 ∧ k_ ≠ gb268 ∧ k_ ≠ gb277) (.slice Ao30 y270.length co30) y270) ∧ (w'.heap[gb266]? = some (.cells #[.int .u64 a0_0, .int .u64 a0_1, .int .u64 a0_2] 25 (0, 0))) ∧ (w'.heap[gb267]? = some (.cells #[.int .u64 a1_0, .int .u64 a1_1, .int .u64 a1_2] 25 (0, 0))) ∧ (w'.heap[gb268]? = some (.cells #[.int .u64 a2_0, .int .u64 a2_1, .int .u64 a2_2] 25 (0, 0))) ∧ (w'.heap[gb277]? = some (.cells #[.int .u64 t273, .int .u64 t274, .int .u64 t275] 25 (0, 0))) ∧ (Below w.heap.size w w')) ?_ ?_
                  rotate_left
                  ·intro hJ2
                   refine join_ (σ := Nat) 7 #[true, true, false, true, false, true, true, true, false, false, true, false, false, false] (fun s_ => [(10, .pointer (some ⟨s_, 0, none⟩))]) (fun s_ w' => (w'.cell? ⟨gb266, 0, none⟩ = some (.int .u64 a0_0) ∧ w'.cell? ⟨gb266, 1, none⟩ = some (.int .u64 a0_1) ∧ w'.cell? ⟨gb266, 2, none⟩ = some (.int .u64 a0_2) ∧ w'.cell? ⟨gb267, 0, none⟩ = some (.int .u64 a1_0) ∧ w'.cell? ⟨gb267, 1, none⟩ = some (.int .u64 a1_1) ∧ w'.cell? ⟨gb267, 2, none⟩ = some (.int .u64 a1_2) ∧ w'.cell? ⟨gb268, 0, none⟩ = some (.int .u64 a2_0) ∧ w'.cell? ⟨gb268, 1, none⟩ = some (.int .u64 a2_1) ∧ w'.cell? ⟨gb268, 2, none⟩ = some (.int .u64 a2_2)) ∧ (Kd.R k25 25 w' w.heap.size (fun k_ => k_ ≠ gb266 ∧ k_ ≠ gb267 ∧ k_ ≠ gb268 ∧ k_ ≠ gb277 ∧ k_ ≠ s_) (.slice Ao30 y270.length co30) y270) ∧ (w'.heap[gb266]? = some (.cells #[.int .u64 a0_0, .int .u64 a0_1, .int .u64 a0_2] 25 (0, 0))) ∧ (w'.heap[gb267]? = some (.cells #[.int .u64 a1_0, .int .u64 a1_1, .int .u64 a1_2] 25 (0, 0))) ∧ (w'.heap[gb268]? = some (.cells #[.int .u64 a2_0, .int .u64 a2_1, .int .u64 a2_2] 25 (0, 0))) ∧ (w'.heap[gb277]? = some (.cells #[.int .u64 t273, .int .u64 t274, .int .u64 t275] 25 (0, 0))) ∧ (w'.heap[s_]? = some (.cells #[.int .u64 0, .int .u64 0, .int .u64 0] 25 (0, 0))) ∧ (w.heap.size ≤ s_) ∧ (w.heap.size ≤ s_) ∧ (gb266 ≠ s_) ∧ (s_ ≠ gb266) ∧ (gb267 ≠ s_) ∧ (s_ ≠ gb267) ∧ (gb268 ≠ s_) ∧ (s_ ≠ gb268) ∧ (gb277 ≠ s_) ∧ (s_ ≠ gb277) ∧ (Below w.heap.size w w')) ?_ ?_
                   rotate_left
                   ·intro hJ10
                    refine join_ (σ := Nat) 7 #[true, true, false, true, false, true, true, true, false, false, false, true, false, false] (fun s_ => [(11, .pointer (some ⟨s_, 0, none⟩))]) (fun s_ w' => (w'.cell? ⟨gb266, 0, none⟩ = some (.int .u64 a0_0) ∧ w'.cell? ⟨gb266, 1, none⟩ = some (.int .u64 a0_1) ∧ w'.cell? ⟨gb266, 2, none⟩ = some (.int .u64 a0_2) ∧ w'.cell? ⟨gb267, 0, none⟩ = some (.int .u64 a1_0) ∧ w'.cell? ⟨gb267, 1, none⟩ = some (.int .u64 a1_1) ∧ w'.cell? ⟨gb267, 2, none⟩ = some (.int .u64 a1_2) ∧ w'.cell? ⟨gb268, 0, none⟩ = some (.int .u64 a2_0) ∧ w'.cell? ⟨gb268, 1, none⟩ = some (.int .u64 a2_1) ∧ w'.cell? ⟨gb268, 2, none⟩ = some (.int .u64 a2_2)) ∧ (Kd.R k25 25 w' w.heap.size (fun k_ => k_ ≠ gb266 ∧ k_ ≠ gb267 ∧ k_ ≠ gb268 ∧ k_ ≠ gb277 ∧ k_ ≠ s_) (.slice Ao30 y270.length co30) y270) ∧ (w'.heap[gb266]? = some (.cells #[.int .u64 a0_0, .int .u64 a0_1, .int .u64 a0_2] 25 (0, 0))) ∧ (w'.heap[gb267]? = some (.cells #[.int .u64 a1_0, .int .u64 a1_1, .int .u64 a1_2] 25 (0, 0))) ∧ (w'.heap[gb268]? = some (.cells #[.int .u64 a2_0, .int .u64 a2_1, .int .u64 a2_2] 25 (0, 0))) ∧ (w'.heap[gb277]? = some (.cells #[.int .u64 t273, .int .u64 t274, .int .u64 t275] 25 (0, 0))) ∧ (w'.heap[s_]? = some (.cells #[.int .u64 0, .int .u64 0, .int .u64 0] 25 (0, 0))) ∧ (w.heap.size ≤ s_) ∧ (w.heap.size ≤ s_) ∧ (gb266 ≠ s_) ∧ (s_ ≠ gb266) ∧ (gb267 ≠ s_) ∧ (s_ ≠ gb267) ∧ (gb268 ≠ s_) ∧ (s_ ≠ gb268) ∧ (gb277 ≠ s_) ∧ (s_ ≠ gb277) ∧ (Below w.heap.size w w')) ?_ ?_
                    rotate_left
                    ·intro hJ11
                     refine three_ (i := 2) (j := 10) (k := 11) (Ni := some 23) (Nj := some 10) (Nk := some 11) #[true, true, true, true, false, true, true, true, false, false, false, false, false, false] #[true, true, false, true, false, true, true, true, false, false, true, false, false, false] #[true, true, false, true, false, true, true, true, false, false, false, true, false, false] rfl rfl rfl rfl rfl rfl (three_of HT_.out (by kernel_rfl)) (by decide) (by decide) (by decide) (fun K hK => ?_) (fun K hK => ?_) (fun K hK => ?_)
                     ·skip
                      refine goes_ Try.func22 (by kernel_rfl) rfl #[.agg #[.int .u64 a0_0, .int .u64 a0_1, .int .u64 a0_2], .agg #[.int .u64 a1_0, .int .u64 a1_1, .int .u64 a1_2]] (by rfl) rfl rfl (by (try simp only [List.map_toArray, List.map_cons, List.map_nil]); first | done | rfl | (simp only [List.length_drop, List.length_take]; rfl)) ?_
                      with_reducible refine (tally_Add.calls a0_0 a0_1 a0_2 a1_0 a1_1 a1_2 t278 t279 t280 _ A6.out).mono ?_
                      rintro e w39 ⟨rfl, hb⟩
                      refine ⟨_, rfl, ?_⟩
                      replace HO272 := Aside0.mk (Kd.R_below (by (with_reducible repeat (first | apply Kd.R_alloc | apply Kd.R_drewN | apply Kd.R_drew)); exact HO272.out) hb)
                      replace BK266 := bb_ BK266 hb
                      replace BK267 := bb_ BK267 hb
                      replace BK268 := bb_ BK268 hb
                      replace BK277 := bb_ BK277 hb
                      replace HB := Aside0.mk (below_step (by repeat (first | (with_reducible first | exact HB.out | apply below_alloc | apply pw_below_drewN | apply below_drew1 | refine below_set ?_ (Aside0.out (by assumption))) | exact HB.out)) hb)
                      (try clear hb)
                      (try clear hb2)
                      (try clear hk)
                      (try clear hi)
                      refine hK.out _ _ ⟨(blk_cell BK266.out 0).trans rfl, (blk_cell BK266.out 1).trans rfl, (blk_cell BK266.out 2).trans rfl, (blk_cell BK267.out 0).trans rfl, (blk_cell BK267.out 1).trans rfl, (blk_cell BK267.out 2).trans rfl, (blk_cell BK268.out 0).trans rfl, (blk_cell BK268.out 1).trans rfl, (blk_cell BK268.out 2).trans rfl⟩ (fun hHeld => ?_)
                      clear hK K
                      refine norm_ (a' := ?_) ?_ ?_
                      rotate_left
                      ·show Act.put _ (some 23) _ = _
                       simp only [Act.put, List.setIfInBounds_toArray, List.set_cons_zero, List.set_cons_succ, i64_w, i32_w]
                       rfl
                      exact norm_ (by first | (simp only [putAll, Act.put, List.setIfInBounds_toArray, List.set_cons_zero, List.set_cons_succ]; done) | (simp only [putAll, Act.put, List.setIfInBounds_toArray, List.set_cons_zero, List.set_cons_succ]; rfl)) (hJ2 () _ ⟨hHeld, (by (with_reducible repeat (first | apply Kd.R_alloc | apply Kd.R_drewN | apply Kd.R_drew)); exact HO272.out), (bq_ BK266), (bq_ BK267), (bq_ BK268), (bq_ BK277), (by repeat (first | (with_reducible first | exact HB.out | apply below_alloc | apply pw_below_drewN | apply below_drew1 | refine below_set ?_ (Aside0.out (by assumption))) | exact HB.out))⟩)
                     ·skip
                      refine box_step ?hg (N := 10) ?hd (cs := #[.int .u64 0, .int .u64 0, .int .u64 0]) (t := 25) ?hr ?_; (case hd => rfl); (case hg => rfl); (case hr => first | (go_simp; done) | (go_simp; rfl))
                      intro gb290 hg w39 hbox hb
                      have BK290 := Aside0.mk (hbox)
                      have GW290 := Aside0.mk ((by rw [hg]; exact (below_size (by repeat (first | (with_reducible first | exact HB.out | apply below_alloc | apply pw_below_drewN | apply below_drew1 | refine below_set ?_ (Aside0.out (by assumption))) | exact HB.out))) : w.heap.size ≤ gb290))
                      have GE290 := GW290
                      have NB266_290 := bn_ BK266 hg
                      have NB290_266 := bm_ BK266 hg
                      have NB267_290 := bn_ BK267 hg
                      have NB290_267 := bm_ BK267 hg
                      have NB268_290 := bn_ BK268 hg
                      have NB290_268 := bm_ BK268 hg
                      have NB277_290 := bn_ BK277 hg
                      have NB290_277 := bm_ BK277 hg
                      replace HO272 := Aside0.mk (Kd.R_below (Kd.R_elderB (by (with_reducible repeat (first | apply Kd.R_alloc | apply Kd.R_drewN | apply Kd.R_drew)); exact HO272.out) gb290 (Nat.le_of_eq hg.symm)) hb)
                      replace BK266 := bb_ BK266 hb
                      replace BK267 := bb_ BK267 hb
                      replace BK268 := bb_ BK268 hb
                      replace BK277 := bb_ BK277 hb
                      replace HB := Aside0.mk (below_step (by repeat (first | (with_reducible first | exact HB.out | apply below_alloc | apply pw_below_drewN | apply below_drew1 | refine below_set ?_ (Aside0.out (by assumption))) | exact HB.out)) hb)
                      clear hb hbox hg
                      refine hK.out _ _ ⟨(blk_cell BK266.out 0).trans rfl, (blk_cell BK266.out 1).trans rfl, (blk_cell BK266.out 2).trans rfl, (blk_cell BK267.out 0).trans rfl, (blk_cell BK267.out 1).trans rfl, (blk_cell BK267.out 2).trans rfl, (blk_cell BK268.out 0).trans rfl, (blk_cell BK268.out 1).trans rfl, (blk_cell BK268.out 2).trans rfl⟩ (fun hHeld => ?_)
                      clear hK K
                      refine norm_ (a' := ?_) ?_ ?_
                      rotate_left
                      ·show Act.put _ (some 10) _ = _
                       simp only [Act.put, List.setIfInBounds_toArray, List.set_cons_zero, List.set_cons_succ, i64_w, i32_w]
                       rfl
                      exact norm_ (by first | (simp only [putAll, Act.put, List.setIfInBounds_toArray, List.set_cons_zero, List.set_cons_succ]; done) | (simp only [putAll, Act.put, List.setIfInBounds_toArray, List.set_cons_zero, List.set_cons_succ]; rfl)) (hJ10 (gb290) _ ⟨hHeld, (by (with_reducible repeat (first | apply Kd.R_alloc | apply Kd.R_drewN | apply Kd.R_drew)); exact Kd.R_mono HO272.out (fun _ hk => ⟨hk.1.1, ⟨hk.1.2.1, ⟨hk.1.2.2.1, ⟨hk.1.2.2.2, hk.2⟩⟩⟩⟩)), (bq_ BK266), (bq_ BK267), (bq_ BK268), (bq_ BK277), (bq_ BK290), GW290.out, GE290.out, NB266_290.out, NB290_266.out, NB267_290.out, NB290_267.out, NB268_290.out, NB290_268.out, NB277_290.out, NB290_277.out, (by repeat (first | (with_reducible first | exact HB.out | apply below_alloc | apply pw_below_drewN | apply below_drew1 | refine below_set ?_ (Aside0.out (by assumption))) | exact HB.out))⟩)
                     ·skip
                      refine box_step ?hg (N := 11) ?hd (cs := #[.int .u64 0, .int .u64 0, .int .u64 0]) (t := 25) ?hr ?_; (case hd => rfl); (case hg => rfl); (case hr => first | (go_simp; done) | (go_simp; rfl))
                      intro gb291 hg w39 hbox hb
                      have BK291 := Aside0.mk (hbox)
                      have GW291 := Aside0.mk ((by rw [hg]; exact (below_size (by repeat (first | (with_reducible first | exact HB.out | apply below_alloc | apply pw_below_drewN | apply below_drew1 | refine below_set ?_ (Aside0.out (by assumption))) | exact HB.out))) : w.heap.size ≤ gb291))
                      have GE291 := GW291
                      have NB266_291 := bn_ BK266 hg
                      have NB291_266 := bm_ BK266 hg
                      have NB267_291 := bn_ BK267 hg
                      have NB291_267 := bm_ BK267 hg
                      have NB268_291 := bn_ BK268 hg
                      have NB291_268 := bm_ BK268 hg
                      have NB277_291 := bn_ BK277 hg
                      have NB291_277 := bm_ BK277 hg
                      replace HO272 := Aside0.mk (Kd.R_below (Kd.R_elderB (by (with_reducible repeat (first | apply Kd.R_alloc | apply Kd.R_drewN | apply Kd.R_drew)); exact HO272.out) gb291 (Nat.le_of_eq hg.symm)) hb)
                      replace BK266 := bb_ BK266 hb
                      replace BK267 := bb_ BK267 hb
                      replace BK268 := bb_ BK268 hb
                      replace BK277 := bb_ BK277 hb
                      replace HB := Aside0.mk (below_step (by repeat (first | (with_reducible first | exact HB.out | apply below_alloc | apply pw_below_drewN | apply below_drew1 | refine below_set ?_ (Aside0.out (by assumption))) | exact HB.out)) hb)
                      clear hb hbox hg
                      refine hK.out _ _ ⟨(blk_cell BK266.out 0).trans rfl, (blk_cell BK266.out 1).trans rfl, (blk_cell BK266.out 2).trans rfl, (blk_cell BK267.out 0).trans rfl, (blk_cell BK267.out 1).trans rfl, (blk_cell BK267.out 2).trans rfl, (blk_cell BK268.out 0).trans rfl, (blk_cell BK268.out 1).trans rfl, (blk_cell BK268.out 2).trans rfl⟩ (fun hHeld => ?_)
                      clear hK K
                      refine norm_ (a' := ?_) ?_ ?_
                      rotate_left
                      ·show Act.put _ (some 11) _ = _
                       simp only [Act.put, List.setIfInBounds_toArray, List.set_cons_zero, List.set_cons_succ, i64_w, i32_w]
                       rfl
                      exact norm_ (by first | (simp only [putAll, Act.put, List.setIfInBounds_toArray, List.set_cons_zero, List.set_cons_succ]; done) | (simp only [putAll, Act.put, List.setIfInBounds_toArray, List.set_cons_zero, List.set_cons_succ]; rfl)) (hJ11 (gb291) _ ⟨hHeld, (by (with_reducible repeat (first | apply Kd.R_alloc | apply Kd.R_drewN | apply Kd.R_drew)); exact Kd.R_mono HO272.out (fun _ hk => ⟨hk.1.1, ⟨hk.1.2.1, ⟨hk.1.2.2.1, ⟨hk.1.2.2.2, hk.2⟩⟩⟩⟩)), (bq_ BK266), (bq_ BK267), (bq_ BK268), (bq_ BK277), (bq_ BK291), GW291.out, GE291.out, NB266_291.out, NB291_266.out, NB267_291.out, NB291_267.out, NB268_291.out, NB291_268.out, NB277_291.out, NB291_277.out, (by repeat (first | (with_reducible first | exact HB.out | apply below_alloc | apply pw_below_drewN | apply below_drew1 | refine below_set ?_ (Aside0.out (by assumption))) | exact HB.out))⟩)
                    ·skip
                     rintro gb291 w40 ⟨hS_, h0_, h1_, h2_, h3_, h4_, h5_, h6_, h7_, h8_, h9_, h10_, h11_, h12_, h13_, h14_, h15_, h16_⟩
                     have BK291 : Aside0 (w40.heap[gb291]? = some (.cells #[.int .u64 0, .int .u64 0, .int .u64 0] 25 (0, 0))) := ⟨h5_⟩
                     have GW291 : Aside0 (w.heap.size ≤ gb291) := ⟨h6_⟩
                     have GE291 : Aside0 (w.heap.size ≤ gb291) := ⟨h7_⟩
                     have NB266_291 : Aside0 (gb266 ≠ gb291) := ⟨h8_⟩
                     have NB291_266 : Aside0 (gb291 ≠ gb266) := ⟨h9_⟩
                     have NB267_291 : Aside0 (gb267 ≠ gb291) := ⟨h10_⟩
                     have NB291_267 : Aside0 (gb291 ≠ gb267) := ⟨h11_⟩
                     have NB268_291 : Aside0 (gb268 ≠ gb291) := ⟨h12_⟩
                     have NB291_268 : Aside0 (gb291 ≠ gb268) := ⟨h13_⟩
                     have NB277_291 : Aside0 (gb277 ≠ gb291) := ⟨h14_⟩
                     have NB291_277 : Aside0 (gb291 ≠ gb277) := ⟨h15_⟩
                     replace HO272 : Aside0 (Kd.R k25 25 w40 w.heap.size (fun k_ => k_ ≠ gb266 ∧ k_ ≠ gb267 ∧ k_ ≠ gb268 ∧ k_ ≠ gb277 ∧ k_ ≠ gb291) (.slice Ao30 y270.length co30) y270) := ⟨h0_⟩
                     replace BK266 : Aside0 (w40.heap[gb266]? = some (.cells #[.int .u64 a0_0, .int .u64 a0_1, .int .u64 a0_2] 25 (0, 0))) := ⟨h1_⟩
                     replace BK267 : Aside0 (w40.heap[gb267]? = some (.cells #[.int .u64 a1_0, .int .u64 a1_1, .int .u64 a1_2] 25 (0, 0))) := ⟨h2_⟩
                     replace BK268 : Aside0 (w40.heap[gb268]? = some (.cells #[.int .u64 a2_0, .int .u64 a2_1, .int .u64 a2_2] 25 (0, 0))) := ⟨h3_⟩
                     replace BK277 : Aside0 (w40.heap[gb277]? = some (.cells #[.int .u64 t273, .int .u64 t274, .int .u64 t275] 25 (0, 0))) := ⟨h4_⟩
                     replace HB : Aside0 (Below w.heap.size w w40) := ⟨h16_⟩
                     clear h0_ h1_ h2_ h3_ h4_ h5_ h6_ h7_ h8_ h9_ h10_ h11_ h12_ h13_ h14_ h15_ h16_
                     have hHeld : w40.cell? ⟨gb266, 0, none⟩ = some (.int .u64 a0_0) ∧ w40.cell? ⟨gb266, 1, none⟩ = some (.int .u64 a0_1) ∧ w40.cell? ⟨gb266, 2, none⟩ = some (.int .u64 a0_2) ∧ w40.cell? ⟨gb267, 0, none⟩ = some (.int .u64 a1_0) ∧ w40.cell? ⟨gb267, 1, none⟩ = some (.int .u64 a1_1) ∧ w40.cell? ⟨gb267, 2, none⟩ = some (.int .u64 a1_2) ∧ w40.cell? ⟨gb268, 0, none⟩ = some (.int .u64 a2_0) ∧ w40.cell? ⟨gb268, 1, none⟩ = some (.int .u64 a2_1) ∧ w40.cell? ⟨gb268, 2, none⟩ = some (.int .u64 a2_2) := hS_
                     refine norm_ (a' := ?_) ?_ ?_
                     rotate_left
                     ·simp only [putAll, Act.put, List.setIfInBounds_toArray, List.set_cons_zero, List.set_cons_succ]
                      rfl
                     refine two_ (i := 2) (j := 10) (Ni := some 23) (Nj := some 10) #[true, true, true, true, false, true, true, true, false, false, false, true, false, false] #[true, true, false, true, false, true, true, true, false, false, true, true, false, false] rfl rfl rfl rfl (two_of HT_.out (by kernel_rfl)) (by decide) (by decide) (fun K hK => ?_) (fun K hK => ?_)
                     ·skip
                      refine goes_ Try.func22 (by kernel_rfl) rfl #[.agg #[.int .u64 a0_0, .int .u64 a0_1, .int .u64 a0_2], .agg #[.int .u64 a1_0, .int .u64 a1_1, .int .u64 a1_2]] (by rfl) rfl rfl (by (try simp only [List.map_toArray, List.map_cons, List.map_nil]); first | done | rfl | (simp only [List.length_drop, List.length_take]; rfl)) ?_
                      with_reducible refine (tally_Add.calls a0_0 a0_1 a0_2 a1_0 a1_1 a1_2 t278 t279 t280 _ A6.out).mono ?_
                      rintro e w41 ⟨rfl, hb⟩
                      refine ⟨_, rfl, ?_⟩
                      replace HO272 := Aside0.mk (Kd.R_below (by (with_reducible repeat (first | apply Kd.R_alloc | apply Kd.R_drewN | apply Kd.R_drew)); exact HO272.out) hb)
                      replace BK266 := bb_ BK266 hb
                      replace BK267 := bb_ BK267 hb
                      replace BK268 := bb_ BK268 hb
                      replace BK277 := bb_ BK277 hb
                      replace BK291 := bb_ BK291 hb
                      replace HB := Aside0.mk (below_step (by repeat (first | (with_reducible first | exact HB.out | apply below_alloc | apply pw_below_drewN | apply below_drew1 | refine below_set ?_ (Aside0.out (by assumption))) | exact HB.out)) hb)
                      (try clear hb)
                      (try clear hb2)
                      (try clear hk)
                      (try clear hi)
                      refine hK.out _ _ ⟨(blk_cell BK266.out 0).trans rfl, (blk_cell BK266.out 1).trans rfl, (blk_cell BK266.out 2).trans rfl, (blk_cell BK267.out 0).trans rfl, (blk_cell BK267.out 1).trans rfl, (blk_cell BK267.out 2).trans rfl, (blk_cell BK268.out 0).trans rfl, (blk_cell BK268.out 1).trans rfl, (blk_cell BK268.out 2).trans rfl⟩ (fun hHeld => ?_)
                      clear hK K
                      refine norm_ (a' := ?_) ?_ ?_
                      rotate_left
                      ·show Act.put _ (some 23) _ = _
                       simp only [Act.put, List.setIfInBounds_toArray, List.set_cons_zero, List.set_cons_succ, i64_w, i32_w]
                       rfl
                      exact norm_ (by first | (simp only [putAll, Act.put, List.setIfInBounds_toArray, List.set_cons_zero, List.set_cons_succ]; done) | (simp only [putAll, Act.put, List.setIfInBounds_toArray, List.set_cons_zero, List.set_cons_succ]; rfl)) (hJ2_11 (gb291) _ ⟨hHeld, (by (with_reducible repeat (first | apply Kd.R_alloc | apply Kd.R_drewN | apply Kd.R_drew)); exact HO272.out), (bq_ BK266), (bq_ BK267), (bq_ BK268), (bq_ BK277), (bq_ BK291), GW291.out, GE291.out, NB266_291.out, NB291_266.out, NB267_291.out, NB291_267.out, NB268_291.out, NB291_268.out, NB277_291.out, NB291_277.out, (by repeat (first | (with_reducible first | exact HB.out | apply below_alloc | apply pw_below_drewN | apply below_drew1 | refine below_set ?_ (Aside0.out (by assumption))) | exact HB.out))⟩)
                     ·skip
                      refine box_step ?hg (N := 10) ?hd (cs := #[.int .u64 0, .int .u64 0, .int .u64 0]) (t := 25) ?hr ?_; (case hd => rfl); (case hg => rfl); (case hr => first | (go_simp; done) | (go_simp; rfl))
                      intro gb290 hg w41 hbox hb
                      have BK290 := Aside0.mk (hbox)
                      have GW290 := Aside0.mk ((by rw [hg]; exact (below_size (by repeat (first | (with_reducible first | exact HB.out | apply below_alloc | apply pw_below_drewN | apply below_drew1 | refine below_set ?_ (Aside0.out (by assumption))) | exact HB.out))) : w.heap.size ≤ gb290))
                      have GE290 := GW290
                      have NB266_290 := bn_ BK266 hg
                      have NB290_266 := bm_ BK266 hg
                      have NB267_290 := bn_ BK267 hg
                      have NB290_267 := bm_ BK267 hg
                      have NB268_290 := bn_ BK268 hg
                      have NB290_268 := bm_ BK268 hg
                      have NB277_290 := bn_ BK277 hg
                      have NB290_277 := bm_ BK277 hg
                      have NB291_290 := bn_ BK291 hg
                      have NB290_291 := bm_ BK291 hg
                      replace HO272 := Aside0.mk (Kd.R_below (Kd.R_elderB (by (with_reducible repeat (first | apply Kd.R_alloc | apply Kd.R_drewN | apply Kd.R_drew)); exact HO272.out) gb290 (Nat.le_of_eq hg.symm)) hb)
                      replace BK266 := bb_ BK266 hb
                      replace BK267 := bb_ BK267 hb
                      replace BK268 := bb_ BK268 hb
                      replace BK277 := bb_ BK277 hb
                      replace BK291 := bb_ BK291 hb
                      replace HB := Aside0.mk (below_step (by repeat (first | (with_reducible first | exact HB.out | apply below_alloc | apply pw_below_drewN | apply below_drew1 | refine below_set ?_ (Aside0.out (by assumption))) | exact HB.out)) hb)
                      clear hb hbox hg
                      refine hK.out _ _ ⟨(blk_cell BK266.out 0).trans rfl, (blk_cell BK266.out 1).trans rfl, (blk_cell BK266.out 2).trans rfl, (blk_cell BK267.out 0).trans rfl, (blk_cell BK267.out 1).trans rfl, (blk_cell BK267.out 2).trans rfl, (blk_cell BK268.out 0).trans rfl, (blk_cell BK268.out 1).trans rfl, (blk_cell BK268.out 2).trans rfl⟩ (fun hHeld => ?_)
                      clear hK K
                      refine norm_ (a' := ?_) ?_ ?_
                      rotate_left
                      ·show Act.put _ (some 10) _ = _
                       simp only [Act.put, List.setIfInBounds_toArray, List.set_cons_zero, List.set_cons_succ, i64_w, i32_w]
                       rfl
                      exact norm_ (by first | (simp only [putAll, Act.put, List.setIfInBounds_toArray, List.set_cons_zero, List.set_cons_succ]; done) | (simp only [putAll, Act.put, List.setIfInBounds_toArray, List.set_cons_zero, List.set_cons_succ]; rfl)) (hJ10_11 (gb290, gb291) _ ⟨hHeld, (by (with_reducible repeat (first | apply Kd.R_alloc | apply Kd.R_drewN | apply Kd.R_drew)); exact Kd.R_mono HO272.out (fun _ hk => ⟨hk.1.1, ⟨hk.1.2.1, ⟨hk.1.2.2.1, ⟨hk.1.2.2.2.1, ⟨hk.2, hk.1.2.2.2.2⟩⟩⟩⟩⟩)), (bq_ BK266), (bq_ BK267), (bq_ BK268), (bq_ BK277), (bq_ BK290), (bq_ BK291), GW290.out, GE290.out, NB266_290.out, NB290_266.out, NB267_290.out, NB290_267.out, NB268_290.out, NB290_268.out, NB277_290.out, NB290_277.out, NB291_290.out, NB290_291.out, GW291.out, GE291.out, NB266_291.out, NB291_266.out, NB267_291.out, NB291_267.out, NB268_291.out, NB291_268.out, NB277_291.out, NB291_277.out, (by repeat (first | (with_reducible first | exact HB.out | apply below_alloc | apply pw_below_drewN | apply below_drew1 | refine below_set ?_ (Aside0.out (by assumption))) | exact HB.out))⟩)
                   ·skip
                    rintro gb290 w40 ⟨hS_, h0_, h1_, h2_, h3_, h4_, h5_, h6_, h7_, h8_, h9_, h10_, h11_, h12_, h13_, h14_, h15_, h16_⟩
                    have BK290 : Aside0 (w40.heap[gb290]? = some (.cells #[.int .u64 0, .int .u64 0, .int .u64 0] 25 (0, 0))) := ⟨h5_⟩
                    have GW290 : Aside0 (w.heap.size ≤ gb290) := ⟨h6_⟩
                    have GE290 : Aside0 (w.heap.size ≤ gb290) := ⟨h7_⟩
                    have NB266_290 : Aside0 (gb266 ≠ gb290) := ⟨h8_⟩
                    have NB290_266 : Aside0 (gb290 ≠ gb266) := ⟨h9_⟩
                    have NB267_290 : Aside0 (gb267 ≠ gb290) := ⟨h10_⟩
                    have NB290_267 : Aside0 (gb290 ≠ gb267) := ⟨h11_⟩
                    have NB268_290 : Aside0 (gb268 ≠ gb290) := ⟨h12_⟩
                    have NB290_268 : Aside0 (gb290 ≠ gb268) := ⟨h13_⟩
                    have NB277_290 : Aside0 (gb277 ≠ gb290) := ⟨h14_⟩
                    have NB290_277 : Aside0 (gb290 ≠ gb277) := ⟨h15_⟩
                    replace HO272 : Aside0 (Kd.R k25 25 w40 w.heap.size (fun k_ => k_ ≠ gb266 ∧ k_ ≠ gb267 ∧ k_ ≠ gb268 ∧ k_ ≠ gb277 ∧ k_ ≠ gb290) (.slice Ao30 y270.length co30) y270) := ⟨h0_⟩
                    replace BK266 : Aside0 (w40.heap[gb266]? = some (.cells #[.int .u64 a0_0, .int .u64 a0_1, .int .u64 a0_2] 25 (0, 0))) := ⟨h1_⟩
                    replace BK267 : Aside0 (w40.heap[gb267]? = some (.cells #[.int .u64 a1_0, .int .u64 a1_1, .int .u64 a1_2] 25 (0, 0))) := ⟨h2_⟩
                    replace BK268 : Aside0 (w40.heap[gb268]? = some (.cells #[.int .u64 a2_0, .int .u64 a2_1, .int .u64 a2_2] 25 (0, 0))) := ⟨h3_⟩
                    replace BK277 : Aside0 (w40.heap[gb277]? = some (.cells #[.int .u64 t273, .int .u64 t274, .int .u64 t275] 25 (0, 0))) := ⟨h4_⟩
                    replace HB : Aside0 (Below w.heap.size w w40) := ⟨h16_⟩
                    clear h0_ h1_ h2_ h3_ h4_ h5_ h6_ h7_ h8_ h9_ h10_ h11_ h12_ h13_ h14_ h15_ h16_
                    have hHeld : w40.cell? ⟨gb266, 0, none⟩ = some (.int .u64 a0_0) ∧ w40.cell? ⟨gb266, 1, none⟩ = some (.int .u64 a0_1) ∧ w40.cell? ⟨gb266, 2, none⟩ = some (.int .u64 a0_2) ∧ w40.cell? ⟨gb267, 0, none⟩ = some (.int .u64 a1_0) ∧ w40.cell? ⟨gb267, 1, none⟩ = some (.int .u64 a1_1) ∧ w40.cell? ⟨gb267, 2, none⟩ = some (.int .u64 a1_2) ∧ w40.cell? ⟨gb268, 0, none⟩ = some (.int .u64 a2_0) ∧ w40.cell? ⟨gb268, 1, none⟩ = some (.int .u64 a2_1) ∧ w40.cell? ⟨gb268, 2, none⟩ = some (.int .u64 a2_2) := hS_
                    refine norm_ (a' := ?_) ?_ ?_
                    rotate_left
                    ·simp only [putAll, Act.put, List.setIfInBounds_toArray, List.set_cons_zero, List.set_cons_succ]
                     rfl
                    refine two_ (i := 2) (j := 11) (Ni := some 23) (Nj := some 11) #[true, true, true, true, false, true, true, true, false, false, true, false, false, false] #[true, true, false, true, false, true, true, true, false, false, true, true, false, false] rfl rfl rfl rfl (two_of HT_.out (by kernel_rfl)) (by decide) (by decide) (fun K hK => ?_) (fun K hK => ?_)
                    ·skip
                     refine goes_ Try.func22 (by kernel_rfl) rfl #[.agg #[.int .u64 a0_0, .int .u64 a0_1, .int .u64 a0_2], .agg #[.int .u64 a1_0, .int .u64 a1_1, .int .u64 a1_2]] (by rfl) rfl rfl (by (try simp only [List.map_toArray, List.map_cons, List.map_nil]); first | done | rfl | (simp only [List.length_drop, List.length_take]; rfl)) ?_
                     with_reducible refine (tally_Add.calls a0_0 a0_1 a0_2 a1_0 a1_1 a1_2 t278 t279 t280 _ A6.out).mono ?_
                     rintro e w41 ⟨rfl, hb⟩
                     refine ⟨_, rfl, ?_⟩
                     replace HO272 := Aside0.mk (Kd.R_below (by (with_reducible repeat (first | apply Kd.R_alloc | apply Kd.R_drewN | apply Kd.R_drew)); exact HO272.out) hb)
                     replace BK266 := bb_ BK266 hb
                     replace BK267 := bb_ BK267 hb
                     replace BK268 := bb_ BK268 hb
                     replace BK277 := bb_ BK277 hb
                     replace BK290 := bb_ BK290 hb
                     replace HB := Aside0.mk (below_step (by repeat (first | (with_reducible first | exact HB.out | apply below_alloc | apply pw_below_drewN | apply below_drew1 | refine below_set ?_ (Aside0.out (by assumption))) | exact HB.out)) hb)
                     (try clear hb)
                     (try clear hb2)
                     (try clear hk)
                     (try clear hi)
                     refine hK.out _ _ ⟨(blk_cell BK266.out 0).trans rfl, (blk_cell BK266.out 1).trans rfl, (blk_cell BK266.out 2).trans rfl, (blk_cell BK267.out 0).trans rfl, (blk_cell BK267.out 1).trans rfl, (blk_cell BK267.out 2).trans rfl, (blk_cell BK268.out 0).trans rfl, (blk_cell BK268.out 1).trans rfl, (blk_cell BK268.out 2).trans rfl⟩ (fun hHeld => ?_)
                     clear hK K
                     refine norm_ (a' := ?_) ?_ ?_
                     rotate_left
                     ·show Act.put _ (some 23) _ = _
                      simp only [Act.put, List.setIfInBounds_toArray, List.set_cons_zero, List.set_cons_succ, i64_w, i32_w]
                      rfl
                     exact norm_ (by first | (simp only [putAll, Act.put, List.setIfInBounds_toArray, List.set_cons_zero, List.set_cons_succ]; done) | (simp only [putAll, Act.put, List.setIfInBounds_toArray, List.set_cons_zero, List.set_cons_succ]; rfl)) (hJ2_10 (gb290) _ ⟨hHeld, (by (with_reducible repeat (first | apply Kd.R_alloc | apply Kd.R_drewN | apply Kd.R_drew)); exact HO272.out), (bq_ BK266), (bq_ BK267), (bq_ BK268), (bq_ BK277), (bq_ BK290), GW290.out, GE290.out, NB266_290.out, NB290_266.out, NB267_290.out, NB290_267.out, NB268_290.out, NB290_268.out, NB277_290.out, NB290_277.out, (by repeat (first | (with_reducible first | exact HB.out | apply below_alloc | apply pw_below_drewN | apply below_drew1 | refine below_set ?_ (Aside0.out (by assumption))) | exact HB.out))⟩)
                    ·skip
                     refine box_step ?hg (N := 11) ?hd (cs := #[.int .u64 0, .int .u64 0, .int .u64 0]) (t := 25) ?hr ?_; (case hd => rfl); (case hg => rfl); (case hr => first | (go_simp; done) | (go_simp; rfl))
                     intro gb291 hg w41 hbox hb
                     have BK291 := Aside0.mk (hbox)
                     have GW291 := Aside0.mk ((by rw [hg]; exact (below_size (by repeat (first | (with_reducible first | exact HB.out | apply below_alloc | apply pw_below_drewN | apply below_drew1 | refine below_set ?_ (Aside0.out (by assumption))) | exact HB.out))) : w.heap.size ≤ gb291))
                     have GE291 := GW291
                     have NB266_291 := bn_ BK266 hg
                     have NB291_266 := bm_ BK266 hg
                     have NB267_291 := bn_ BK267 hg
                     have NB291_267 := bm_ BK267 hg
                     have NB268_291 := bn_ BK268 hg
                     have NB291_268 := bm_ BK268 hg
                     have NB277_291 := bn_ BK277 hg
                     have NB291_277 := bm_ BK277 hg
                     have NB290_291 := bn_ BK290 hg
                     have NB291_290 := bm_ BK290 hg
                     replace HO272 := Aside0.mk (Kd.R_below (Kd.R_elderB (by (with_reducible repeat (first | apply Kd.R_alloc | apply Kd.R_drewN | apply Kd.R_drew)); exact HO272.out) gb291 (Nat.le_of_eq hg.symm)) hb)
                     replace BK266 := bb_ BK266 hb
                     replace BK267 := bb_ BK267 hb
                     replace BK268 := bb_ BK268 hb
                     replace BK277 := bb_ BK277 hb
                     replace BK290 := bb_ BK290 hb
                     replace HB := Aside0.mk (below_step (by repeat (first | (with_reducible first | exact HB.out | apply below_alloc | apply pw_below_drewN | apply below_drew1 | refine below_set ?_ (Aside0.out (by assumption))) | exact HB.out)) hb)
                     clear hb hbox hg
                     refine hK.out _ _ ⟨(blk_cell BK266.out 0).trans rfl, (blk_cell BK266.out 1).trans rfl, (blk_cell BK266.out 2).trans rfl, (blk_cell BK267.out 0).trans rfl, (blk_cell BK267.out 1).trans rfl, (blk_cell BK267.out 2).trans rfl, (blk_cell BK268.out 0).trans rfl, (blk_cell BK268.out 1).trans rfl, (blk_cell BK268.out 2).trans rfl⟩ (fun hHeld => ?_)
                     clear hK K
                     refine norm_ (a' := ?_) ?_ ?_
                     rotate_left
                     ·show Act.put _ (some 11) _ = _
                      simp only [Act.put, List.setIfInBounds_toArray, List.set_cons_zero, List.set_cons_succ, i64_w, i32_w]
                      rfl
                     exact norm_ (by first | (simp only [putAll, Act.put, List.setIfInBounds_toArray, List.set_cons_zero, List.set_cons_succ]; done) | (simp only [putAll, Act.put, List.setIfInBounds_toArray, List.set_cons_zero, List.set_cons_succ]; rfl)) (hJ10_11 (gb290, gb291) _ ⟨hHeld, (by (with_reducible repeat (first | apply Kd.R_alloc | apply Kd.R_drewN | apply Kd.R_drew)); exact Kd.R_mono HO272.out (fun _ hk => ⟨hk.1.1, ⟨hk.1.2.1, ⟨hk.1.2.2.1, ⟨hk.1.2.2.2.1, ⟨hk.1.2.2.2.2, hk.2⟩⟩⟩⟩⟩)), (bq_ BK266), (bq_ BK267), (bq_ BK268), (bq_ BK277), (bq_ BK290), (bq_ BK291), GW290.out, GE290.out, NB266_290.out, NB290_266.out, NB267_290.out, NB290_267.out, NB268_290.out, NB290_268.out, NB277_290.out, NB290_277.out, NB291_290.out, NB290_291.out, GW291.out, GE291.out, NB266_291.out, NB291_266.out, NB267_291.out, NB291_267.out, NB268_291.out, NB291_268.out, NB277_291.out, NB291_277.out, (by repeat (first | (with_reducible first | exact HB.out | apply below_alloc | apply pw_below_drewN | apply below_drew1 | refine below_set ?_ (Aside0.out (by assumption))) | exact HB.out))⟩)
                  ·skip
                   rintro _ w40 ⟨hS_, h0_, h1_, h2_, h3_, h4_, h5_⟩
                   replace HO272 : Aside0 (Kd.R k25 25 w40 w.heap.size (fun k_ => k_ ≠ gb266 ∧ k_ ≠ gb267 ∧ k_ ≠ gb268 ∧ k_ ≠ gb277) (.slice Ao30 y270.length co30) y270) := ⟨h0_⟩
                   replace BK266 : Aside0 (w40.heap[gb266]? = some (.cells #[.int .u64 a0_0, .int .u64 a0_1, .int .u64 a0_2] 25 (0, 0))) := ⟨h1_⟩
                   replace BK267 : Aside0 (w40.heap[gb267]? = some (.cells #[.int .u64 a1_0, .int .u64 a1_1, .int .u64 a1_2] 25 (0, 0))) := ⟨h2_⟩
                   replace BK268 : Aside0 (w40.heap[gb268]? = some (.cells #[.int .u64 a2_0, .int .u64 a2_1, .int .u64 a2_2] 25 (0, 0))) := ⟨h3_⟩
                   replace BK277 : Aside0 (w40.heap[gb277]? = some (.cells #[.int .u64 t273, .int .u64 t274, .int .u64 t275] 25 (0, 0))) := ⟨h4_⟩
                   replace HB : Aside0 (Below w.heap.size w w40) := ⟨h5_⟩
                   clear h0_ h1_ h2_ h3_ h4_ h5_
                   have hHeld : w40.cell? ⟨gb266, 0, none⟩ = some (.int .u64 a0_0) ∧ w40.cell? ⟨gb266, 1, none⟩ = some (.int .u64 a0_1) ∧ w40.cell? ⟨gb266, 2, none⟩ = some (.int .u64 a0_2) ∧ w40.cell? ⟨gb267, 0, none⟩ = some (.int .u64 a1_0) ∧ w40.cell? ⟨gb267, 1, none⟩ = some (.int .u64 a1_1) ∧ w40.cell? ⟨gb267, 2, none⟩ = some (.int .u64 a1_2) ∧ w40.cell? ⟨gb268, 0, none⟩ = some (.int .u64 a2_0) ∧ w40.cell? ⟨gb268, 1, none⟩ = some (.int .u64 a2_1) ∧ w40.cell? ⟨gb268, 2, none⟩ = some (.int .u64 a2_2) := hS_
                   refine norm_ (a' := ?_) ?_ ?_
                   rotate_left
                   ·simp only [putAll, Act.put, List.setIfInBounds_toArray, List.set_cons_zero, List.set_cons_succ]
                    rfl
                   refine three_ (i := 4) (j := 10) (k := 11) (Ni := some 25) (Nj := some 10) (Nk := some 11) #[true, true, true, true, true, true, true, true, false, false, false, false, false, false] #[true, true, true, true, false, true, true, true, false, false, true, false, false, false] #[true, true, true, true, false, true, true, true, false, false, false, true, false, false] rfl rfl rfl rfl rfl rfl (three_of HT_.out (by kernel_rfl)) (by decide) (by decide) (by decide) (fun K hK => ?_) (fun K hK => ?_) (fun K hK => ?_)
                   ·skip
                    refine goes_ Try.func22 (by kernel_rfl) rfl #[.agg #[.int .u64 t278, .int .u64 t279, .int .u64 t280], .agg #[.int .u64 a2_0, .int .u64 a2_1, .int .u64 a2_2]] (by rfl) rfl rfl (by (try simp only [List.map_toArray, List.map_cons, List.map_nil]); first | done | rfl | (simp only [List.length_drop, List.length_take]; rfl)) ?_
                    with_reducible refine (tally_Add.calls t278 t279 t280 a2_0 a2_1 a2_2 t281 t282 t283 _ A7.out).mono ?_
                    rintro e w41 ⟨rfl, hb⟩
                    refine ⟨_, rfl, ?_⟩
                    replace HO272 := Aside0.mk (Kd.R_below (by (with_reducible repeat (first | apply Kd.R_alloc | apply Kd.R_drewN | apply Kd.R_drew)); exact HO272.out) hb)
                    replace BK266 := bb_ BK266 hb
                    replace BK267 := bb_ BK267 hb
                    replace BK268 := bb_ BK268 hb
                    replace BK277 := bb_ BK277 hb
                    replace HB := Aside0.mk (below_step (by repeat (first | (with_reducible first | exact HB.out | apply below_alloc | apply pw_below_drewN | apply below_drew1 | refine below_set ?_ (Aside0.out (by assumption))) | exact HB.out)) hb)
                    (try clear hb)
                    (try clear hb2)
                    (try clear hk)
                    (try clear hi)
                    refine hK.out _ _ ⟨(blk_cell BK266.out 0).trans rfl, (blk_cell BK266.out 1).trans rfl, (blk_cell BK266.out 2).trans rfl, (blk_cell BK267.out 0).trans rfl, (blk_cell BK267.out 1).trans rfl, (blk_cell BK267.out 2).trans rfl, (blk_cell BK268.out 0).trans rfl, (blk_cell BK268.out 1).trans rfl, (blk_cell BK268.out 2).trans rfl⟩ (fun hHeld => ?_)
                    clear hK K
                    refine norm_ (a' := ?_) ?_ ?_
                    rotate_left
                    ·show Act.put _ (some 25) _ = _
                     simp only [Act.put, List.setIfInBounds_toArray, List.set_cons_zero, List.set_cons_succ, i64_w, i32_w]
                     rfl
                    exact norm_ (by first | (simp only [putAll, Act.put, List.setIfInBounds_toArray, List.set_cons_zero, List.set_cons_succ]; done) | (simp only [putAll, Act.put, List.setIfInBounds_toArray, List.set_cons_zero, List.set_cons_succ]; rfl)) (hJ2_4 () _ ⟨hHeld, (by (with_reducible repeat (first | apply Kd.R_alloc | apply Kd.R_drewN | apply Kd.R_drew)); exact HO272.out), (bq_ BK266), (bq_ BK267), (bq_ BK268), (bq_ BK277), (by repeat (first | (with_reducible first | exact HB.out | apply below_alloc | apply pw_below_drewN | apply below_drew1 | refine below_set ?_ (Aside0.out (by assumption))) | exact HB.out))⟩)
                   ·skip
                    refine box_step ?hg (N := 10) ?hd (cs := #[.int .u64 0, .int .u64 0, .int .u64 0]) (t := 25) ?hr ?_; (case hd => rfl); (case hg => rfl); (case hr => first | (go_simp; done) | (go_simp; rfl))
                    intro gb290 hg w41 hbox hb
                    have BK290 := Aside0.mk (hbox)
                    have GW290 := Aside0.mk ((by rw [hg]; exact (below_size (by repeat (first | (with_reducible first | exact HB.out | apply below_alloc | apply pw_below_drewN | apply below_drew1 | refine below_set ?_ (Aside0.out (by assumption))) | exact HB.out))) : w.heap.size ≤ gb290))
                    have GE290 := GW290
                    have NB266_290 := bn_ BK266 hg
                    have NB290_266 := bm_ BK266 hg
                    have NB267_290 := bn_ BK267 hg
                    have NB290_267 := bm_ BK267 hg
                    have NB268_290 := bn_ BK268 hg
                    have NB290_268 := bm_ BK268 hg
                    have NB277_290 := bn_ BK277 hg
                    have NB290_277 := bm_ BK277 hg
                    replace HO272 := Aside0.mk (Kd.R_below (Kd.R_elderB (by (with_reducible repeat (first | apply Kd.R_alloc | apply Kd.R_drewN | apply Kd.R_drew)); exact HO272.out) gb290 (Nat.le_of_eq hg.symm)) hb)
                    replace BK266 := bb_ BK266 hb
                    replace BK267 := bb_ BK267 hb
                    replace BK268 := bb_ BK268 hb
                    replace BK277 := bb_ BK277 hb
                    replace HB := Aside0.mk (below_step (by repeat (first | (with_reducible first | exact HB.out | apply below_alloc | apply pw_below_drewN | apply below_drew1 | refine below_set ?_ (Aside0.out (by assumption))) | exact HB.out)) hb)
                    clear hb hbox hg
                    refine hK.out _ _ ⟨(blk_cell BK266.out 0).trans rfl, (blk_cell BK266.out 1).trans rfl, (blk_cell BK266.out 2).trans rfl, (blk_cell BK267.out 0).trans rfl, (blk_cell BK267.out 1).trans rfl, (blk_cell BK267.out 2).trans rfl, (blk_cell BK268.out 0).trans rfl, (blk_cell BK268.out 1).trans rfl, (blk_cell BK268.out 2).trans rfl⟩ (fun hHeld => ?_)
                    clear hK K
                    refine norm_ (a' := ?_) ?_ ?_
                    rotate_left
                    ·show Act.put _ (some 10) _ = _
                     simp only [Act.put, List.setIfInBounds_toArray, List.set_cons_zero, List.set_cons_succ, i64_w, i32_w]
                     rfl
                    exact norm_ (by first | (simp only [putAll, Act.put, List.setIfInBounds_toArray, List.set_cons_zero, List.set_cons_succ]; done) | (simp only [putAll, Act.put, List.setIfInBounds_toArray, List.set_cons_zero, List.set_cons_succ]; rfl)) (hJ2_10 (gb290) _ ⟨hHeld, (by (with_reducible repeat (first | apply Kd.R_alloc | apply Kd.R_drewN | apply Kd.R_drew)); exact Kd.R_mono HO272.out (fun _ hk => ⟨hk.1.1, ⟨hk.1.2.1, ⟨hk.1.2.2.1, ⟨hk.1.2.2.2, hk.2⟩⟩⟩⟩)), (bq_ BK266), (bq_ BK267), (bq_ BK268), (bq_ BK277), (bq_ BK290), GW290.out, GE290.out, NB266_290.out, NB290_266.out, NB267_290.out, NB290_267.out, NB268_290.out, NB290_268.out, NB277_290.out, NB290_277.out, (by repeat (first | (with_reducible first | exact HB.out | apply below_alloc | apply pw_below_drewN | apply below_drew1 | refine below_set ?_ (Aside0.out (by assumption))) | exact HB.out))⟩)
                   ·skip
                    refine box_step ?hg (N := 11) ?hd (cs := #[.int .u64 0, .int .u64 0, .int .u64 0]) (t := 25) ?hr ?_; (case hd => rfl); (case hg => rfl); (case hr => first | (go_simp; done) | (go_simp; rfl))
                    intro gb291 hg w41 hbox hb
                    have BK291 := Aside0.mk (hbox)
                    have GW291 := Aside0.mk ((by rw [hg]; exact (below_size (by repeat (first | (with_reducible first | exact HB.out | apply below_alloc | apply pw_below_drewN | apply below_drew1 | refine below_set ?_ (Aside0.out (by assumption))) | exact HB.out))) : w.heap.size ≤ gb291))
                    have GE291 := GW291
                    have NB266_291 := bn_ BK266 hg
                    have NB291_266 := bm_ BK266 hg
                    have NB267_291 := bn_ BK267 hg
                    have NB291_267 := bm_ BK267 hg
                    have NB268_291 := bn_ BK268 hg
                    have NB291_268 := bm_ BK268 hg
                    have NB277_291 := bn_ BK277 hg
                    have NB291_277 := bm_ BK277 hg
                    replace HO272 := Aside0.mk (Kd.R_below (Kd.R_elderB (by (with_reducible repeat (first | apply Kd.R_alloc | apply Kd.R_drewN | apply Kd.R_drew)); exact HO272.out) gb291 (Nat.le_of_eq hg.symm)) hb)
                    replace BK266 := bb_ BK266 hb
                    replace BK267 := bb_ BK267 hb
                    replace BK268 := bb_ BK268 hb
                    replace BK277 := bb_ BK277 hb
                    replace HB := Aside0.mk (below_step (by repeat (first | (with_reducible first | exact HB.out | apply below_alloc | apply pw_below_drewN | apply below_drew1 | refine below_set ?_ (Aside0.out (by assumption))) | exact HB.out)) hb)
                    clear hb hbox hg
                    refine hK.out _ _ ⟨(blk_cell BK266.out 0).trans rfl, (blk_cell BK266.out 1).trans rfl, (blk_cell BK266.out 2).trans rfl, (blk_cell BK267.out 0).trans rfl, (blk_cell BK267.out 1).trans rfl, (blk_cell BK267.out 2).trans rfl, (blk_cell BK268.out 0).trans rfl, (blk_cell BK268.out 1).trans rfl, (blk_cell BK268.out 2).trans rfl⟩ (fun hHeld => ?_)
                    clear hK K
                    refine norm_ (a' := ?_) ?_ ?_
                    rotate_left
                    ·show Act.put _ (some 11) _ = _
                     simp only [Act.put, List.setIfInBounds_toArray, List.set_cons_zero, List.set_cons_succ, i64_w, i32_w]
                     rfl
                    exact norm_ (by first | (simp only [putAll, Act.put, List.setIfInBounds_toArray, List.set_cons_zero, List.set_cons_succ]; done) | (simp only [putAll, Act.put, List.setIfInBounds_toArray, List.set_cons_zero, List.set_cons_succ]; rfl)) (hJ2_11 (gb291) _ ⟨hHeld, (by (with_reducible repeat (first | apply Kd.R_alloc | apply Kd.R_drewN | apply Kd.R_drew)); exact Kd.R_mono HO272.out (fun _ hk => ⟨hk.1.1, ⟨hk.1.2.1, ⟨hk.1.2.2.1, ⟨hk.1.2.2.2, hk.2⟩⟩⟩⟩)), (bq_ BK266), (bq_ BK267), (bq_ BK268), (bq_ BK277), (bq_ BK291), GW291.out, GE291.out, NB266_291.out, NB291_266.out, NB267_291.out, NB291_267.out, NB268_291.out, NB291_268.out, NB277_291.out, NB291_277.out, (by repeat (first | (with_reducible first | exact HB.out | apply below_alloc | apply pw_below_drewN | apply below_drew1 | refine below_set ?_ (Aside0.out (by assumption))) | exact HB.out))⟩)
                 ·skip
                  rintro ⟨gb290, gb291⟩ w41 ⟨hS_, h0_, h1_, h2_, h3_, h4_, h5_, h6_, h7_, h8_, h9_, h10_, h11_, h12_, h13_, h14_, h15_, h16_, h17_, h18_, h19_, h20_, h21_, h22_, h23_, h24_, h25_, h26_, h27_, h28_, h29_⟩
                  have BK290 : Aside0 (w41.heap[gb290]? = some (.cells #[.int .u64 0, .int .u64 0, .int .u64 0] 25 (0, 0))) := ⟨h5_⟩
                  have BK291 : Aside0 (w41.heap[gb291]? = some (.cells #[.int .u64 0, .int .u64 0, .int .u64 0] 25 (0, 0))) := ⟨h6_⟩
                  have GW290 : Aside0 (w.heap.size ≤ gb290) := ⟨h7_⟩
                  have GE290 : Aside0 (w.heap.size ≤ gb290) := ⟨h8_⟩
                  have NB266_290 : Aside0 (gb266 ≠ gb290) := ⟨h9_⟩
                  have NB290_266 : Aside0 (gb290 ≠ gb266) := ⟨h10_⟩
                  have NB267_290 : Aside0 (gb267 ≠ gb290) := ⟨h11_⟩
                  have NB290_267 : Aside0 (gb290 ≠ gb267) := ⟨h12_⟩
                  have NB268_290 : Aside0 (gb268 ≠ gb290) := ⟨h13_⟩
                  have NB290_268 : Aside0 (gb290 ≠ gb268) := ⟨h14_⟩
                  have NB277_290 : Aside0 (gb277 ≠ gb290) := ⟨h15_⟩
                  have NB290_277 : Aside0 (gb290 ≠ gb277) := ⟨h16_⟩
                  have NB291_290 : Aside0 (gb291 ≠ gb290) := ⟨h17_⟩
                  have NB290_291 : Aside0 (gb290 ≠ gb291) := ⟨h18_⟩
                  have GW291 : Aside0 (w.heap.size ≤ gb291) := ⟨h19_⟩
                  have GE291 : Aside0 (w.heap.size ≤ gb291) := ⟨h20_⟩
                  have NB266_291 : Aside0 (gb266 ≠ gb291) := ⟨h21_⟩
                  have NB291_266 : Aside0 (gb291 ≠ gb266) := ⟨h22_⟩
                  have NB267_291 : Aside0 (gb267 ≠ gb291) := ⟨h23_⟩
                  have NB291_267 : Aside0 (gb291 ≠ gb267) := ⟨h24_⟩
                  have NB268_291 : Aside0 (gb268 ≠ gb291) := ⟨h25_⟩
                  have NB291_268 : Aside0 (gb291 ≠ gb268) := ⟨h26_⟩
                  have NB277_291 : Aside0 (gb277 ≠ gb291) := ⟨h27_⟩
                  have NB291_277 : Aside0 (gb291 ≠ gb277) := ⟨h28_⟩
                  replace HO272 : Aside0 (Kd.R k25 25 w41 w.heap.size (fun k_ => k_ ≠ gb266 ∧ k_ ≠ gb267 ∧ k_ ≠ gb268 ∧ k_ ≠ gb277 ∧ k_ ≠ gb290 ∧ k_ ≠ gb291) (.slice Ao30 y270.length co30) y270) := ⟨h0_⟩
                  replace BK266 : Aside0 (w41.heap[gb266]? = some (.cells #[.int .u64 a0_0, .int .u64 a0_1, .int .u64 a0_2] 25 (0, 0))) := ⟨h1_⟩
                  replace BK267 : Aside0 (w41.heap[gb267]? = some (.cells #[.int .u64 a1_0, .int .u64 a1_1, .int .u64 a1_2] 25 (0, 0))) := ⟨h2_⟩
                  replace BK268 : Aside0 (w41.heap[gb268]? = some (.cells #[.int .u64 a2_0, .int .u64 a2_1, .int .u64 a2_2] 25 (0, 0))) := ⟨h3_⟩
                  replace BK277 : Aside0 (w41.heap[gb277]? = some (.cells #[.int .u64 t273, .int .u64 t274, .int .u64 t275] 25 (0, 0))) := ⟨h4_⟩
                  replace HB : Aside0 (Below w.heap.size w w41) := ⟨h29_⟩
                  clear h0_ h1_ h2_ h3_ h4_ h5_ h6_ h7_ h8_ h9_ h10_ h11_ h12_ h13_ h14_ h15_ h16_ h17_ h18_ h19_ h20_ h21_ h22_ h23_ h24_ h25_ h26_ h27_ h28_ h29_
                  have hHeld : w41.cell? ⟨gb266, 0, none⟩ = some (.int .u64 a0_0) ∧ w41.cell? ⟨gb266, 1, none⟩ = some (.int .u64 a0_1) ∧ w41.cell? ⟨gb266, 2, none⟩ = some (.int .u64 a0_2) ∧ w41.cell? ⟨gb267, 0, none⟩ = some (.int .u64 a1_0) ∧ w41.cell? ⟨gb267, 1, none⟩ = some (.int .u64 a1_1) ∧ w41.cell? ⟨gb267, 2, none⟩ = some (.int .u64 a1_2) ∧ w41.cell? ⟨gb268, 0, none⟩ = some (.int .u64 a2_0) ∧ w41.cell? ⟨gb268, 1, none⟩ = some (.int .u64 a2_1) ∧ w41.cell? ⟨gb268, 2, none⟩ = some (.int .u64 a2_2) := hS_
                  refine norm_ (a' := ?_) ?_ ?_
                  rotate_left
                  ·simp only [putAll, Act.put, List.setIfInBounds_toArray, List.set_cons_zero, List.set_cons_succ]
                   rfl
                  refine one_ (i := 2) (N := some 23) #[true, true, true, true, false, true, true, true, false, false, true, true, false, false] rfl rfl (one_of HT_.out (by kernel_rfl)) (by decide) (fun K hK => ?_)
                  refine goes_ Try.func22 (by kernel_rfl) rfl #[.agg #[.int .u64 a0_0, .int .u64 a0_1, .int .u64 a0_2], .agg #[.int .u64 a1_0, .int .u64 a1_1, .int .u64 a1_2]] (by rfl) rfl rfl (by (try simp only [List.map_toArray, List.map_cons, List.map_nil]); first | done | rfl | (simp only [List.length_drop, List.length_take]; rfl)) ?_
                  with_reducible refine (tally_Add.calls a0_0 a0_1 a0_2 a1_0 a1_1 a1_2 t278 t279 t280 _ A6.out).mono ?_
                  rintro e w42 ⟨rfl, hb⟩
                  refine ⟨_, rfl, ?_⟩
                  replace HO272 := Aside0.mk (Kd.R_below (by (with_reducible repeat (first | apply Kd.R_alloc | apply Kd.R_drewN | apply Kd.R_drew)); exact HO272.out) hb)
                  replace BK266 := bb_ BK266 hb
                  replace BK267 := bb_ BK267 hb
                  replace BK268 := bb_ BK268 hb
                  replace BK277 := bb_ BK277 hb
                  replace BK290 := bb_ BK290 hb
                  replace BK291 := bb_ BK291 hb
                  replace HB := Aside0.mk (below_step (by repeat (first | (with_reducible first | exact HB.out | apply below_alloc | apply pw_below_drewN | apply below_drew1 | refine below_set ?_ (Aside0.out (by assumption))) | exact HB.out)) hb)
                  (try clear hb)
                  (try clear hb2)
                  (try clear hk)
                  (try clear hi)
                  refine hK.out _ _ ⟨(blk_cell BK266.out 0).trans rfl, (blk_cell BK266.out 1).trans rfl, (blk_cell BK266.out 2).trans rfl, (blk_cell BK267.out 0).trans rfl, (blk_cell BK267.out 1).trans rfl, (blk_cell BK267.out 2).trans rfl, (blk_cell BK268.out 0).trans rfl, (blk_cell BK268.out 1).trans rfl, (blk_cell BK268.out 2).trans rfl⟩ (fun hHeld => ?_)
                  clear hK K
                  refine norm_ (a' := ?_) ?_ ?_
                  rotate_left
                  ·show Act.put _ (some 23) _ = _
                   simp only [Act.put, List.setIfInBounds_toArray, List.set_cons_zero, List.set_cons_succ, i64_w, i32_w]
                   rfl
                  exact norm_ (by first | (simp only [putAll, Act.put, List.setIfInBounds_toArray, List.set_cons_zero, List.set_cons_succ]; done) | (simp only [putAll, Act.put, List.setIfInBounds_toArray, List.set_cons_zero, List.set_cons_succ]; rfl)) (hJ2_10_11 (gb290, gb291) _ ⟨hHeld, (by (with_reducible repeat (first | apply Kd.R_alloc | apply Kd.R_drewN | apply Kd.R_drew)); exact HO272.out), (bq_ BK266), (bq_ BK267), (bq_ BK268), (bq_ BK277), (bq_ BK290), (bq_ BK291), GW290.out, GE290.out, NB266_290.out, NB290_266.out, NB267_290.out, NB290_267.out, NB268_290.out, NB290_268.out, NB277_290.out, NB290_277.out, NB291_290.out, NB290_291.out, GW291.out, GE291.out, NB266_291.out, NB291_266.out, NB267_291.out, NB291_267.out, NB268_291.out, NB291_268.out, NB277_291.out, NB291_277.out, (by repeat (first | (with_reducible first | exact HB.out | apply below_alloc | apply pw_below_drewN | apply below_drew1 | refine below_set ?_ (Aside0.out (by assumption))) | exact HB.out))⟩)
                ·skip
                 rintro gb291 w41 ⟨hS_, h0_, h1_, h2_, h3_, h4_, h5_, h6_, h7_, h8_, h9_, h10_, h11_, h12_, h13_, h14_, h15_, h16_⟩
                 have BK291 : Aside0 (w41.heap[gb291]? = some (.cells #[.int .u64 0, .int .u64 0, .int .u64 0] 25 (0, 0))) := ⟨h5_⟩
                 have GW291 : Aside0 (w.heap.size ≤ gb291) := ⟨h6_⟩
                 have GE291 : Aside0 (w.heap.size ≤ gb291) := ⟨h7_⟩
                 have NB266_291 : Aside0 (gb266 ≠ gb291) := ⟨h8_⟩
                 have NB291_266 : Aside0 (gb291 ≠ gb266) := ⟨h9_⟩
                 have NB267_291 : Aside0 (gb267 ≠ gb291) := ⟨h10_⟩
                 have NB291_267 : Aside0 (gb291 ≠ gb267) := ⟨h11_⟩
                 have NB268_291 : Aside0 (gb268 ≠ gb291) := ⟨h12_⟩
                 have NB291_268 : Aside0 (gb291 ≠ gb268) := ⟨h13_⟩
                 have NB277_291 : Aside0 (gb277 ≠ gb291) := ⟨h14_⟩
                 have NB291_277 : Aside0 (gb291 ≠ gb277) := ⟨h15_⟩
                 replace HO272 : Aside0 (Kd.R k25 25 w41 w.heap.size (fun k_ => k_ ≠ gb266 ∧ k_ ≠ gb267 ∧ k_ ≠ gb268 ∧ k_ ≠ gb277 ∧ k_ ≠ gb291) (.slice Ao30 y270.length co30) y270) := ⟨h0_⟩
                 replace BK266 : Aside0 (w41.heap[gb266]? = some (.cells #[.int .u64 a0_0, .int .u64 a0_1, .int .u64 a0_2] 25 (0, 0))) := ⟨h1_⟩
                 replace BK267 : Aside0 (w41.heap[gb267]? = some (.cells #[.int .u64 a1_0, .int .u64 a1_1, .int .u64 a1_2] 25 (0, 0))) := ⟨h2_⟩
                 replace BK268 : Aside0 (w41.heap[gb268]? = some (.cells #[.int .u64 a2_0, .int .u64 a2_1, .int .u64 a2_2] 25 (0, 0))) := ⟨h3_⟩
                 replace BK277 : Aside0 (w41.heap[gb277]? = some (.cells #[.int .u64 t273, .int .u64 t274, .int .u64 t275] 25 (0, 0))) := ⟨h4_⟩
                 replace HB : Aside0 (Below w.heap.size w w41) := ⟨h16_⟩
                 clear h0_ h1_ h2_ h3_ h4_ h5_ h6_ h7_ h8_ h9_ h10_ h11_ h12_ h13_ h14_ h15_ h16_
                 have hHeld : w41.cell? ⟨gb266, 0, none⟩ = some (.int .u64 a0_0) ∧ w41.cell? ⟨gb266, 1, none⟩ = some (.int .u64 a0_1) ∧ w41.cell? ⟨gb266, 2, none⟩ = some (.int .u64 a0_2) ∧ w41.cell? ⟨gb267, 0, none⟩ = some (.int .u64 a1_0) ∧ w41.cell? ⟨gb267, 1, none⟩ = some (.int .u64 a1_1) ∧ w41.cell? ⟨gb267, 2, none⟩ = some (.int .u64 a1_2) ∧ w41.cell? ⟨gb268, 0, none⟩ = some (.int .u64 a2_0) ∧ w41.cell? ⟨gb268, 1, none⟩ = some (.int .u64 a2_1) ∧ w41.cell? ⟨gb268, 2, none⟩ = some (.int .u64 a2_2) := hS_
                 refine norm_ (a' := ?_) ?_ ?_
                 rotate_left
                 ·simp only [putAll, Act.put, List.setIfInBounds_toArray, List.set_cons_zero, List.set_cons_succ]
                  rfl
                 refine two_ (i := 4) (j := 10) (Ni := some 25) (Nj := some 10) #[true, true, true, true, true, true, true, true, false, false, false, true, false, false] #[true, true, true, true, false, true, true, true, false, false, true, true, false, false] rfl rfl rfl rfl (two_of HT_.out (by kernel_rfl)) (by decide) (by decide) (fun K hK => ?_) (fun K hK => ?_)
                 ·skip
                  refine goes_ Try.func22 (by kernel_rfl) rfl #[.agg #[.int .u64 t278, .int .u64 t279, .int .u64 t280], .agg #[.int .u64 a2_0, .int .u64 a2_1, .int .u64 a2_2]] (by rfl) rfl rfl (by (try simp only [List.map_toArray, List.map_cons, List.map_nil]); first | done | rfl | (simp only [List.length_drop, List.length_take]; rfl)) ?_
                  with_reducible refine (tally_Add.calls t278 t279 t280 a2_0 a2_1 a2_2 t281 t282 t283 _ A7.out).mono ?_
                  rintro e w42 ⟨rfl, hb⟩
                  refine ⟨_, rfl, ?_⟩
                  replace HO272 := Aside0.mk (Kd.R_below (by (with_reducible repeat (first | apply Kd.R_alloc | apply Kd.R_drewN | apply Kd.R_drew)); exact HO272.out) hb)
                  replace BK266 := bb_ BK266 hb
                  replace BK267 := bb_ BK267 hb
                  replace BK268 := bb_ BK268 hb
                  replace BK277 := bb_ BK277 hb
                  replace BK291 := bb_ BK291 hb
                  replace HB := Aside0.mk (below_step (by repeat (first | (with_reducible first | exact HB.out | apply below_alloc | apply pw_below_drewN | apply below_drew1 | refine below_set ?_ (Aside0.out (by assumption))) | exact HB.out)) hb)
                  (try clear hb)
                  (try clear hb2)
                  (try clear hk)
                  (try clear hi)
                  refine hK.out _ _ ⟨(blk_cell BK266.out 0).trans rfl, (blk_cell BK266.out 1).trans rfl, (blk_cell BK266.out 2).trans rfl, (blk_cell BK267.out 0).trans rfl, (blk_cell BK267.out 1).trans rfl, (blk_cell BK267.out 2).trans rfl, (blk_cell BK268.out 0).trans rfl, (blk_cell BK268.out 1).trans rfl, (blk_cell BK268.out 2).trans rfl⟩ (fun hHeld => ?_)
                  clear hK K
                  refine norm_ (a' := ?_) ?_ ?_
                  rotate_left
                  ·show Act.put _ (some 25) _ = _
                   simp only [Act.put, List.setIfInBounds_toArray, List.set_cons_zero, List.set_cons_succ, i64_w, i32_w]
                   rfl
                  exact norm_ (by first | (simp only [putAll, Act.put, List.setIfInBounds_toArray, List.set_cons_zero, List.set_cons_succ]; done) | (simp only [putAll, Act.put, List.setIfInBounds_toArray, List.set_cons_zero, List.set_cons_succ]; rfl)) (hJ2_4_11 (gb291) _ ⟨hHeld, (by (with_reducible repeat (first | apply Kd.R_alloc | apply Kd.R_drewN | apply Kd.R_drew)); exact HO272.out), (bq_ BK266), (bq_ BK267), (bq_ BK268), (bq_ BK277), (bq_ BK291), GW291.out, GE291.out, NB266_291.out, NB291_266.out, NB267_291.out, NB291_267.out, NB268_291.out, NB291_268.out, NB277_291.out, NB291_277.out, (by repeat (first | (with_reducible first | exact HB.out | apply below_alloc | apply pw_below_drewN | apply below_drew1 | refine below_set ?_ (Aside0.out (by assumption))) | exact HB.out))⟩)
                 ·skip
                  refine box_step ?hg (N := 10) ?hd (cs := #[.int .u64 0, .int .u64 0, .int .u64 0]) (t := 25) ?hr ?_; (case hd => rfl); (case hg => rfl); (case hr => first | (go_simp; done) | (go_simp; rfl))
                  intro gb290 hg w42 hbox hb
                  have BK290 := Aside0.mk (hbox)
                  have GW290 := Aside0.mk ((by rw [hg]; exact (below_size (by repeat (first | (with_reducible first | exact HB.out | apply below_alloc | apply pw_below_drewN | apply below_drew1 | refine below_set ?_ (Aside0.out (by assumption))) | exact HB.out))) : w.heap.size ≤ gb290))
                  have GE290 := GW290
                  have NB266_290 := bn_ BK266 hg
                  have NB290_266 := bm_ BK266 hg
                  have NB267_290 := bn_ BK267 hg
                  have NB290_267 := bm_ BK267 hg
                  have NB268_290 := bn_ BK268 hg
                  have NB290_268 := bm_ BK268 hg
                  have NB277_290 := bn_ BK277 hg
                  have NB290_277 := bm_ BK277 hg
                  have NB291_290 := bn_ BK291 hg
                  have NB290_291 := bm_ BK291 hg
                  replace HO272 := Aside0.mk (Kd.R_below (Kd.R_elderB (by (with_reducible repeat (first | apply Kd.R_alloc | apply Kd.R_drewN | apply Kd.R_drew)); exact HO272.out) gb290 (Nat.le_of_eq hg.symm)) hb)
                  replace BK266 := bb_ BK266 hb
                  replace BK267 := bb_ BK267 hb
                  replace BK268 := bb_ BK268 hb
                  replace BK277 := bb_ BK277 hb
                  replace BK291 := bb_ BK291 hb
                  replace HB := Aside0.mk (below_step (by repeat (first | (with_reducible first | exact HB.out | apply below_alloc | apply pw_below_drewN | apply below_drew1 | refine below_set ?_ (Aside0.out (by assumption))) | exact HB.out)) hb)
                  clear hb hbox hg
                  refine hK.out _ _ ⟨(blk_cell BK266.out 0).trans rfl, (blk_cell BK266.out 1).trans rfl, (blk_cell BK266.out 2).trans rfl, (blk_cell BK267.out 0).trans rfl, (blk_cell BK267.out 1).trans rfl, (blk_cell BK267.out 2).trans rfl, (blk_cell BK268.out 0).trans rfl, (blk_cell BK268.out 1).trans rfl, (blk_cell BK268.out 2).trans rfl⟩ (fun hHeld => ?_)
                  clear hK K
                  refine norm_ (a' := ?_) ?_ ?_
                  rotate_left
                  ·show Act.put _ (some 10) _ = _
                   simp only [Act.put, List.setIfInBounds_toArray, List.set_cons_zero, List.set_cons_succ, i64_w, i32_w]
                   rfl
                  exact norm_ (by first | (simp only [putAll, Act.put, List.setIfInBounds_toArray, List.set_cons_zero, List.set_cons_succ]; done) | (simp only [putAll, Act.put, List.setIfInBounds_toArray, List.set_cons_zero, List.set_cons_succ]; rfl)) (hJ2_10_11 (gb290, gb291) _ ⟨hHeld, (by (with_reducible repeat (first | apply Kd.R_alloc | apply Kd.R_drewN | apply Kd.R_drew)); exact Kd.R_mono HO272.out (fun _ hk => ⟨hk.1.1, ⟨hk.1.2.1, ⟨hk.1.2.2.1, ⟨hk.1.2.2.2.1, ⟨hk.2, hk.1.2.2.2.2⟩⟩⟩⟩⟩)), (bq_ BK266), (bq_ BK267), (bq_ BK268), (bq_ BK277), (bq_ BK290), (bq_ BK291), GW290.out, GE290.out, NB266_290.out, NB290_266.out, NB267_290.out, NB290_267.out, NB268_290.out, NB290_268.out, NB277_290.out, NB290_277.out, NB291_290.out, NB290_291.out, GW291.out, GE291.out, NB266_291.out, NB291_266.out, NB267_291.out, NB291_267.out, NB268_291.out, NB291_268.out, NB277_291.out, NB291_277.out, (by repeat (first | (with_reducible first | exact HB.out | apply below_alloc | apply pw_below_drewN | apply below_drew1 | refine below_set ?_ (Aside0.out (by assumption))) | exact HB.out))⟩)
               ·skip
                rintro gb290 w41 ⟨hS_, h0_, h1_, h2_, h3_, h4_, h5_, h6_, h7_, h8_, h9_, h10_, h11_, h12_, h13_, h14_, h15_, h16_⟩
                have BK290 : Aside0 (w41.heap[gb290]? = some (.cells #[.int .u64 0, .int .u64 0, .int .u64 0] 25 (0, 0))) := ⟨h5_⟩
                have GW290 : Aside0 (w.heap.size ≤ gb290) := ⟨h6_⟩
                have GE290 : Aside0 (w.heap.size ≤ gb290) := ⟨h7_⟩
                have NB266_290 : Aside0 (gb266 ≠ gb290) := ⟨h8_⟩
                have NB290_266 : Aside0 (gb290 ≠ gb266) := ⟨h9_⟩
                have NB267_290 : Aside0 (gb267 ≠ gb290) := ⟨h10_⟩
                have NB290_267 : Aside0 (gb290 ≠ gb267) := ⟨h11_⟩
                have NB268_290 : Aside0 (gb268 ≠ gb290) := ⟨h12_⟩
                have NB290_268 : Aside0 (gb290 ≠ gb268) := ⟨h13_⟩
                have NB277_290 : Aside0 (gb277 ≠ gb290) := ⟨h14_⟩
                have NB290_277 : Aside0 (gb290 ≠ gb277) := ⟨h15_⟩
                replace HO272 : Aside0 (Kd.R k25 25 w41 w.heap.size (fun k_ => k_ ≠ gb266 ∧ k_ ≠ gb267 ∧ k_ ≠ gb268 ∧ k_ ≠ gb277 ∧ k_ ≠ gb290) (.slice Ao30 y270.length co30) y270) := ⟨h0_⟩
                replace BK266 : Aside0 (w41.heap[gb266]? = some (.cells #[.int .u64 a0_0, .int .u64 a0_1, .int .u64 a0_2] 25 (0, 0))) := ⟨h1_⟩
                replace BK267 : Aside0 (w41.heap[gb267]? = some (.cells #[.int .u64 a1_0, .int .u64 a1_1, .int .u64 a1_2] 25 (0, 0))) := ⟨h2_⟩
                replace BK268 : Aside0 (w41.heap[gb268]? = some (.cells #[.int .u64 a2_0, .int .u64 a2_1, .int .u64 a2_2] 25 (0, 0))) := ⟨h3_⟩
                replace BK277 : Aside0 (w41.heap[gb277]? = some (.cells #[.int .u64 t273, .int .u64 t274, .int .u64 t275] 25 (0, 0))) := ⟨h4_⟩
                replace HB : Aside0 (Below w.heap.size w w41) := ⟨h16_⟩
                clear h0_ h1_ h2_ h3_ h4_ h5_ h6_ h7_ h8_ h9_ h10_ h11_ h12_ h13_ h14_ h15_ h16_
                have hHeld : w41.cell? ⟨gb266, 0, none⟩ = some (.int .u64 a0_0) ∧ w41.cell? ⟨gb266, 1, none⟩ = some (.int .u64 a0_1) ∧ w41.cell? ⟨gb266, 2, none⟩ = some (.int .u64 a0_2) ∧ w41.cell? ⟨gb267, 0, none⟩ = some (.int .u64 a1_0) ∧ w41.cell? ⟨gb267, 1, none⟩ = some (.int .u64 a1_1) ∧ w41.cell? ⟨gb267, 2, none⟩ = some (.int .u64 a1_2) ∧ w41.cell? ⟨gb268, 0, none⟩ = some (.int .u64 a2_0) ∧ w41.cell? ⟨gb268, 1, none⟩ = some (.int .u64 a2_1) ∧ w41.cell? ⟨gb268, 2, none⟩ = some (.int .u64 a2_2) := hS_
                refine norm_ (a' := ?_) ?_ ?_
                rotate_left
                ·simp only [putAll, Act.put, List.setIfInBounds_toArray, List.set_cons_zero, List.set_cons_succ]
                 rfl
                refine two_ (i := 4) (j := 11) (Ni := some 25) (Nj := some 11) #[true, true, true, true, true, true, true, true, false, false, true, false, false, false] #[true, true, true, true, false, true, true, true, false, false, true, true, false, false] rfl rfl rfl rfl (two_of HT_.out (by kernel_rfl)) (by decide) (by decide) (fun K hK => ?_) (fun K hK => ?_)
                ·skip
                 refine goes_ Try.func22 (by kernel_rfl) rfl #[.agg #[.int .u64 t278, .int .u64 t279, .int .u64 t280], .agg #[.int .u64 a2_0, .int .u64 a2_1, .int .u64 a2_2]] (by rfl) rfl rfl (by (try simp only [List.map_toArray, List.map_cons, List.map_nil]); first | done | rfl | (simp only [List.length_drop, List.length_take]; rfl)) ?_
                 with_reducible refine (tally_Add.calls t278 t279 t280 a2_0 a2_1 a2_2 t281 t282 t283 _ A7.out).mono ?_
                 rintro e w42 ⟨rfl, hb⟩
                 refine ⟨_, rfl, ?_⟩
                 replace HO272 := Aside0.mk (Kd.R_below (by (with_reducible repeat (first | apply Kd.R_alloc | apply Kd.R_drewN | apply Kd.R_drew)); exact HO272.out) hb)
                 replace BK266 := bb_ BK266 hb
                 replace BK267 := bb_ BK267 hb
                 replace BK268 := bb_ BK268 hb
                 replace BK277 := bb_ BK277 hb
                 replace BK290 := bb_ BK290 hb
                 replace HB := Aside0.mk (below_step (by repeat (first | (with_reducible first | exact HB.out | apply below_alloc | apply pw_below_drewN | apply below_drew1 | refine below_set ?_ (Aside0.out (by assumption))) | exact HB.out)) hb)
                 (try clear hb)
                 (try clear hb2)
                 (try clear hk)
                 (try clear hi)
                 refine hK.out _ _ ⟨(blk_cell BK266.out 0).trans rfl, (blk_cell BK266.out 1).trans rfl, (blk_cell BK266.out 2).trans rfl, (blk_cell BK267.out 0).trans rfl, (blk_cell BK267.out 1).trans rfl, (blk_cell BK267.out 2).trans rfl, (blk_cell BK268.out 0).trans rfl, (blk_cell BK268.out 1).trans rfl, (blk_cell BK268.out 2).trans rfl⟩ (fun hHeld => ?_)
                 clear hK K
                 refine norm_ (a' := ?_) ?_ ?_
                 rotate_left
                 ·show Act.put _ (some 25) _ = _
                  simp only [Act.put, List.setIfInBounds_toArray, List.set_cons_zero, List.set_cons_succ, i64_w, i32_w]
                  rfl
                 exact norm_ (by first | (simp only [putAll, Act.put, List.setIfInBounds_toArray, List.set_cons_zero, List.set_cons_succ]; done) | (simp only [putAll, Act.put, List.setIfInBounds_toArray, List.set_cons_zero, List.set_cons_succ]; rfl)) (hJ2_4_10 (gb290) _ ⟨hHeld, (by (with_reducible repeat (first | apply Kd.R_alloc | apply Kd.R_drewN | apply Kd.R_drew)); exact HO272.out), (bq_ BK266), (bq_ BK267), (bq_ BK268), (bq_ BK277), (bq_ BK290), GW290.out, GE290.out, NB266_290.out, NB290_266.out, NB267_290.out, NB290_267.out, NB268_290.out, NB290_268.out, NB277_290.out, NB290_277.out, (by repeat (first | (with_reducible first | exact HB.out | apply below_alloc | apply pw_below_drewN | apply below_drew1 | refine below_set ?_ (Aside0.out (by assumption))) | exact HB.out))⟩)
                ·skip
                 refine box_step ?hg (N := 11) ?hd (cs := #[.int .u64 0, .int .u64 0, .int .u64 0]) (t := 25) ?hr ?_; (case hd => rfl); (case hg => rfl); (case hr => first | (go_simp; done) | (go_simp; rfl))
                 intro gb291 hg w42 hbox hb
                 have BK291 := Aside0.mk (hbox)
                 have GW291 := Aside0.mk ((by rw [hg]; exact (below_size (by repeat (first | (with_reducible first | exact HB.out | apply below_alloc | apply pw_below_drewN | apply below_drew1 | refine below_set ?_ (Aside0.out (by assumption))) | exact HB.out))) : w.heap.size ≤ gb291))
                 have GE291 := GW291
                 have NB266_291 := bn_ BK266 hg
                 have NB291_266 := bm_ BK266 hg
                 have NB267_291 := bn_ BK267 hg
                 have NB291_267 := bm_ BK267 hg
                 have NB268_291 := bn_ BK268 hg
                 have NB291_268 := bm_ BK268 hg
                 have NB277_291 := bn_ BK277 hg
                 have NB291_277 := bm_ BK277 hg
                 have NB290_291 := bn_ BK290 hg
                 have NB291_290 := bm_ BK290 hg
                 replace HO272 := Aside0.mk (Kd.R_below (Kd.R_elderB (by (with_reducible repeat (first | apply Kd.R_alloc | apply Kd.R_drewN | apply Kd.R_drew)); exact HO272.out) gb291 (Nat.le_of_eq hg.symm)) hb)
                 replace BK266 := bb_ BK266 hb
                 replace BK267 := bb_ BK267 hb
                 replace BK268 := bb_ BK268 hb
                 replace BK277 := bb_ BK277 hb
                 replace BK290 := bb_ BK290 hb
                 replace HB := Aside0.mk (below_step (by repeat (first | (with_reducible first | exact HB.out | apply below_alloc | apply pw_below_drewN | apply below_drew1 | refine below_set ?_ (Aside0.out (by assumption))) | exact HB.out)) hb)
                 clear hb hbox hg
                 refine hK.out _ _ ⟨(blk_cell BK266.out 0).trans rfl, (blk_cell BK266.out 1).trans rfl, (blk_cell BK266.out 2).trans rfl, (blk_cell BK267.out 0).trans rfl, (blk_cell BK267.out 1).trans rfl, (blk_cell BK267.out 2).trans rfl, (blk_cell BK268.out 0).trans rfl, (blk_cell BK268.out 1).trans rfl, (blk_cell BK268.out 2).trans rfl⟩ (fun hHeld => ?_)
                 clear hK K
                 refine norm_ (a' := ?_) ?_ ?_
                 rotate_left
                 ·show Act.put _ (some 11) _ = _
                  simp only [Act.put, List.setIfInBounds_toArray, List.set_cons_zero, List.set_cons_succ, i64_w, i32_w]
                  rfl
                 exact norm_ (by first | (simp only [putAll, Act.put, List.setIfInBounds_toArray, List.set_cons_zero, List.set_cons_succ]; done) | (simp only [putAll, Act.put, List.setIfInBounds_toArray, List.set_cons_zero, List.set_cons_succ]; rfl)) (hJ2_10_11 (gb290, gb291) _ ⟨hHeld, (by (with_reducible repeat (first | apply Kd.R_alloc | apply Kd.R_drewN | apply Kd.R_drew)); exact Kd.R_mono HO272.out (fun _ hk => ⟨hk.1.1, ⟨hk.1.2.1, ⟨hk.1.2.2.1, ⟨hk.1.2.2.2.1, ⟨hk.1.2.2.2.2, hk.2⟩⟩⟩⟩⟩)), (bq_ BK266), (bq_ BK267), (bq_ BK268), (bq_ BK277), (bq_ BK290), (bq_ BK291), GW290.out, GE290.out, NB266_290.out, NB290_266.out, NB267_290.out, NB290_267.out, NB268_290.out, NB290_268.out, NB277_290.out, NB290_277.out, NB291_290.out, NB290_291.out, GW291.out, GE291.out, NB266_291.out, NB291_266.out, NB267_291.out, NB291_267.out, NB268_291.out, NB291_268.out, NB277_291.out, NB291_277.out, (by repeat (first | (with_reducible first | exact HB.out | apply below_alloc | apply pw_below_drewN | apply below_drew1 | refine below_set ?_ (Aside0.out (by assumption))) | exact HB.out))⟩)
              ·skip
               rintro _ w41 ⟨hS_, h0_, h1_, h2_, h3_, h4_, h5_⟩
               replace HO272 : Aside0 (Kd.R k25 25 w41 w.heap.size (fun k_ => k_ ≠ gb266 ∧ k_ ≠ gb267 ∧ k_ ≠ gb268 ∧ k_ ≠ gb277) (.slice Ao30 y270.length co30) y270) := ⟨h0_⟩
               replace BK266 : Aside0 (w41.heap[gb266]? = some (.cells #[.int .u64 a0_0, .int .u64 a0_1, .int .u64 a0_2] 25 (0, 0))) := ⟨h1_⟩
               replace BK267 : Aside0 (w41.heap[gb267]? = some (.cells #[.int .u64 a1_0, .int .u64 a1_1, .int .u64 a1_2] 25 (0, 0))) := ⟨h2_⟩
               replace BK268 : Aside0 (w41.heap[gb268]? = some (.cells #[.int .u64 a2_0, .int .u64 a2_1, .int .u64 a2_2] 25 (0, 0))) := ⟨h3_⟩
               replace BK277 : Aside0 (w41.heap[gb277]? = some (.cells #[.int .u64 t273, .int .u64 t274, .int .u64 t275] 25 (0, 0))) := ⟨h4_⟩
               replace HB : Aside0 (Below w.heap.size w w41) := ⟨h5_⟩
               clear h0_ h1_ h2_ h3_ h4_ h5_
               have hHeld : w41.cell? ⟨gb266, 0, none⟩ = some (.int .u64 a0_0) ∧ w41.cell? ⟨gb266, 1, none⟩ = some (.int .u64 a0_1) ∧ w41.cell? ⟨gb266, 2, none⟩ = some (.int .u64 a0_2) ∧ w41.cell? ⟨gb267, 0, none⟩ = some (.int .u64 a1_0) ∧ w41.cell? ⟨gb267, 1, none⟩ = some (.int .u64 a1_1) ∧ w41.cell? ⟨gb267, 2, none⟩ = some (.int .u64 a1_2) ∧ w41.cell? ⟨gb268, 0, none⟩ = some (.int .u64 a2_0) ∧ w41.cell? ⟨gb268, 1, none⟩ = some (.int .u64 a2_1) ∧ w41.cell? ⟨gb268, 2, none⟩ = some (.int .u64 a2_2) := hS_
               refine norm_ (a' := ?_) ?_ ?_
               rotate_left
               ·simp only [putAll, Act.put, List.setIfInBounds_toArray, List.set_cons_zero, List.set_cons_succ]
                rfl
               refine three_ (i := 8) (j := 10) (k := 11) (Ni := some 29) (Nj := some 10) (Nk := some 11) #[true, true, true, true, true, true, true, true, true, false, false, false, false, false] #[true, true, true, true, true, true, true, true, false, false, true, false, false, false] #[true, true, true, true, true, true, true, true, false, false, false, true, false, false] rfl rfl rfl rfl rfl rfl (three_of HT_.out (by kernel_rfl)) (by decide) (by decide) (by decide) (fun K hK => ?_) (fun K hK => ?_) (fun K hK => ?_)
               ·skip
                refine goes_ Try.func22 (by kernel_rfl) rfl #[.agg #[.int .u64 a1_0, .int .u64 a1_1, .int .u64 a1_2], .agg #[.int .u64 a2_0, .int .u64 a2_1, .int .u64 a2_2]] (by rfl) rfl rfl (by (try simp only [List.map_toArray, List.map_cons, List.map_nil]); first | done | rfl | (simp only [List.length_drop, List.length_take]; rfl)) ?_
                with_reducible refine (tally_Add.calls a1_0 a1_1 a1_2 a2_0 a2_1 a2_2 t284 t285 t286 _ A8.out).mono ?_
                rintro e w42 ⟨rfl, hb⟩
                refine ⟨_, rfl, ?_⟩
                replace HO272 := Aside0.mk (Kd.R_below (by (with_reducible repeat (first | apply Kd.R_alloc | apply Kd.R_drewN | apply Kd.R_drew)); exact HO272.out) hb)
                replace BK266 := bb_ BK266 hb
                replace BK267 := bb_ BK267 hb
                replace BK268 := bb_ BK268 hb
                replace BK277 := bb_ BK277 hb
                replace HB := Aside0.mk (below_step (by repeat (first | (with_reducible first | exact HB.out | apply below_alloc | apply pw_below_drewN | apply below_drew1 | refine below_set ?_ (Aside0.out (by assumption))) | exact HB.out)) hb)
                (try clear hb)
                (try clear hb2)
                (try clear hk)
                (try clear hi)
                refine hK.out _ _ ⟨(blk_cell BK266.out 0).trans rfl, (blk_cell BK266.out 1).trans rfl, (blk_cell BK266.out 2).trans rfl, (blk_cell BK267.out 0).trans rfl, (blk_cell BK267.out 1).trans rfl, (blk_cell BK267.out 2).trans rfl, (blk_cell BK268.out 0).trans rfl, (blk_cell BK268.out 1).trans rfl, (blk_cell BK268.out 2).trans rfl⟩ (fun hHeld => ?_)
                clear hK K
                refine norm_ (a' := ?_) ?_ ?_
                rotate_left
                ·show Act.put _ (some 29) _ = _
                 simp only [Act.put, List.setIfInBounds_toArray, List.set_cons_zero, List.set_cons_succ, i64_w, i32_w]
                 rfl
                exact norm_ (by first | (simp only [putAll, Act.put, List.setIfInBounds_toArray, List.set_cons_zero, List.set_cons_succ]; done) | (simp only [putAll, Act.put, List.setIfInBounds_toArray, List.set_cons_zero, List.set_cons_succ]; rfl)) (hJ2_4_8 () _ ⟨hHeld, (by (with_reducible repeat (first | apply Kd.R_alloc | apply Kd.R_drewN | apply Kd.R_drew)); exact HO272.out), (bq_ BK266), (bq_ BK267), (bq_ BK268), (bq_ BK277), (by repeat (first | (with_reducible first | exact HB.out | apply below_alloc | apply pw_below_drewN | apply below_drew1 | refine below_set ?_ (Aside0.out (by assumption))) | exact HB.out))⟩)
               ·skip
                refine box_step ?hg (N := 10) ?hd (cs := #[.int .u64 0, .int .u64 0, .int .u64 0]) (t := 25) ?hr ?_; (case hd => rfl); (case hg => rfl); (case hr => first | (go_simp; done) | (go_simp; rfl))
                intro gb290 hg w42 hbox hb
                have BK290 := Aside0.mk (hbox)
                have GW290 := Aside0.mk ((by rw [hg]; exact (below_size (by repeat (first | (with_reducible first | exact HB.out | apply below_alloc | apply pw_below_drewN | apply below_drew1 | refine below_set ?_ (Aside0.out (by assumption))) | exact HB.out))) : w.heap.size ≤ gb290))
                have GE290 := GW290
                have NB266_290 := bn_ BK266 hg
                have NB290_266 := bm_ BK266 hg
                have NB267_290 := bn_ BK267 hg
                have NB290_267 := bm_ BK267 hg
                have NB268_290 := bn_ BK268 hg
                have NB290_268 := bm_ BK268 hg
                have NB277_290 := bn_ BK277 hg
                have NB290_277 := bm_ BK277 hg
                replace HO272 := Aside0.mk (Kd.R_below (Kd.R_elderB (by (with_reducible repeat (first | apply Kd.R_alloc | apply Kd.R_drewN | apply Kd.R_drew)); exact HO272.out) gb290 (Nat.le_of_eq hg.symm)) hb)
                replace BK266 := bb_ BK266 hb
                replace BK267 := bb_ BK267 hb
                replace BK268 := bb_ BK268 hb
                replace BK277 := bb_ BK277 hb
                replace HB := Aside0.mk (below_step (by repeat (first | (with_reducible first | exact HB.out | apply below_alloc | apply pw_below_drewN | apply below_drew1 | refine below_set ?_ (Aside0.out (by assumption))) | exact HB.out)) hb)
                clear hb hbox hg
                refine hK.out _ _ ⟨(blk_cell BK266.out 0).trans rfl, (blk_cell BK266.out 1).trans rfl, (blk_cell BK266.out 2).trans rfl, (blk_cell BK267.out 0).trans rfl, (blk_cell BK267.out 1).trans rfl, (blk_cell BK267.out 2).trans rfl, (blk_cell BK268.out 0).trans rfl, (blk_cell BK268.out 1).trans rfl, (blk_cell BK268.out 2).trans rfl⟩ (fun hHeld => ?_)
                clear hK K
                refine norm_ (a' := ?_) ?_ ?_
                rotate_left
                ·show Act.put _ (some 10) _ = _
                 simp only [Act.put, List.setIfInBounds_toArray, List.set_cons_zero, List.set_cons_succ, i64_w, i32_w]
                 rfl
                exact norm_ (by first | (simp only [putAll, Act.put, List.setIfInBounds_toArray, List.set_cons_zero, List.set_cons_succ]; done) | (simp only [putAll, Act.put, List.setIfInBounds_toArray, List.set_cons_zero, List.set_cons_succ]; rfl)) (hJ2_4_10 (gb290) _ ⟨hHeld, (by (with_reducible repeat (first | apply Kd.R_alloc | apply Kd.R_drewN | apply Kd.R_drew)); exact Kd.R_mono HO272.out (fun _ hk => ⟨hk.1.1, ⟨hk.1.2.1, ⟨hk.1.2.2.1, ⟨hk.1.2.2.2, hk.2⟩⟩⟩⟩)), (bq_ BK266), (bq_ BK267), (bq_ BK268), (bq_ BK277), (bq_ BK290), GW290.out, GE290.out, NB266_290.out, NB290_266.out, NB267_290.out, NB290_267.out, NB268_290.out, NB290_268.out, NB277_290.out, NB290_277.out, (by repeat (first | (with_reducible first | exact HB.out | apply below_alloc | apply pw_below_drewN | apply below_drew1 | refine below_set ?_ (Aside0.out (by assumption))) | exact HB.out))⟩)
               ·skip
                refine box_step ?hg (N := 11) ?hd (cs := #[.int .u64 0, .int .u64 0, .int .u64 0]) (t := 25) ?hr ?_; (case hd => rfl); (case hg => rfl); (case hr => first | (go_simp; done) | (go_simp; rfl))
                intro gb291 hg w42 hbox hb
                have BK291 := Aside0.mk (hbox)
                have GW291 := Aside0.mk ((by rw [hg]; exact (below_size (by repeat (first | (with_reducible first | exact HB.out | apply below_alloc | apply pw_below_drewN | apply below_drew1 | refine below_set ?_ (Aside0.out (by assumption))) | exact HB.out))) : w.heap.size ≤ gb291))
                have GE291 := GW291
                have NB266_291 := bn_ BK266 hg
                have NB291_266 := bm_ BK266 hg
                have NB267_291 := bn_ BK267 hg
                have NB291_267 := bm_ BK267 hg
                have NB268_291 := bn_ BK268 hg
                have NB291_268 := bm_ BK268 hg
                have NB277_291 := bn_ BK277 hg
                have NB291_277 := bm_ BK277 hg
                replace HO272 := Aside0.mk (Kd.R_below (Kd.R_elderB (by (with_reducible repeat (first | apply Kd.R_alloc | apply Kd.R_drewN | apply Kd.R_drew)); exact HO272.out) gb291 (Nat.le_of_eq hg.symm)) hb)
                replace BK266 := bb_ BK266 hb
                replace BK267 := bb_ BK267 hb
                replace BK268 := bb_ BK268 hb
                replace BK277 := bb_ BK277 hb
                replace HB := Aside0.mk (below_step (by repeat (first | (with_reducible first | exact HB.out | apply below_alloc | apply pw_below_drewN | apply below_drew1 | refine below_set ?_ (Aside0.out (by assumption))) | exact HB.out)) hb)
                clear hb hbox hg
                refine hK.out _ _ ⟨(blk_cell BK266.out 0).trans rfl, (blk_cell BK266.out 1).trans rfl, (blk_cell BK266.out 2).trans rfl, (blk_cell BK267.out 0).trans rfl, (blk_cell BK267.out 1).trans rfl, (blk_cell BK267.out 2).trans rfl, (blk_cell BK268.out 0).trans rfl, (blk_cell BK268.out 1).trans rfl, (blk_cell BK268.out 2).trans rfl⟩ (fun hHeld => ?_)
                clear hK K
                refine norm_ (a' := ?_) ?_ ?_
                rotate_left
                ·show Act.put _ (some 11) _ = _
                 simp only [Act.put, List.setIfInBounds_toArray, List.set_cons_zero, List.set_cons_succ, i64_w, i32_w]
                 rfl
                exact norm_ (by first | (simp only [putAll, Act.put, List.setIfInBounds_toArray, List.set_cons_zero, List.set_cons_succ]; done) | (simp only [putAll, Act.put, List.setIfInBounds_toArray, List.set_cons_zero, List.set_cons_succ]; rfl)) (hJ2_4_11 (gb291) _ ⟨hHeld, (by (with_reducible repeat (first | apply Kd.R_alloc | apply Kd.R_drewN | apply Kd.R_drew)); exact Kd.R_mono HO272.out (fun _ hk => ⟨hk.1.1, ⟨hk.1.2.1, ⟨hk.1.2.2.1, ⟨hk.1.2.2.2, hk.2⟩⟩⟩⟩)), (bq_ BK266), (bq_ BK267), (bq_ BK268), (bq_ BK277), (bq_ BK291), GW291.out, GE291.out, NB266_291.out, NB291_266.out, NB267_291.out, NB291_267.out, NB268_291.out, NB291_268.out, NB277_291.out, NB291_277.out, (by repeat (first | (with_reducible first | exact HB.out | apply below_alloc | apply pw_below_drewN | apply below_drew1 | refine below_set ?_ (Aside0.out (by assumption))) | exact HB.out))⟩)
             ·skip
              rintro ⟨gb290, gb291⟩ w42 ⟨hS_, h0_, h1_, h2_, h3_, h4_, h5_, h6_, h7_, h8_, h9_, h10_, h11_, h12_, h13_, h14_, h15_, h16_, h17_, h18_, h19_, h20_, h21_, h22_, h23_, h24_, h25_, h26_, h27_, h28_, h29_⟩
              have BK290 : Aside0 (w42.heap[gb290]? = some (.cells #[.int .u64 0, .int .u64 0, .int .u64 0] 25 (0, 0))) := ⟨h5_⟩
              have BK291 : Aside0 (w42.heap[gb291]? = some (.cells #[.int .u64 0, .int .u64 0, .int .u64 0] 25 (0, 0))) := ⟨h6_⟩
              have GW290 : Aside0 (w.heap.size ≤ gb290) := ⟨h7_⟩
              have GE290 : Aside0 (w.heap.size ≤ gb290) := ⟨h8_⟩
              have NB266_290 : Aside0 (gb266 ≠ gb290) := ⟨h9_⟩
              have NB290_266 : Aside0 (gb290 ≠ gb266) := ⟨h10_⟩
              have NB267_290 : Aside0 (gb267 ≠ gb290) := ⟨h11_⟩
              have NB290_267 : Aside0 (gb290 ≠ gb267) := ⟨h12_⟩
              have NB268_290 : Aside0 (gb268 ≠ gb290) := ⟨h13_⟩
              have NB290_268 : Aside0 (gb290 ≠ gb268) := ⟨h14_⟩
              have NB277_290 : Aside0 (gb277 ≠ gb290) := ⟨h15_⟩
              have NB290_277 : Aside0 (gb290 ≠ gb277) := ⟨h16_⟩
              have NB291_290 : Aside0 (gb291 ≠ gb290) := ⟨h17_⟩
              have NB290_291 : Aside0 (gb290 ≠ gb291) := ⟨h18_⟩
              have GW291 : Aside0 (w.heap.size ≤ gb291) := ⟨h19_⟩
              have GE291 : Aside0 (w.heap.size ≤ gb291) := ⟨h20_⟩
              have NB266_291 : Aside0 (gb266 ≠ gb291) := ⟨h21_⟩
              have NB291_266 : Aside0 (gb291 ≠ gb266) := ⟨h22_⟩
              have NB267_291 : Aside0 (gb267 ≠ gb291) := ⟨h23_⟩
              have NB291_267 : Aside0 (gb291 ≠ gb267) := ⟨h24_⟩
              have NB268_291 : Aside0 (gb268 ≠ gb291) := ⟨h25_⟩
              have NB291_268 : Aside0 (gb291 ≠ gb268) := ⟨h26_⟩
              have NB277_291 : Aside0 (gb277 ≠ gb291) := ⟨h27_⟩
              have NB291_277 : Aside0 (gb291 ≠ gb277) := ⟨h28_⟩
              replace HO272 : Aside0 (Kd.R k25 25 w42 w.heap.size (fun k_ => k_ ≠ gb266 ∧ k_ ≠ gb267 ∧ k_ ≠ gb268 ∧ k_ ≠ gb277 ∧ k_ ≠ gb290 ∧ k_ ≠ gb291) (.slice Ao30 y270.length co30) y270) := ⟨h0_⟩
              replace BK266 : Aside0 (w42.heap[gb266]? = some (.cells #[.int .u64 a0_0, .int .u64 a0_1, .int .u64 a0_2] 25 (0, 0))) := ⟨h1_⟩
              replace BK267 : Aside0 (w42.heap[gb267]? = some (.cells #[.int .u64 a1_0, .int .u64 a1_1, .int .u64 a1_2] 25 (0, 0))) := ⟨h2_⟩
              replace BK268 : Aside0 (w42.heap[gb268]? = some (.cells #[.int .u64 a2_0, .int .u64 a2_1, .int .u64 a2_2] 25 (0, 0))) := ⟨h3_⟩
              replace BK277 : Aside0 (w42.heap[gb277]? = some (.cells #[.int .u64 t273, .int .u64 t274, .int .u64 t275] 25 (0, 0))) := ⟨h4_⟩
              replace HB : Aside0 (Below w.heap.size w w42) := ⟨h29_⟩
              clear h0_ h1_ h2_ h3_ h4_ h5_ h6_ h7_ h8_ h9_ h10_ h11_ h12_ h13_ h14_ h15_ h16_ h17_ h18_ h19_ h20_ h21_ h22_ h23_ h24_ h25_ h26_ h27_ h28_ h29_
              have hHeld : w42.cell? ⟨gb266, 0, none⟩ = some (.int .u64 a0_0) ∧ w42.cell? ⟨gb266, 1, none⟩ = some (.int .u64 a0_1) ∧ w42.cell? ⟨gb266, 2, none⟩ = some (.int .u64 a0_2) ∧ w42.cell? ⟨gb267, 0, none⟩ = some (.int .u64 a1_0) ∧ w42.cell? ⟨gb267, 1, none⟩ = some (.int .u64 a1_1) ∧ w42.cell? ⟨gb267, 2, none⟩ = some (.int .u64 a1_2) ∧ w42.cell? ⟨gb268, 0, none⟩ = some (.int .u64 a2_0) ∧ w42.cell? ⟨gb268, 1, none⟩ = some (.int .u64 a2_1) ∧ w42.cell? ⟨gb268, 2, none⟩ = some (.int .u64 a2_2) := hS_
              refine norm_ (a' := ?_) ?_ ?_
              rotate_left
              ·simp only [putAll, Act.put, List.setIfInBounds_toArray, List.set_cons_zero, List.set_cons_succ]
               rfl
              refine one_ (i := 4) (N := some 25) #[true, true, true, true, true, true, true, true, false, false, true, true, false, false] rfl rfl (one_of HT_.out (by kernel_rfl)) (by decide) (fun K hK => ?_)
              refine goes_ Try.func22 (by kernel_rfl) rfl #[.agg #[.int .u64 t278, .int .u64 t279, .int .u64 t280], .agg #[.int .u64 a2_0, .int .u64 a2_1, .int .u64 a2_2]] (by rfl) rfl rfl (by (try simp only [List.map_toArray, List.map_cons, List.map_nil]); first | done | rfl | (simp only [List.length_drop, List.length_take]; rfl)) ?_
              with_reducible refine (tally_Add.calls t278 t279 t280 a2_0 a2_1 a2_2 t281 t282 t283 _ A7.out).mono ?_
              rintro e w43 ⟨rfl, hb⟩
              refine ⟨_, rfl, ?_⟩
              replace HO272 := Aside0.mk (Kd.R_below (by (with_reducible repeat (first | apply Kd.R_alloc | apply Kd.R_drewN | apply Kd.R_drew)); exact HO272.out) hb)
              replace BK266 := bb_ BK266 hb
              replace BK267 := bb_ BK267 hb
              replace BK268 := bb_ BK268 hb
              replace BK277 := bb_ BK277 hb
              replace BK290 := bb_ BK290 hb
              replace BK291 := bb_ BK291 hb
              replace HB := Aside0.mk (below_step (by repeat (first | (with_reducible first | exact HB.out | apply below_alloc | apply pw_below_drewN | apply below_drew1 | refine below_set ?_ (Aside0.out (by assumption))) | exact HB.out)) hb)
              (try clear hb)
              (try clear hb2)
              (try clear hk)
              (try clear hi)
              refine hK.out _ _ ⟨(blk_cell BK266.out 0).trans rfl, (blk_cell BK266.out 1).trans rfl, (blk_cell BK266.out 2).trans rfl, (blk_cell BK267.out 0).trans rfl, (blk_cell BK267.out 1).trans rfl, (blk_cell BK267.out 2).trans rfl, (blk_cell BK268.out 0).trans rfl, (blk_cell BK268.out 1).trans rfl, (blk_cell BK268.out 2).trans rfl⟩ (fun hHeld => ?_)
              clear hK K
              refine norm_ (a' := ?_) ?_ ?_
              rotate_left
              ·show Act.put _ (some 25) _ = _
               simp only [Act.put, List.setIfInBounds_toArray, List.set_cons_zero, List.set_cons_succ, i64_w, i32_w]
               rfl
              exact norm_ (by first | (simp only [putAll, Act.put, List.setIfInBounds_toArray, List.set_cons_zero, List.set_cons_succ]; done) | (simp only [putAll, Act.put, List.setIfInBounds_toArray, List.set_cons_zero, List.set_cons_succ]; rfl)) (hJ2_4_10_11 (gb290, gb291) _ ⟨hHeld, (by (with_reducible repeat (first | apply Kd.R_alloc | apply Kd.R_drewN | apply Kd.R_drew)); exact HO272.out), (bq_ BK266), (bq_ BK267), (bq_ BK268), (bq_ BK277), (bq_ BK290), (bq_ BK291), GW290.out, GE290.out, NB266_290.out, NB290_266.out, NB267_290.out, NB290_267.out, NB268_290.out, NB290_268.out, NB277_290.out, NB290_277.out, NB291_290.out, NB290_291.out, GW291.out, GE291.out, NB266_291.out, NB291_266.out, NB267_291.out, NB291_267.out, NB268_291.out, NB291_268.out, NB277_291.out, NB291_277.out, (by repeat (first | (with_reducible first | exact HB.out | apply below_alloc | apply pw_below_drewN | apply below_drew1 | refine below_set ?_ (Aside0.out (by assumption))) | exact HB.out))⟩)
            ·skip
             rintro gb291 w42 ⟨hS_, h0_, h1_, h2_, h3_, h4_, h5_, h6_, h7_, h8_, h9_, h10_, h11_, h12_, h13_, h14_, h15_, h16_⟩
             have BK291 : Aside0 (w42.heap[gb291]? = some (.cells #[.int .u64 0, .int .u64 0, .int .u64 0] 25 (0, 0))) := ⟨h5_⟩
             have GW291 : Aside0 (w.heap.size ≤ gb291) := ⟨h6_⟩
             have GE291 : Aside0 (w.heap.size ≤ gb291) := ⟨h7_⟩
             have NB266_291 : Aside0 (gb266 ≠ gb291) := ⟨h8_⟩
             have NB291_266 : Aside0 (gb291 ≠ gb266) := ⟨h9_⟩
             have NB267_291 : Aside0 (gb267 ≠ gb291) := ⟨h10_⟩
             have NB291_267 : Aside0 (gb291 ≠ gb267) := ⟨h11_⟩
             have NB268_291 : Aside0 (gb268 ≠ gb291) := ⟨h12_⟩
             have NB291_268 : Aside0 (gb291 ≠ gb268) := ⟨h13_⟩
             have NB277_291 : Aside0 (gb277 ≠ gb291) := ⟨h14_⟩
             have NB291_277 : Aside0 (gb291 ≠ gb277) := ⟨h15_⟩
             replace HO272 : Aside0 (Kd.R k25 25 w42 w.heap.size (fun k_ => k_ ≠ gb266 ∧ k_ ≠ gb267 ∧ k_ ≠ gb268 ∧ k_ ≠ gb277 ∧ k_ ≠ gb291) (.slice Ao30 y270.length co30) y270) := ⟨h0_⟩
             replace BK266 : Aside0 (w42.heap[gb266]? = some (.cells #[.int .u64 a0_0, .int .u64 a0_1, .int .u64 a0_2] 25 (0, 0))) := ⟨h1_⟩
             replace BK267 : Aside0 (w42.heap[gb267]? = some (.cells #[.int .u64 a1_0, .int .u64 a1_1, .int .u64 a1_2] 25 (0, 0))) := ⟨h2_⟩
             replace BK268 : Aside0 (w42.heap[gb268]? = some (.cells #[.int .u64 a2_0, .int .u64 a2_1, .int .u64 a2_2] 25 (0, 0))) := ⟨h3_⟩
             replace BK277 : Aside0 (w42.heap[gb277]? = some (.cells #[.int .u64 t273, .int .u64 t274, .int .u64 t275] 25 (0, 0))) := ⟨h4_⟩
             replace HB : Aside0 (Below w.heap.size w w42) := ⟨h16_⟩
             clear h0_ h1_ h2_ h3_ h4_ h5_ h6_ h7_ h8_ h9_ h10_ h11_ h12_ h13_ h14_ h15_ h16_
             have hHeld : w42.cell? ⟨gb266, 0, none⟩ = some (.int .u64 a0_0) ∧ w42.cell? ⟨gb266, 1, none⟩ = some (.int .u64 a0_1) ∧ w42.cell? ⟨gb266, 2, none⟩ = some (.int .u64 a0_2) ∧ w42.cell? ⟨gb267, 0, none⟩ = some (.int .u64 a1_0) ∧ w42.cell? ⟨gb267, 1, none⟩ = some (.int .u64 a1_1) ∧ w42.cell? ⟨gb267, 2, none⟩ = some (.int .u64 a1_2) ∧ w42.cell? ⟨gb268, 0, none⟩ = some (.int .u64 a2_0) ∧ w42.cell? ⟨gb268, 1, none⟩ = some (.int .u64 a2_1) ∧ w42.cell? ⟨gb268, 2, none⟩ = some (.int .u64 a2_2) := hS_
             refine norm_ (a' := ?_) ?_ ?_
             rotate_left
             ·simp only [putAll, Act.put, List.setIfInBounds_toArray, List.set_cons_zero, List.set_cons_succ]
              rfl
             refine two_ (i := 8) (j := 10) (Ni := some 29) (Nj := some 10) #[true, true, true, true, true, true, true, true, true, false, false, true, false, false] #[true, true, true, true, true, true, true, true, false, false, true, true, false, false] rfl rfl rfl rfl (two_of HT_.out (by kernel_rfl)) (by decide) (by decide) (fun K hK => ?_) (fun K hK => ?_)
             ·skip
              refine goes_ Try.func22 (by kernel_rfl) rfl #[.agg #[.int .u64 a1_0, .int .u64 a1_1, .int .u64 a1_2], .agg #[.int .u64 a2_0, .int .u64 a2_1, .int .u64 a2_2]] (by rfl) rfl rfl (by (try simp only [List.map_toArray, List.map_cons, List.map_nil]); first | done | rfl | (simp only [List.length_drop, List.length_take]; rfl)) ?_
              with_reducible refine (tally_Add.calls a1_0 a1_1 a1_2 a2_0 a2_1 a2_2 t284 t285 t286 _ A8.out).mono ?_
              rintro e w43 ⟨rfl, hb⟩
              refine ⟨_, rfl, ?_⟩
              replace HO272 := Aside0.mk (Kd.R_below (by (with_reducible repeat (first | apply Kd.R_alloc | apply Kd.R_drewN | apply Kd.R_drew)); exact HO272.out) hb)
              replace BK266 := bb_ BK266 hb
              replace BK267 := bb_ BK267 hb
              replace BK268 := bb_ BK268 hb
              replace BK277 := bb_ BK277 hb
              replace BK291 := bb_ BK291 hb
              replace HB := Aside0.mk (below_step (by repeat (first | (with_reducible first | exact HB.out | apply below_alloc | apply pw_below_drewN | apply below_drew1 | refine below_set ?_ (Aside0.out (by assumption))) | exact HB.out)) hb)
              (try clear hb)
              (try clear hb2)
              (try clear hk)
              (try clear hi)
              refine hK.out _ _ ⟨(blk_cell BK266.out 0).trans rfl, (blk_cell BK266.out 1).trans rfl, (blk_cell BK266.out 2).trans rfl, (blk_cell BK267.out 0).trans rfl, (blk_cell BK267.out 1).trans rfl, (blk_cell BK267.out 2).trans rfl, (blk_cell BK268.out 0).trans rfl, (blk_cell BK268.out 1).trans rfl, (blk_cell BK268.out 2).trans rfl⟩ (fun hHeld => ?_)
              clear hK K
              refine norm_ (a' := ?_) ?_ ?_
              rotate_left
              ·show Act.put _ (some 29) _ = _
               simp only [Act.put, List.setIfInBounds_toArray, List.set_cons_zero, List.set_cons_succ, i64_w, i32_w]
               rfl
              exact norm_ (by first | (simp only [putAll, Act.put, List.setIfInBounds_toArray, List.set_cons_zero, List.set_cons_succ]; done) | (simp only [putAll, Act.put, List.setIfInBounds_toArray, List.set_cons_zero, List.set_cons_succ]; rfl)) (hJ2_4_8_11 (gb291) _ ⟨hHeld, (by (with_reducible repeat (first | apply Kd.R_alloc | apply Kd.R_drewN | apply Kd.R_drew)); exact HO272.out), (bq_ BK266), (bq_ BK267), (bq_ BK268), (bq_ BK277), (bq_ BK291), GW291.out, GE291.out, NB266_291.out, NB291_266.out, NB267_291.out, NB291_267.out, NB268_291.out, NB291_268.out, NB277_291.out, NB291_277.out, (by repeat (first | (with_reducible first | exact HB.out | apply below_alloc | apply pw_below_drewN | apply below_drew1 | refine below_set ?_ (Aside0.out (by assumption))) | exact HB.out))⟩)
             ·skip
              refine box_step ?hg (N := 10) ?hd (cs := #[.int .u64 0, .int .u64 0, .int .u64 0]) (t := 25) ?hr ?_; (case hd => rfl); (case hg => rfl); (case hr => first | (go_simp; done) | (go_simp; rfl))
              intro gb290 hg w43 hbox hb
              have BK290 := Aside0.mk (hbox)
              have GW290 := Aside0.mk ((by rw [hg]; exact (below_size (by repeat (first | (with_reducible first | exact HB.out | apply below_alloc | apply pw_below_drewN | apply below_drew1 | refine below_set ?_ (Aside0.out (by assumption))) | exact HB.out))) : w.heap.size ≤ gb290))
              have GE290 := GW290
              have NB266_290 := bn_ BK266 hg
              have NB290_266 := bm_ BK266 hg
              have NB267_290 := bn_ BK267 hg
              have NB290_267 := bm_ BK267 hg
              have NB268_290 := bn_ BK268 hg
              have NB290_268 := bm_ BK268 hg
              have NB277_290 := bn_ BK277 hg
              have NB290_277 := bm_ BK277 hg
              have NB291_290 := bn_ BK291 hg
              have NB290_291 := bm_ BK291 hg
              replace HO272 := Aside0.mk (Kd.R_below (Kd.R_elderB (by (with_reducible repeat (first | apply Kd.R_alloc | apply Kd.R_drewN | apply Kd.R_drew)); exact HO272.out) gb290 (Nat.le_of_eq hg.symm)) hb)
              replace BK266 := bb_ BK266 hb
              replace BK267 := bb_ BK267 hb
              replace BK268 := bb_ BK268 hb
              replace BK277 := bb_ BK277 hb
              replace BK291 := bb_ BK291 hb
              replace HB := Aside0.mk (below_step (by repeat (first | (with_reducible first | exact HB.out | apply below_alloc | apply pw_below_drewN | apply below_drew1 | refine below_set ?_ (Aside0.out (by assumption))) | exact HB.out)) hb)
              clear hb hbox hg
              refine hK.out _ _ ⟨(blk_cell BK266.out 0).trans rfl, (blk_cell BK266.out 1).trans rfl, (blk_cell BK266.out 2).trans rfl, (blk_cell BK267.out 0).trans rfl, (blk_cell BK267.out 1).trans rfl, (blk_cell BK267.out 2).trans rfl, (blk_cell BK268.out 0).trans rfl, (blk_cell BK268.out 1).trans rfl, (blk_cell BK268.out 2).trans rfl⟩ (fun hHeld => ?_)
              clear hK K
              refine norm_ (a' := ?_) ?_ ?_
              rotate_left
              ·show Act.put _ (some 10) _ = _
               simp only [Act.put, List.setIfInBounds_toArray, List.set_cons_zero, List.set_cons_succ, i64_w, i32_w]
               rfl
              exact norm_ (by first | (simp only [putAll, Act.put, List.setIfInBounds_toArray, List.set_cons_zero, List.set_cons_succ]; done) | (simp only [putAll, Act.put, List.setIfInBounds_toArray, List.set_cons_zero, List.set_cons_succ]; rfl)) (hJ2_4_10_11 (gb290, gb291) _ ⟨hHeld, (by (with_reducible repeat (first | apply Kd.R_alloc | apply Kd.R_drewN | apply Kd.R_drew)); exact Kd.R_mono HO272.out (fun _ hk => ⟨hk.1.1, ⟨hk.1.2.1, ⟨hk.1.2.2.1, ⟨hk.1.2.2.2.1, ⟨hk.2, hk.1.2.2.2.2⟩⟩⟩⟩⟩)), (bq_ BK266), (bq_ BK267), (bq_ BK268), (bq_ BK277), (bq_ BK290), (bq_ BK291), GW290.out, GE290.out, NB266_290.out, NB290_266.out, NB267_290.out, NB290_267.out, NB268_290.out, NB290_268.out, NB277_290.out, NB290_277.out, NB291_290.out, NB290_291.out, GW291.out, GE291.out, NB266_291.out, NB291_266.out, NB267_291.out, NB291_267.out, NB268_291.out, NB291_268.out, NB277_291.out, NB291_277.out, (by repeat (first | (with_reducible first | exact HB.out | apply below_alloc | apply pw_below_drewN | apply below_drew1 | refine below_set ?_ (Aside0.out (by assumption))) | exact HB.out))⟩)
           ·skip
            rintro gb290 w42 ⟨hS_, h0_, h1_, h2_, h3_, h4_, h5_, h6_, h7_, h8_, h9_, h10_, h11_, h12_, h13_, h14_, h15_, h16_⟩
            have BK290 : Aside0 (w42.heap[gb290]? = some (.cells #[.int .u64 0, .int .u64 0, .int .u64 0] 25 (0, 0))) := ⟨h5_⟩
            have GW290 : Aside0 (w.heap.size ≤ gb290) := ⟨h6_⟩
            have GE290 : Aside0 (w.heap.size ≤ gb290) := ⟨h7_⟩
            have NB266_290 : Aside0 (gb266 ≠ gb290) := ⟨h8_⟩
            have NB290_266 : Aside0 (gb290 ≠ gb266) := ⟨h9_⟩
            have NB267_290 : Aside0 (gb267 ≠ gb290) := ⟨h10_⟩
            have NB290_267 : Aside0 (gb290 ≠ gb267) := ⟨h11_⟩
            have NB268_290 : Aside0 (gb268 ≠ gb290) := ⟨h12_⟩
            have NB290_268 : Aside0 (gb290 ≠ gb268) := ⟨h13_⟩
            have NB277_290 : Aside0 (gb277 ≠ gb290) := ⟨h14_⟩
            have NB290_277 : Aside0 (gb290 ≠ gb277) := ⟨h15_⟩
            replace HO272 : Aside0 (Kd.R k25 25 w42 w.heap.size (fun k_ => k_ ≠ gb266 ∧ k_ ≠ gb267 ∧ k_ ≠ gb268 ∧ k_ ≠ gb277 ∧ k_ ≠ gb290) (.slice Ao30 y270.length co30) y270) := ⟨h0_⟩
            replace BK266 : Aside0 (w42.heap[gb266]? = some (.cells #[.int .u64 a0_0, .int .u64 a0_1, .int .u64 a0_2] 25 (0, 0))) := ⟨h1_⟩
            replace BK267 : Aside0 (w42.heap[gb267]? = some (.cells #[.int .u64 a1_0, .int .u64 a1_1, .int .u64 a1_2] 25 (0, 0))) := ⟨h2_⟩
            replace BK268 : Aside0 (w42.heap[gb268]? = some (.cells #[.int .u64 a2_0, .int .u64 a2_1, .int .u64 a2_2] 25 (0, 0))) := ⟨h3_⟩
            replace BK277 : Aside0 (w42.heap[gb277]? = some (.cells #[.int .u64 t273, .int .u64 t274, .int .u64 t275] 25 (0, 0))) := ⟨h4_⟩
            replace HB : Aside0 (Below w.heap.size w w42) := ⟨h16_⟩
            clear h0_ h1_ h2_ h3_ h4_ h5_ h6_ h7_ h8_ h9_ h10_ h11_ h12_ h13_ h14_ h15_ h16_
            have hHeld : w42.cell? ⟨gb266, 0, none⟩ = some (.int .u64 a0_0) ∧ w42.cell? ⟨gb266, 1, none⟩ = some (.int .u64 a0_1) ∧ w42.cell? ⟨gb266, 2, none⟩ = some (.int .u64 a0_2) ∧ w42.cell? ⟨gb267, 0, none⟩ = some (.int .u64 a1_0) ∧ w42.cell? ⟨gb267, 1, none⟩ = some (.int .u64 a1_1) ∧ w42.cell? ⟨gb267, 2, none⟩ = some (.int .u64 a1_2) ∧ w42.cell? ⟨gb268, 0, none⟩ = some (.int .u64 a2_0) ∧ w42.cell? ⟨gb268, 1, none⟩ = some (.int .u64 a2_1) ∧ w42.cell? ⟨gb268, 2, none⟩ = some (.int .u64 a2_2) := hS_
            refine norm_ (a' := ?_) ?_ ?_
            rotate_left
            ·simp only [putAll, Act.put, List.setIfInBounds_toArray, List.set_cons_zero, List.set_cons_succ]
             rfl
            refine two_ (i := 8) (j := 11) (Ni := some 29) (Nj := some 11) #[true, true, true, true, true, true, true, true, true, false, true, false, false, false] #[true, true, true, true, true, true, true, true, false, false, true, true, false, false] rfl rfl rfl rfl (two_of HT_.out (by kernel_rfl)) (by decide) (by decide) (fun K hK => ?_) (fun K hK => ?_)
            ·skip
             refine goes_ Try.func22 (by kernel_rfl) rfl #[.agg #[.int .u64 a1_0, .int .u64 a1_1, .int .u64 a1_2], .agg #[.int .u64 a2_0, .int .u64 a2_1, .int .u64 a2_2]] (by rfl) rfl rfl (by (try simp only [List.map_toArray, List.map_cons, List.map_nil]); first | done | rfl | (simp only [List.length_drop, List.length_take]; rfl)) ?_
             with_reducible refine (tally_Add.calls a1_0 a1_1 a1_2 a2_0 a2_1 a2_2 t284 t285 t286 _ A8.out).mono ?_
             rintro e w43 ⟨rfl, hb⟩
             refine ⟨_, rfl, ?_⟩
             replace HO272 := Aside0.mk (Kd.R_below (by (with_reducible repeat (first | apply Kd.R_alloc | apply Kd.R_drewN | apply Kd.R_drew)); exact HO272.out) hb)
             replace BK266 := bb_ BK266 hb
             replace BK267 := bb_ BK267 hb
             replace BK268 := bb_ BK268 hb
             replace BK277 := bb_ BK277 hb
             replace BK290 := bb_ BK290 hb
             replace HB := Aside0.mk (below_step (by repeat (first | (with_reducible first | exact HB.out | apply below_alloc | apply pw_below_drewN | apply below_drew1 | refine below_set ?_ (Aside0.out (by assumption))) | exact HB.out)) hb)
             (try clear hb)
             (try clear hb2)
             (try clear hk)
             (try clear hi)
             refine hK.out _ _ ⟨(blk_cell BK266.out 0).trans rfl, (blk_cell BK266.out 1).trans rfl, (blk_cell BK266.out 2).trans rfl, (blk_cell BK267.out 0).trans rfl, (blk_cell BK267.out 1).trans rfl, (blk_cell BK267.out 2).trans rfl, (blk_cell BK268.out 0).trans rfl, (blk_cell BK268.out 1).trans rfl, (blk_cell BK268.out 2).trans rfl⟩ (fun hHeld => ?_)
             clear hK K
             refine norm_ (a' := ?_) ?_ ?_
             rotate_left
             ·show Act.put _ (some 29) _ = _
              simp only [Act.put, List.setIfInBounds_toArray, List.set_cons_zero, List.set_cons_succ, i64_w, i32_w]
              rfl
             exact norm_ (by first | (simp only [putAll, Act.put, List.setIfInBounds_toArray, List.set_cons_zero, List.set_cons_succ]; done) | (simp only [putAll, Act.put, List.setIfInBounds_toArray, List.set_cons_zero, List.set_cons_succ]; rfl)) (hJ2_4_8_10 (gb290) _ ⟨hHeld, (by (with_reducible repeat (first | apply Kd.R_alloc | apply Kd.R_drewN | apply Kd.R_drew)); exact HO272.out), (bq_ BK266), (bq_ BK267), (bq_ BK268), (bq_ BK277), (bq_ BK290), GW290.out, GE290.out, NB266_290.out, NB290_266.out, NB267_290.out, NB290_267.out, NB268_290.out, NB290_268.out, NB277_290.out, NB290_277.out, (by repeat (first | (with_reducible first | exact HB.out | apply below_alloc | apply pw_below_drewN | apply below_drew1 | refine below_set ?_ (Aside0.out (by assumption))) | exact HB.out))⟩)
            ·skip
             refine box_step ?hg (N := 11) ?hd (cs := #[.int .u64 0, .int .u64 0, .int .u64 0]) (t := 25) ?hr ?_; (case hd => rfl); (case hg => rfl); (case hr => first | (go_simp; done) | (go_simp; rfl))
             intro gb291 hg w43 hbox hb
             have BK291 := Aside0.mk (hbox)
             have GW291 := Aside0.mk ((by rw [hg]; exact (below_size (by repeat (first | (with_reducible first | exact HB.out | apply below_alloc | apply pw_below_drewN | apply below_drew1 | refine below_set ?_ (Aside0.out (by assumption))) | exact HB.out))) : w.heap.size ≤ gb291))
             have GE291 := GW291
             have NB266_291 := bn_ BK266 hg
             have NB291_266 := bm_ BK266 hg
             have NB267_291 := bn_ BK267 hg
             have NB291_267 := bm_ BK267 hg
             have NB268_291 := bn_ BK268 hg
             have NB291_268 := bm_ BK268 hg
             have NB277_291 := bn_ BK277 hg
             have NB291_277 := bm_ BK277 hg
             have NB290_291 := bn_ BK290 hg
             have NB291_290 := bm_ BK290 hg
             replace HO272 := Aside0.mk (Kd.R_below (Kd.R_elderB (by (with_reducible repeat (first | apply Kd.R_alloc | apply Kd.R_drewN | apply Kd.R_drew)); exact HO272.out) gb291 (Nat.le_of_eq hg.symm)) hb)
             replace BK266 := bb_ BK266 hb
             replace BK267 := bb_ BK267 hb
             replace BK268 := bb_ BK268 hb
             replace BK277 := bb_ BK277 hb
             replace BK290 := bb_ BK290 hb
             replace HB := Aside0.mk (below_step (by repeat (first | (with_reducible first | exact HB.out | apply below_alloc | apply pw_below_drewN | apply below_drew1 | refine below_set ?_ (Aside0.out (by assumption))) | exact HB.out)) hb)
             clear hb hbox hg
             refine hK.out _ _ ⟨(blk_cell BK266.out 0).trans rfl, (blk_cell BK266.out 1).trans rfl, (blk_cell BK266.out 2).trans rfl, (blk_cell BK267.out 0).trans rfl, (blk_cell BK267.out 1).trans rfl, (blk_cell BK267.out 2).trans rfl, (blk_cell BK268.out 0).trans rfl, (blk_cell BK268.out 1).trans rfl, (blk_cell BK268.out 2).trans rfl⟩ (fun hHeld => ?_)
             clear hK K
             refine norm_ (a' := ?_) ?_ ?_
             rotate_left
             ·show Act.put _ (some 11) _ = _
              simp only [Act.put, List.setIfInBounds_toArray, List.set_cons_zero, List.set_cons_succ, i64_w, i32_w]
              rfl
             exact norm_ (by first | (simp only [putAll, Act.put, List.setIfInBounds_toArray, List.set_cons_zero, List.set_cons_succ]; done) | (simp only [putAll, Act.put, List.setIfInBounds_toArray, List.set_cons_zero, List.set_cons_succ]; rfl)) (hJ2_4_10_11 (gb290, gb291) _ ⟨hHeld, (by (with_reducible repeat (first | apply Kd.R_alloc | apply Kd.R_drewN | apply Kd.R_drew)); exact Kd.R_mono HO272.out (fun _ hk => ⟨hk.1.1, ⟨hk.1.2.1, ⟨hk.1.2.2.1, ⟨hk.1.2.2.2.1, ⟨hk.1.2.2.2.2, hk.2⟩⟩⟩⟩⟩)), (bq_ BK266), (bq_ BK267), (bq_ BK268), (bq_ BK277), (bq_ BK290), (bq_ BK291), GW290.out, GE290.out, NB266_290.out, NB290_266.out, NB267_290.out, NB290_267.out, NB268_290.out, NB290_268.out, NB277_290.out, NB290_277.out, NB291_290.out, NB290_291.out, GW291.out, GE291.out, NB266_291.out, NB291_266.out, NB267_291.out, NB291_267.out, NB268_291.out, NB291_268.out, NB277_291.out, NB291_277.out, (by repeat (first | (with_reducible first | exact HB.out | apply below_alloc | apply pw_below_drewN | apply below_drew1 | refine below_set ?_ (Aside0.out (by assumption))) | exact HB.out))⟩)
          ·skip
           rintro _ w42 ⟨hS_, h0_, h1_, h2_, h3_, h4_, h5_⟩
           replace HO272 : Aside0 (Kd.R k25 25 w42 w.heap.size (fun k_ => k_ ≠ gb266 ∧ k_ ≠ gb267 ∧ k_ ≠ gb268 ∧ k_ ≠ gb277) (.slice Ao30 y270.length co30) y270) := ⟨h0_⟩
           replace BK266 : Aside0 (w42.heap[gb266]? = some (.cells #[.int .u64 a0_0, .int .u64 a0_1, .int .u64 a0_2] 25 (0, 0))) := ⟨h1_⟩
           replace BK267 : Aside0 (w42.heap[gb267]? = some (.cells #[.int .u64 a1_0, .int .u64 a1_1, .int .u64 a1_2] 25 (0, 0))) := ⟨h2_⟩
           replace BK268 : Aside0 (w42.heap[gb268]? = some (.cells #[.int .u64 a2_0, .int .u64 a2_1, .int .u64 a2_2] 25 (0, 0))) := ⟨h3_⟩
           replace BK277 : Aside0 (w42.heap[gb277]? = some (.cells #[.int .u64 t273, .int .u64 t274, .int .u64 t275] 25 (0, 0))) := ⟨h4_⟩
           replace HB : Aside0 (Below w.heap.size w w42) := ⟨h5_⟩
           clear h0_ h1_ h2_ h3_ h4_ h5_
           have hHeld : w42.cell? ⟨gb266, 0, none⟩ = some (.int .u64 a0_0) ∧ w42.cell? ⟨gb266, 1, none⟩ = some (.int .u64 a0_1) ∧ w42.cell? ⟨gb266, 2, none⟩ = some (.int .u64 a0_2) ∧ w42.cell? ⟨gb267, 0, none⟩ = some (.int .u64 a1_0) ∧ w42.cell? ⟨gb267, 1, none⟩ = some (.int .u64 a1_1) ∧ w42.cell? ⟨gb267, 2, none⟩ = some (.int .u64 a1_2) ∧ w42.cell? ⟨gb268, 0, none⟩ = some (.int .u64 a2_0) ∧ w42.cell? ⟨gb268, 1, none⟩ = some (.int .u64 a2_1) ∧ w42.cell? ⟨gb268, 2, none⟩ = some (.int .u64 a2_2) := hS_
           refine norm_ (a' := ?_) ?_ ?_
           rotate_left
           ·simp only [putAll, Act.put, List.setIfInBounds_toArray, List.set_cons_zero, List.set_cons_succ]
            rfl
           refine three_ (i := 9) (j := 10) (k := 11) (Ni := some 30) (Nj := some 10) (Nk := some 11) #[true, true, true, true, true, true, true, true, true, true, false, false, false, false] #[true, true, true, true, true, true, true, true, true, false, true, false, false, false] #[true, true, true, true, true, true, true, true, true, false, false, true, false, false] rfl rfl rfl rfl rfl rfl (three_of HT_.out (by kernel_rfl)) (by decide) (by decide) (by decide) (fun K hK => ?_) (fun K hK => ?_) (fun K hK => ?_)
           ·skip
            refine goes_ Try.func22 (by kernel_rfl) rfl #[.agg #[.int .u64 a0_0, .int .u64 a0_1, .int .u64 a0_2], .agg #[.int .u64 t284, .int .u64 t285, .int .u64 t286]] (by rfl) rfl rfl (by (try simp only [List.map_toArray, List.map_cons, List.map_nil]); first | done | rfl | (simp only [List.length_drop, List.length_take]; rfl)) ?_
            with_reducible refine (tally_Add.calls a0_0 a0_1 a0_2 t284 t285 t286 t287 t288 t289 _ A9.out).mono ?_
            rintro e w43 ⟨rfl, hb⟩
            refine ⟨_, rfl, ?_⟩
            replace HO272 := Aside0.mk (Kd.R_below (by (with_reducible repeat (first | apply Kd.R_alloc | apply Kd.R_drewN | apply Kd.R_drew)); exact HO272.out) hb)
            replace BK266 := bb_ BK266 hb
            replace BK267 := bb_ BK267 hb
            replace BK268 := bb_ BK268 hb
            replace BK277 := bb_ BK277 hb
            replace HB := Aside0.mk (below_step (by repeat (first | (with_reducible first | exact HB.out | apply below_alloc | apply pw_below_drewN | apply below_drew1 | refine below_set ?_ (Aside0.out (by assumption))) | exact HB.out)) hb)
            (try clear hb)
            (try clear hb2)
            (try clear hk)
            (try clear hi)
            refine hK.out _ _ ⟨(blk_cell BK266.out 0).trans rfl, (blk_cell BK266.out 1).trans rfl, (blk_cell BK266.out 2).trans rfl, (blk_cell BK267.out 0).trans rfl, (blk_cell BK267.out 1).trans rfl, (blk_cell BK267.out 2).trans rfl, (blk_cell BK268.out 0).trans rfl, (blk_cell BK268.out 1).trans rfl, (blk_cell BK268.out 2).trans rfl⟩ (fun hHeld => ?_)
            clear hK K
            refine norm_ (a' := ?_) ?_ ?_
            rotate_left
            ·show Act.put _ (some 30) _ = _
             simp only [Act.put, List.setIfInBounds_toArray, List.set_cons_zero, List.set_cons_succ, i64_w, i32_w]
             rfl
            exact norm_ (by first | (simp only [putAll, Act.put, List.setIfInBounds_toArray, List.set_cons_zero, List.set_cons_succ]; done) | (simp only [putAll, Act.put, List.setIfInBounds_toArray, List.set_cons_zero, List.set_cons_succ]; rfl)) (hJ2_4_8_9 () _ ⟨hHeld, (by (with_reducible repeat (first | apply Kd.R_alloc | apply Kd.R_drewN | apply Kd.R_drew)); exact HO272.out), (bq_ BK266), (bq_ BK267), (bq_ BK268), (bq_ BK277), (by repeat (first | (with_reducible first | exact HB.out | apply below_alloc | apply pw_below_drewN | apply below_drew1 | refine below_set ?_ (Aside0.out (by assumption))) | exact HB.out))⟩)
           ·skip
            refine box_step ?hg (N := 10) ?hd (cs := #[.int .u64 0, .int .u64 0, .int .u64 0]) (t := 25) ?hr ?_; (case hd => rfl); (case hg => rfl); (case hr => first | (go_simp; done) | (go_simp; rfl))
            intro gb290 hg w43 hbox hb
            have BK290 := Aside0.mk (hbox)
            have GW290 := Aside0.mk ((by rw [hg]; exact (below_size (by repeat (first | (with_reducible first | exact HB.out | apply below_alloc | apply pw_below_drewN | apply below_drew1 | refine below_set ?_ (Aside0.out (by assumption))) | exact HB.out))) : w.heap.size ≤ gb290))
            have GE290 := GW290
            have NB266_290 := bn_ BK266 hg
            have NB290_266 := bm_ BK266 hg
            have NB267_290 := bn_ BK267 hg
            have NB290_267 := bm_ BK267 hg
            have NB268_290 := bn_ BK268 hg
            have NB290_268 := bm_ BK268 hg
            have NB277_290 := bn_ BK277 hg
            have NB290_277 := bm_ BK277 hg
            replace HO272 := Aside0.mk (Kd.R_below (Kd.R_elderB (by (with_reducible repeat (first | apply Kd.R_alloc | apply Kd.R_drewN | apply Kd.R_drew)); exact HO272.out) gb290 (Nat.le_of_eq hg.symm)) hb)
            replace BK266 := bb_ BK266 hb
            replace BK267 := bb_ BK267 hb
            replace BK268 := bb_ BK268 hb
            replace BK277 := bb_ BK277 hb
            replace HB := Aside0.mk (below_step (by repeat (first | (with_reducible first | exact HB.out | apply below_alloc | apply pw_below_drewN | apply below_drew1 | refine below_set ?_ (Aside0.out (by assumption))) | exact HB.out)) hb)
            clear hb hbox hg
            refine hK.out _ _ ⟨(blk_cell BK266.out 0).trans rfl, (blk_cell BK266.out 1).trans rfl, (blk_cell BK266.out 2).trans rfl, (blk_cell BK267.out 0).trans rfl, (blk_cell BK267.out 1).trans rfl, (blk_cell BK267.out 2).trans rfl, (blk_cell BK268.out 0).trans rfl, (blk_cell BK268.out 1).trans rfl, (blk_cell BK268.out 2).trans rfl⟩ (fun hHeld => ?_)
            clear hK K
            refine norm_ (a' := ?_) ?_ ?_
            rotate_left
            ·show Act.put _ (some 10) _ = _
             simp only [Act.put, List.setIfInBounds_toArray, List.set_cons_zero, List.set_cons_succ, i64_w, i32_w]
             rfl
            exact norm_ (by first | (simp only [putAll, Act.put, List.setIfInBounds_toArray, List.set_cons_zero, List.set_cons_succ]; done) | (simp only [putAll, Act.put, List.setIfInBounds_toArray, List.set_cons_zero, List.set_cons_succ]; rfl)) (hJ2_4_8_10 (gb290) _ ⟨hHeld, (by (with_reducible repeat (first | apply Kd.R_alloc | apply Kd.R_drewN | apply Kd.R_drew)); exact Kd.R_mono HO272.out (fun _ hk => ⟨hk.1.1, ⟨hk.1.2.1, ⟨hk.1.2.2.1, ⟨hk.1.2.2.2, hk.2⟩⟩⟩⟩)), (bq_ BK266), (bq_ BK267), (bq_ BK268), (bq_ BK277), (bq_ BK290), GW290.out, GE290.out, NB266_290.out, NB290_266.out, NB267_290.out, NB290_267.out, NB268_290.out, NB290_268.out, NB277_290.out, NB290_277.out, (by repeat (first | (with_reducible first | exact HB.out | apply below_alloc | apply pw_below_drewN | apply below_drew1 | refine below_set ?_ (Aside0.out (by assumption))) | exact HB.out))⟩)
           ·skip
            refine box_step ?hg (N := 11) ?hd (cs := #[.int .u64 0, .int .u64 0, .int .u64 0]) (t := 25) ?hr ?_; (case hd => rfl); (case hg => rfl); (case hr => first | (go_simp; done) | (go_simp; rfl))
            intro gb291 hg w43 hbox hb
            have BK291 := Aside0.mk (hbox)
            have GW291 := Aside0.mk ((by rw [hg]; exact (below_size (by repeat (first | (with_reducible first | exact HB.out | apply below_alloc | apply pw_below_drewN | apply below_drew1 | refine below_set ?_ (Aside0.out (by assumption))) | exact HB.out))) : w.heap.size ≤ gb291))
            have GE291 := GW291
            have NB266_291 := bn_ BK266 hg
            have NB291_266 := bm_ BK266 hg
            have NB267_291 := bn_ BK267 hg
            have NB291_267 := bm_ BK267 hg
            have NB268_291 := bn_ BK268 hg
            have NB291_268 := bm_ BK268 hg
            have NB277_291 := bn_ BK277 hg
            have NB291_277 := bm_ BK277 hg
            replace HO272 := Aside0.mk (Kd.R_below (Kd.R_elderB (by (with_reducible repeat (first | apply Kd.R_alloc | apply Kd.R_drewN | apply Kd.R_drew)); exact HO272.out) gb291 (Nat.le_of_eq hg.symm)) hb)
            replace BK266 := bb_ BK266 hb
            replace BK267 := bb_ BK267 hb
            replace BK268 := bb_ BK268 hb
            replace BK277 := bb_ BK277 hb
            replace HB := Aside0.mk (below_step (by repeat (first | (with_reducible first | exact HB.out | apply below_alloc | apply pw_below_drewN | apply below_drew1 | refine below_set ?_ (Aside0.out (by assumption))) | exact HB.out)) hb)
            clear hb hbox hg
            refine hK.out _ _ ⟨(blk_cell BK266.out 0).trans rfl, (blk_cell BK266.out 1).trans rfl, (blk_cell BK266.out 2).trans rfl, (blk_cell BK267.out 0).trans rfl, (blk_cell BK267.out 1).trans rfl, (blk_cell BK267.out 2).trans rfl, (blk_cell BK268.out 0).trans rfl, (blk_cell BK268.out 1).trans rfl, (blk_cell BK268.out 2).trans rfl⟩ (fun hHeld => ?_)
            clear hK K
            refine norm_ (a' := ?_) ?_ ?_
            rotate_left
            ·show Act.put _ (some 11) _ = _
             simp only [Act.put, List.setIfInBounds_toArray, List.set_cons_zero, List.set_cons_succ, i64_w, i32_w]
             rfl
            exact norm_ (by first | (simp only [putAll, Act.put, List.setIfInBounds_toArray, List.set_cons_zero, List.set_cons_succ]; done) | (simp only [putAll, Act.put, List.setIfInBounds_toArray, List.set_cons_zero, List.set_cons_succ]; rfl)) (hJ2_4_8_11 (gb291) _ ⟨hHeld, (by (with_reducible repeat (first | apply Kd.R_alloc | apply Kd.R_drewN | apply Kd.R_drew)); exact Kd.R_mono HO272.out (fun _ hk => ⟨hk.1.1, ⟨hk.1.2.1, ⟨hk.1.2.2.1, ⟨hk.1.2.2.2, hk.2⟩⟩⟩⟩)), (bq_ BK266), (bq_ BK267), (bq_ BK268), (bq_ BK277), (bq_ BK291), GW291.out, GE291.out, NB266_291.out, NB291_266.out, NB267_291.out, NB291_267.out, NB268_291.out, NB291_268.out, NB277_291.out, NB291_277.out, (by repeat (first | (with_reducible first | exact HB.out | apply below_alloc | apply pw_below_drewN | apply below_drew1 | refine below_set ?_ (Aside0.out (by assumption))) | exact HB.out))⟩)
         ·skip
          rintro ⟨gb290, gb291⟩ w43 ⟨hS_, h0_, h1_, h2_, h3_, h4_, h5_, h6_, h7_, h8_, h9_, h10_, h11_, h12_, h13_, h14_, h15_, h16_, h17_, h18_, h19_, h20_, h21_, h22_, h23_, h24_, h25_, h26_, h27_, h28_, h29_⟩
          have BK290 : Aside0 (w43.heap[gb290]? = some (.cells #[.int .u64 0, .int .u64 0, .int .u64 0] 25 (0, 0))) := ⟨h5_⟩
          have BK291 : Aside0 (w43.heap[gb291]? = some (.cells #[.int .u64 0, .int .u64 0, .int .u64 0] 25 (0, 0))) := ⟨h6_⟩
          have GW290 : Aside0 (w.heap.size ≤ gb290) := ⟨h7_⟩
          have GE290 : Aside0 (w.heap.size ≤ gb290) := ⟨h8_⟩
          have NB266_290 : Aside0 (gb266 ≠ gb290) := ⟨h9_⟩
          have NB290_266 : Aside0 (gb290 ≠ gb266) := ⟨h10_⟩
          have NB267_290 : Aside0 (gb267 ≠ gb290) := ⟨h11_⟩
          have NB290_267 : Aside0 (gb290 ≠ gb267) := ⟨h12_⟩
          have NB268_290 : Aside0 (gb268 ≠ gb290) := ⟨h13_⟩
          have NB290_268 : Aside0 (gb290 ≠ gb268) := ⟨h14_⟩
          have NB277_290 : Aside0 (gb277 ≠ gb290) := ⟨h15_⟩
          have NB290_277 : Aside0 (gb290 ≠ gb277) := ⟨h16_⟩
          have NB291_290 : Aside0 (gb291 ≠ gb290) := ⟨h17_⟩
          have NB290_291 : Aside0 (gb290 ≠ gb291) := ⟨h18_⟩
          have GW291 : Aside0 (w.heap.size ≤ gb291) := ⟨h19_⟩
          have GE291 : Aside0 (w.heap.size ≤ gb291) := ⟨h20_⟩
          have NB266_291 : Aside0 (gb266 ≠ gb291) := ⟨h21_⟩
          have NB291_266 : Aside0 (gb291 ≠ gb266) := ⟨h22_⟩
          have NB267_291 : Aside0 (gb267 ≠ gb291) := ⟨h23_⟩
          have NB291_267 : Aside0 (gb291 ≠ gb267) := ⟨h24_⟩
          have NB268_291 : Aside0 (gb268 ≠ gb291) := ⟨h25_⟩
          have NB291_268 : Aside0 (gb291 ≠ gb268) := ⟨h26_⟩
          have NB277_291 : Aside0 (gb277 ≠ gb291) := ⟨h27_⟩
          have NB291_277 : Aside0 (gb291 ≠ gb277) := ⟨h28_⟩
          replace HO272 : Aside0 (Kd.R k25 25 w43 w.heap.size (fun k_ => k_ ≠ gb266 ∧ k_ ≠ gb267 ∧ k_ ≠ gb268 ∧ k_ ≠ gb277 ∧ k_ ≠ gb290 ∧ k_ ≠ gb291) (.slice Ao30 y270.length co30) y270) := ⟨h0_⟩
          replace BK266 : Aside0 (w43.heap[gb266]? = some (.cells #[.int .u64 a0_0, .int .u64 a0_1, .int .u64 a0_2] 25 (0, 0))) := ⟨h1_⟩
          replace BK267 : Aside0 (w43.heap[gb267]? = some (.cells #[.int .u64 a1_0, .int .u64 a1_1, .int .u64 a1_2] 25 (0, 0))) := ⟨h2_⟩
          replace BK268 : Aside0 (w43.heap[gb268]? = some (.cells #[.int .u64 a2_0, .int .u64 a2_1, .int .u64 a2_2] 25 (0, 0))) := ⟨h3_⟩
          replace BK277 : Aside0 (w43.heap[gb277]? = some (.cells #[.int .u64 t273, .int .u64 t274, .int .u64 t275] 25 (0, 0))) := ⟨h4_⟩
          replace HB : Aside0 (Below w.heap.size w w43) := ⟨h29_⟩
          clear h0_ h1_ h2_ h3_ h4_ h5_ h6_ h7_ h8_ h9_ h10_ h11_ h12_ h13_ h14_ h15_ h16_ h17_ h18_ h19_ h20_ h21_ h22_ h23_ h24_ h25_ h26_ h27_ h28_ h29_
          have hHeld : w43.cell? ⟨gb266, 0, none⟩ = some (.int .u64 a0_0) ∧ w43.cell? ⟨gb266, 1, none⟩ = some (.int .u64 a0_1) ∧ w43.cell? ⟨gb266, 2, none⟩ = some (.int .u64 a0_2) ∧ w43.cell? ⟨gb267, 0, none⟩ = some (.int .u64 a1_0) ∧ w43.cell? ⟨gb267, 1, none⟩ = some (.int .u64 a1_1) ∧ w43.cell? ⟨gb267, 2, none⟩ = some (.int .u64 a1_2) ∧ w43.cell? ⟨gb268, 0, none⟩ = some (.int .u64 a2_0) ∧ w43.cell? ⟨gb268, 1, none⟩ = some (.int .u64 a2_1) ∧ w43.cell? ⟨gb268, 2, none⟩ = some (.int .u64 a2_2) := hS_
          refine norm_ (a' := ?_) ?_ ?_
          rotate_left
          ·simp only [putAll, Act.put, List.setIfInBounds_toArray, List.set_cons_zero, List.set_cons_succ]
           rfl
          refine one_ (i := 8) (N := some 29) #[true, true, true, true, true, true, true, true, true, false, true, true, false, false] rfl rfl (one_of HT_.out (by kernel_rfl)) (by decide) (fun K hK => ?_)
          refine goes_ Try.func22 (by kernel_rfl) rfl #[.agg #[.int .u64 a1_0, .int .u64 a1_1, .int .u64 a1_2], .agg #[.int .u64 a2_0, .int .u64 a2_1, .int .u64 a2_2]] (by rfl) rfl rfl (by (try simp only [List.map_toArray, List.map_cons, List.map_nil]); first | done | rfl | (simp only [List.length_drop, List.length_take]; rfl)) ?_
          with_reducible refine (tally_Add.calls a1_0 a1_1 a1_2 a2_0 a2_1 a2_2 t284 t285 t286 _ A8.out).mono ?_
          rintro e w44 ⟨rfl, hb⟩
          refine ⟨_, rfl, ?_⟩
          replace HO272 := Aside0.mk (Kd.R_below (by (with_reducible repeat (first | apply Kd.R_alloc | apply Kd.R_drewN | apply Kd.R_drew)); exact HO272.out) hb)
          replace BK266 := bb_ BK266 hb
          replace BK267 := bb_ BK267 hb
          replace BK268 := bb_ BK268 hb
          replace BK277 := bb_ BK277 hb
          replace BK290 := bb_ BK290 hb
          replace BK291 := bb_ BK291 hb
          replace HB := Aside0.mk (below_step (by repeat (first | (with_reducible first | exact HB.out | apply below_alloc | apply pw_below_drewN | apply below_drew1 | refine below_set ?_ (Aside0.out (by assumption))) | exact HB.out)) hb)
          (try clear hb)
          (try clear hb2)
          (try clear hk)
          (try clear hi)
          refine hK.out _ _ ⟨(blk_cell BK266.out 0).trans rfl, (blk_cell BK266.out 1).trans rfl, (blk_cell BK266.out 2).trans rfl, (blk_cell BK267.out 0).trans rfl, (blk_cell BK267.out 1).trans rfl, (blk_cell BK267.out 2).trans rfl, (blk_cell BK268.out 0).trans rfl, (blk_cell BK268.out 1).trans rfl, (blk_cell BK268.out 2).trans rfl⟩ (fun hHeld => ?_)
          clear hK K
          refine norm_ (a' := ?_) ?_ ?_
          rotate_left
          ·show Act.put _ (some 29) _ = _
           simp only [Act.put, List.setIfInBounds_toArray, List.set_cons_zero, List.set_cons_succ, i64_w, i32_w]
           rfl
          exact norm_ (by first | (simp only [putAll, Act.put, List.setIfInBounds_toArray, List.set_cons_zero, List.set_cons_succ]; done) | (simp only [putAll, Act.put, List.setIfInBounds_toArray, List.set_cons_zero, List.set_cons_succ]; rfl)) (hJ2_4_8_10_11 (gb290, gb291) _ ⟨hHeld, (by (with_reducible repeat (first | apply Kd.R_alloc | apply Kd.R_drewN | apply Kd.R_drew)); exact HO272.out), (bq_ BK266), (bq_ BK267), (bq_ BK268), (bq_ BK277), (bq_ BK290), (bq_ BK291), GW290.out, GE290.out, NB266_290.out, NB290_266.out, NB267_290.out, NB290_267.out, NB268_290.out, NB290_268.out, NB277_290.out, NB290_277.out, NB291_290.out, NB290_291.out, GW291.out, GE291.out, NB266_291.out, NB291_266.out, NB267_291.out, NB291_267.out, NB268_291.out, NB291_268.out, NB277_291.out, NB291_277.out, (by repeat (first | (with_reducible first | exact HB.out | apply below_alloc | apply pw_below_drewN | apply below_drew1 | refine below_set ?_ (Aside0.out (by assumption))) | exact HB.out))⟩)
        ·skip
         rintro gb291 w43 ⟨hS_, h0_, h1_, h2_, h3_, h4_, h5_, h6_, h7_, h8_, h9_, h10_, h11_, h12_, h13_, h14_, h15_, h16_⟩
         have BK291 : Aside0 (w43.heap[gb291]? = some (.cells #[.int .u64 0, .int .u64 0, .int .u64 0] 25 (0, 0))) := ⟨h5_⟩
         have GW291 : Aside0 (w.heap.size ≤ gb291) := ⟨h6_⟩
         have GE291 : Aside0 (w.heap.size ≤ gb291) := ⟨h7_⟩
         have NB266_291 : Aside0 (gb266 ≠ gb291) := ⟨h8_⟩
         have NB291_266 : Aside0 (gb291 ≠ gb266) := ⟨h9_⟩
         have NB267_291 : Aside0 (gb267 ≠ gb291) := ⟨h10_⟩
         have NB291_267 : Aside0 (gb291 ≠ gb267) := ⟨h11_⟩
         have NB268_291 : Aside0 (gb268 ≠ gb291) := ⟨h12_⟩
         have NB291_268 : Aside0 (gb291 ≠ gb268) := ⟨h13_⟩
         have NB277_291 : Aside0 (gb277 ≠ gb291) := ⟨h14_⟩
         have NB291_277 : Aside0 (gb291 ≠ gb277) := ⟨h15_⟩
         replace HO272 : Aside0 (Kd.R k25 25 w43 w.heap.size (fun k_ => k_ ≠ gb266 ∧ k_ ≠ gb267 ∧ k_ ≠ gb268 ∧ k_ ≠ gb277 ∧ k_ ≠ gb291) (.slice Ao30 y270.length co30) y270) := ⟨h0_⟩
         replace BK266 : Aside0 (w43.heap[gb266]? = some (.cells #[.int .u64 a0_0, .int .u64 a0_1, .int .u64 a0_2] 25 (0, 0))) := ⟨h1_⟩
         replace BK267 : Aside0 (w43.heap[gb267]? = some (.cells #[.int .u64 a1_0, .int .u64 a1_1, .int .u64 a1_2] 25 (0, 0))) := ⟨h2_⟩
         replace BK268 : Aside0 (w43.heap[gb268]? = some (.cells #[.int .u64 a2_0, .int .u64 a2_1, .int .u64 a2_2] 25 (0, 0))) := ⟨h3_⟩
         replace BK277 : Aside0 (w43.heap[gb277]? = some (.cells #[.int .u64 t273, .int .u64 t274, .int .u64 t275] 25 (0, 0))) := ⟨h4_⟩
         replace HB : Aside0 (Below w.heap.size w w43) := ⟨h16_⟩
         clear h0_ h1_ h2_ h3_ h4_ h5_ h6_ h7_ h8_ h9_ h10_ h11_ h12_ h13_ h14_ h15_ h16_
         have hHeld : w43.cell? ⟨gb266, 0, none⟩ = some (.int .u64 a0_0) ∧ w43.cell? ⟨gb266, 1, none⟩ = some (.int .u64 a0_1) ∧ w43.cell? ⟨gb266, 2, none⟩ = some (.int .u64 a0_2) ∧ w43.cell? ⟨gb267, 0, none⟩ = some (.int .u64 a1_0) ∧ w43.cell? ⟨gb267, 1, none⟩ = some (.int .u64 a1_1) ∧ w43.cell? ⟨gb267, 2, none⟩ = some (.int .u64 a1_2) ∧ w43.cell? ⟨gb268, 0, none⟩ = some (.int .u64 a2_0) ∧ w43.cell? ⟨gb268, 1, none⟩ = some (.int .u64 a2_1) ∧ w43.cell? ⟨gb268, 2, none⟩ = some (.int .u64 a2_2) := hS_
         refine norm_ (a' := ?_) ?_ ?_
         rotate_left
         ·simp only [putAll, Act.put, List.setIfInBounds_toArray, List.set_cons_zero, List.set_cons_succ]
          rfl
         refine two_ (i := 9) (j := 10) (Ni := some 30) (Nj := some 10) #[true, true, true, true, true, true, true, true, true, true, false, true, false, false] #[true, true, true, true, true, true, true, true, true, false, true, true, false, false] rfl rfl rfl rfl (two_of HT_.out (by kernel_rfl)) (by decide) (by decide) (fun K hK => ?_) (fun K hK => ?_)
         ·skip
          refine goes_ Try.func22 (by kernel_rfl) rfl #[.agg #[.int .u64 a0_0, .int .u64 a0_1, .int .u64 a0_2], .agg #[.int .u64 t284, .int .u64 t285, .int .u64 t286]] (by rfl) rfl rfl (by (try simp only [List.map_toArray, List.map_cons, List.map_nil]); first | done | rfl | (simp only [List.length_drop, List.length_take]; rfl)) ?_
          with_reducible refine (tally_Add.calls a0_0 a0_1 a0_2 t284 t285 t286 t287 t288 t289 _ A9.out).mono ?_
          rintro e w44 ⟨rfl, hb⟩
          refine ⟨_, rfl, ?_⟩
          replace HO272 := Aside0.mk (Kd.R_below (by (with_reducible repeat (first | apply Kd.R_alloc | apply Kd.R_drewN | apply Kd.R_drew)); exact HO272.out) hb)
          replace BK266 := bb_ BK266 hb
          replace BK267 := bb_ BK267 hb
          replace BK268 := bb_ BK268 hb
          replace BK277 := bb_ BK277 hb
          replace BK291 := bb_ BK291 hb
          replace HB := Aside0.mk (below_step (by repeat (first | (with_reducible first | exact HB.out | apply below_alloc | apply pw_below_drewN | apply below_drew1 | refine below_set ?_ (Aside0.out (by assumption))) | exact HB.out)) hb)
          (try clear hb)
          (try clear hb2)
          (try clear hk)
          (try clear hi)
          refine hK.out _ _ ⟨(blk_cell BK266.out 0).trans rfl, (blk_cell BK266.out 1).trans rfl, (blk_cell BK266.out 2).trans rfl, (blk_cell BK267.out 0).trans rfl, (blk_cell BK267.out 1).trans rfl, (blk_cell BK267.out 2).trans rfl, (blk_cell BK268.out 0).trans rfl, (blk_cell BK268.out 1).trans rfl, (blk_cell BK268.out 2).trans rfl⟩ (fun hHeld => ?_)
          clear hK K
          refine norm_ (a' := ?_) ?_ ?_
          rotate_left
          ·show Act.put _ (some 30) _ = _
           simp only [Act.put, List.setIfInBounds_toArray, List.set_cons_zero, List.set_cons_succ, i64_w, i32_w]
           rfl
          exact norm_ (by first | (simp only [putAll, Act.put, List.setIfInBounds_toArray, List.set_cons_zero, List.set_cons_succ]; done) | (simp only [putAll, Act.put, List.setIfInBounds_toArray, List.set_cons_zero, List.set_cons_succ]; rfl)) (hJ2_4_8_9_11 (gb291) _ ⟨hHeld, (by (with_reducible repeat (first | apply Kd.R_alloc | apply Kd.R_drewN | apply Kd.R_drew)); exact HO272.out), (bq_ BK266), (bq_ BK267), (bq_ BK268), (bq_ BK277), (bq_ BK291), GW291.out, GE291.out, NB266_291.out, NB291_266.out, NB267_291.out, NB291_267.out, NB268_291.out, NB291_268.out, NB277_291.out, NB291_277.out, (by repeat (first | (with_reducible first | exact HB.out | apply below_alloc | apply pw_below_drewN | apply below_drew1 | refine below_set ?_ (Aside0.out (by assumption))) | exact HB.out))⟩)
         ·skip
          refine box_step ?hg (N := 10) ?hd (cs := #[.int .u64 0, .int .u64 0, .int .u64 0]) (t := 25) ?hr ?_; (case hd => rfl); (case hg => rfl); (case hr => first | (go_simp; done) | (go_simp; rfl))
          intro gb290 hg w44 hbox hb
          have BK290 := Aside0.mk (hbox)
          have GW290 := Aside0.mk ((by rw [hg]; exact (below_size (by repeat (first | (with_reducible first | exact HB.out | apply below_alloc | apply pw_below_drewN | apply below_drew1 | refine below_set ?_ (Aside0.out (by assumption))) | exact HB.out))) : w.heap.size ≤ gb290))
          have GE290 := GW290
          have NB266_290 := bn_ BK266 hg
          have NB290_266 := bm_ BK266 hg
          have NB267_290 := bn_ BK267 hg
          have NB290_267 := bm_ BK267 hg
          have NB268_290 := bn_ BK268 hg
          have NB290_268 := bm_ BK268 hg
          have NB277_290 := bn_ BK277 hg
          have NB290_277 := bm_ BK277 hg
          have NB291_290 := bn_ BK291 hg
          have NB290_291 := bm_ BK291 hg
          replace HO272 := Aside0.mk (Kd.R_below (Kd.R_elderB (by (with_reducible repeat (first | apply Kd.R_alloc | apply Kd.R_drewN | apply Kd.R_drew)); exact HO272.out) gb290 (Nat.le_of_eq hg.symm)) hb)
          replace BK266 := bb_ BK266 hb
          replace BK267 := bb_ BK267 hb
          replace BK268 := bb_ BK268 hb
          replace BK277 := bb_ BK277 hb
          replace BK291 := bb_ BK291 hb
          replace HB := Aside0.mk (below_step (by repeat (first | (with_reducible first | exact HB.out | apply below_alloc | apply pw_below_drewN | apply below_drew1 | refine below_set ?_ (Aside0.out (by assumption))) | exact HB.out)) hb)
          clear hb hbox hg
          refine hK.out _ _ ⟨(blk_cell BK266.out 0).trans rfl, (blk_cell BK266.out 1).trans rfl, (blk_cell BK266.out 2).trans rfl, (blk_cell BK267.out 0).trans rfl, (blk_cell BK267.out 1).trans rfl, (blk_cell BK267.out 2).trans rfl, (blk_cell BK268.out 0).trans rfl, (blk_cell BK268.out 1).trans rfl, (blk_cell BK268.out 2).trans rfl⟩ (fun hHeld => ?_)
          clear hK K
          refine norm_ (a' := ?_) ?_ ?_
          rotate_left
          ·show Act.put _ (some 10) _ = _
           simp only [Act.put, List.setIfInBounds_toArray, List.set_cons_zero, List.set_cons_succ, i64_w, i32_w]
           rfl
          exact norm_ (by first | (simp only [putAll, Act.put, List.setIfInBounds_toArray, List.set_cons_zero, List.set_cons_succ]; done) | (simp only [putAll, Act.put, List.setIfInBounds_toArray, List.set_cons_zero, List.set_cons_succ]; rfl)) (hJ2_4_8_10_11 (gb290, gb291) _ ⟨hHeld, (by (with_reducible repeat (first | apply Kd.R_alloc | apply Kd.R_drewN | apply Kd.R_drew)); exact Kd.R_mono HO272.out (fun _ hk => ⟨hk.1.1, ⟨hk.1.2.1, ⟨hk.1.2.2.1, ⟨hk.1.2.2.2.1, ⟨hk.2, hk.1.2.2.2.2⟩⟩⟩⟩⟩)), (bq_ BK266), (bq_ BK267), (bq_ BK268), (bq_ BK277), (bq_ BK290), (bq_ BK291), GW290.out, GE290.out, NB266_290.out, NB290_266.out, NB267_290.out, NB290_267.out, NB268_290.out, NB290_268.out, NB277_290.out, NB290_277.out, NB291_290.out, NB290_291.out, GW291.out, GE291.out, NB266_291.out, NB291_266.out, NB267_291.out, NB291_267.out, NB268_291.out, NB291_268.out, NB277_291.out, NB291_277.out, (by repeat (first | (with_reducible first | exact HB.out | apply below_alloc | apply pw_below_drewN | apply below_drew1 | refine below_set ?_ (Aside0.out (by assumption))) | exact HB.out))⟩)
       ·skip
        rintro gb290 w43 ⟨hS_, h0_, h1_, h2_, h3_, h4_, h5_, h6_, h7_, h8_, h9_, h10_, h11_, h12_, h13_, h14_, h15_, h16_⟩
        have BK290 : Aside0 (w43.heap[gb290]? = some (.cells #[.int .u64 0, .int .u64 0, .int .u64 0] 25 (0, 0))) := ⟨h5_⟩
        have GW290 : Aside0 (w.heap.size ≤ gb290) := ⟨h6_⟩
        have GE290 : Aside0 (w.heap.size ≤ gb290) := ⟨h7_⟩
        have NB266_290 : Aside0 (gb266 ≠ gb290) := ⟨h8_⟩
        have NB290_266 : Aside0 (gb290 ≠ gb266) := ⟨h9_⟩
        have NB267_290 : Aside0 (gb267 ≠ gb290) := ⟨h10_⟩
        have NB290_267 : Aside0 (gb290 ≠ gb267) := ⟨h11_⟩
        have NB268_290 : Aside0 (gb268 ≠ gb290) := ⟨h12_⟩
        have NB290_268 : Aside0 (gb290 ≠ gb268) := ⟨h13_⟩
        have NB277_290 : Aside0 (gb277 ≠ gb290) := ⟨h14_⟩
        have NB290_277 : Aside0 (gb290 ≠ gb277) := ⟨h15_⟩
        replace HO272 : Aside0 (Kd.R k25 25 w43 w.heap.size (fun k_ => k_ ≠ gb266 ∧ k_ ≠ gb267 ∧ k_ ≠ gb268 ∧ k_ ≠ gb277 ∧ k_ ≠ gb290) (.slice Ao30 y270.length co30) y270) := ⟨h0_⟩
        replace BK266 : Aside0 (w43.heap[gb266]? = some (.cells #[.int .u64 a0_0, .int .u64 a0_1, .int .u64 a0_2] 25 (0, 0))) := ⟨h1_⟩
        replace BK267 : Aside0 (w43.heap[gb267]? = some (.cells #[.int .u64 a1_0, .int .u64 a1_1, .int .u64 a1_2] 25 (0, 0))) := ⟨h2_⟩
        replace BK268 : Aside0 (w43.heap[gb268]? = some (.cells #[.int .u64 a2_0, .int .u64 a2_1, .int .u64 a2_2] 25 (0, 0))) := ⟨h3_⟩
        replace BK277 : Aside0 (w43.heap[gb277]? = some (.cells #[.int .u64 t273, .int .u64 t274, .int .u64 t275] 25 (0, 0))) := ⟨h4_⟩
        replace HB : Aside0 (Below w.heap.size w w43) := ⟨h16_⟩
        clear h0_ h1_ h2_ h3_ h4_ h5_ h6_ h7_ h8_ h9_ h10_ h11_ h12_ h13_ h14_ h15_ h16_
        have hHeld : w43.cell? ⟨gb266, 0, none⟩ = some (.int .u64 a0_0) ∧ w43.cell? ⟨gb266, 1, none⟩ = some (.int .u64 a0_1) ∧ w43.cell? ⟨gb266, 2, none⟩ = some (.int .u64 a0_2) ∧ w43.cell? ⟨gb267, 0, none⟩ = some (.int .u64 a1_0) ∧ w43.cell? ⟨gb267, 1, none⟩ = some (.int .u64 a1_1) ∧ w43.cell? ⟨gb267, 2, none⟩ = some (.int .u64 a1_2) ∧ w43.cell? ⟨gb268, 0, none⟩ = some (.int .u64 a2_0) ∧ w43.cell? ⟨gb268, 1, none⟩ = some (.int .u64 a2_1) ∧ w43.cell? ⟨gb268, 2, none⟩ = some (.int .u64 a2_2) := hS_
        refine norm_ (a' := ?_) ?_ ?_
        rotate_left
        ·simp only [putAll, Act.put, List.setIfInBounds_toArray, List.set_cons_zero, List.set_cons_succ]
         rfl
        refine two_ (i := 9) (j := 11) (Ni := some 30) (Nj := some 11) #[true, true, true, true, true, true, true, true, true, true, true, false, false, false] #[true, true, true, true, true, true, true, true, true, false, true, true, false, false] rfl rfl rfl rfl (two_of HT_.out (by kernel_rfl)) (by decide) (by decide) (fun K hK => ?_) (fun K hK => ?_)
        ·skip
         refine goes_ Try.func22 (by kernel_rfl) rfl #[.agg #[.int .u64 a0_0, .int .u64 a0_1, .int .u64 a0_2], .agg #[.int .u64 t284, .int .u64 t285, .int .u64 t286]] (by rfl) rfl rfl (by (try simp only [List.map_toArray, List.map_cons, List.map_nil]); first | done | rfl | (simp only [List.length_drop, List.length_take]; rfl)) ?_
         with_reducible refine (tally_Add.calls a0_0 a0_1 a0_2 t284 t285 t286 t287 t288 t289 _ A9.out).mono ?_
         rintro e w44 ⟨rfl, hb⟩
         refine ⟨_, rfl, ?_⟩
         replace HO272 := Aside0.mk (Kd.R_below (by (with_reducible repeat (first | apply Kd.R_alloc | apply Kd.R_drewN | apply Kd.R_drew)); exact HO272.out) hb)
         replace BK266 := bb_ BK266 hb
         replace BK267 := bb_ BK267 hb
         replace BK268 := bb_ BK268 hb
         replace BK277 := bb_ BK277 hb
         replace BK290 := bb_ BK290 hb
         replace HB := Aside0.mk (below_step (by repeat (first | (with_reducible first | exact HB.out | apply below_alloc | apply pw_below_drewN | apply below_drew1 | refine below_set ?_ (Aside0.out (by assumption))) | exact HB.out)) hb)
         (try clear hb)
         (try clear hb2)
         (try clear hk)
         (try clear hi)
         refine hK.out _ _ ⟨(blk_cell BK266.out 0).trans rfl, (blk_cell BK266.out 1).trans rfl, (blk_cell BK266.out 2).trans rfl, (blk_cell BK267.out 0).trans rfl, (blk_cell BK267.out 1).trans rfl, (blk_cell BK267.out 2).trans rfl, (blk_cell BK268.out 0).trans rfl, (blk_cell BK268.out 1).trans rfl, (blk_cell BK268.out 2).trans rfl⟩ (fun hHeld => ?_)
         clear hK K
         refine norm_ (a' := ?_) ?_ ?_
         rotate_left
         ·show Act.put _ (some 30) _ = _
          simp only [Act.put, List.setIfInBounds_toArray, List.set_cons_zero, List.set_cons_succ, i64_w, i32_w]
          rfl
         exact norm_ (by first | (simp only [putAll, Act.put, List.setIfInBounds_toArray, List.set_cons_zero, List.set_cons_succ]; done) | (simp only [putAll, Act.put, List.setIfInBounds_toArray, List.set_cons_zero, List.set_cons_succ]; rfl)) (hJ2_4_8_9_10 (gb290) _ ⟨hHeld, (by (with_reducible repeat (first | apply Kd.R_alloc | apply Kd.R_drewN | apply Kd.R_drew)); exact HO272.out), (bq_ BK266), (bq_ BK267), (bq_ BK268), (bq_ BK277), (bq_ BK290), GW290.out, GE290.out, NB266_290.out, NB290_266.out, NB267_290.out, NB290_267.out, NB268_290.out, NB290_268.out, NB277_290.out, NB290_277.out, (by repeat (first | (with_reducible first | exact HB.out | apply below_alloc | apply pw_below_drewN | apply below_drew1 | refine below_set ?_ (Aside0.out (by assumption))) | exact HB.out))⟩)
        ·skip
         refine box_step ?hg (N := 11) ?hd (cs := #[.int .u64 0, .int .u64 0, .int .u64 0]) (t := 25) ?hr ?_; (case hd => rfl); (case hg => rfl); (case hr => first | (go_simp; done) | (go_simp; rfl))
         intro gb291 hg w44 hbox hb
         have BK291 := Aside0.mk (hbox)
         have GW291 := Aside0.mk ((by rw [hg]; exact (below_size (by repeat (first | (with_reducible first | exact HB.out | apply below_alloc | apply pw_below_drewN | apply below_drew1 | refine below_set ?_ (Aside0.out (by assumption))) | exact HB.out))) : w.heap.size ≤ gb291))
         have GE291 := GW291
         have NB266_291 := bn_ BK266 hg
         have NB291_266 := bm_ BK266 hg
         have NB267_291 := bn_ BK267 hg
         have NB291_267 := bm_ BK267 hg
         have NB268_291 := bn_ BK268 hg
         have NB291_268 := bm_ BK268 hg
         have NB277_291 := bn_ BK277 hg
         have NB291_277 := bm_ BK277 hg
         have NB290_291 := bn_ BK290 hg
         have NB291_290 := bm_ BK290 hg
         replace HO272 := Aside0.mk (Kd.R_below (Kd.R_elderB (by (with_reducible repeat (first | apply Kd.R_alloc | apply Kd.R_drewN | apply Kd.R_drew)); exact HO272.out) gb291 (Nat.le_of_eq hg.symm)) hb)
         replace BK266 := bb_ BK266 hb
         replace BK267 := bb_ BK267 hb
         replace BK268 := bb_ BK268 hb
         replace BK277 := bb_ BK277 hb
         replace BK290 := bb_ BK290 hb
         replace HB := Aside0.mk (below_step (by repeat (first | (with_reducible first | exact HB.out | apply below_alloc | apply pw_below_drewN | apply below_drew1 | refine below_set ?_ (Aside0.out (by assumption))) | exact HB.out)) hb)
         clear hb hbox hg
         refine hK.out _ _ ⟨(blk_cell BK266.out 0).trans rfl, (blk_cell BK266.out 1).trans rfl, (blk_cell BK266.out 2).trans rfl, (blk_cell BK267.out 0).trans rfl, (blk_cell BK267.out 1).trans rfl, (blk_cell BK267.out 2).trans rfl, (blk_cell BK268.out 0).trans rfl, (blk_cell BK268.out 1).trans rfl, (blk_cell BK268.out 2).trans rfl⟩ (fun hHeld => ?_)
         clear hK K
         refine norm_ (a' := ?_) ?_ ?_
         rotate_left
         ·show Act.put _ (some 11) _ = _
          simp only [Act.put, List.setIfInBounds_toArray, List.set_cons_zero, List.set_cons_succ, i64_w, i32_w]
          rfl
         exact norm_ (by first | (simp only [putAll, Act.put, List.setIfInBounds_toArray, List.set_cons_zero, List.set_cons_succ]; done) | (simp only [putAll, Act.put, List.setIfInBounds_toArray, List.set_cons_zero, List.set_cons_succ]; rfl)) (hJ2_4_8_10_11 (gb290, gb291) _ ⟨hHeld, (by (with_reducible repeat (first | apply Kd.R_alloc | apply Kd.R_drewN | apply Kd.R_drew)); exact Kd.R_mono HO272.out (fun _ hk => ⟨hk.1.1, ⟨hk.1.2.1, ⟨hk.1.2.2.1, ⟨hk.1.2.2.2.1, ⟨hk.1.2.2.2.2, hk.2⟩⟩⟩⟩⟩)), (bq_ BK266), (bq_ BK267), (bq_ BK268), (bq_ BK277), (bq_ BK290), (bq_ BK291), GW290.out, GE290.out, NB266_290.out, NB290_266.out, NB267_290.out, NB290_267.out, NB268_290.out, NB290_268.out, NB277_290.out, NB290_277.out, NB291_290.out, NB290_291.out, GW291.out, GE291.out, NB266_291.out, NB291_266.out, NB267_291.out, NB291_267.out, NB268_291.out, NB291_268.out, NB277_291.out, NB291_277.out, (by repeat (first | (with_reducible first | exact HB.out | apply below_alloc | apply pw_below_drewN | apply below_drew1 | refine below_set ?_ (Aside0.out (by assumption))) | exact HB.out))⟩)
      ·skip
       rintro _ w43 ⟨hS_, h0_, h1_, h2_, h3_, h4_, h5_⟩
       replace HO272 : Aside0 (Kd.R k25 25 w43 w.heap.size (fun k_ => k_ ≠ gb266 ∧ k_ ≠ gb267 ∧ k_ ≠ gb268 ∧ k_ ≠ gb277) (.slice Ao30 y270.length co30) y270) := ⟨h0_⟩
       replace BK266 : Aside0 (w43.heap[gb266]? = some (.cells #[.int .u64 a0_0, .int .u64 a0_1, .int .u64 a0_2] 25 (0, 0))) := ⟨h1_⟩
       replace BK267 : Aside0 (w43.heap[gb267]? = some (.cells #[.int .u64 a1_0, .int .u64 a1_1, .int .u64 a1_2] 25 (0, 0))) := ⟨h2_⟩
       replace BK268 : Aside0 (w43.heap[gb268]? = some (.cells #[.int .u64 a2_0, .int .u64 a2_1, .int .u64 a2_2] 25 (0, 0))) := ⟨h3_⟩
       replace BK277 : Aside0 (w43.heap[gb277]? = some (.cells #[.int .u64 t273, .int .u64 t274, .int .u64 t275] 25 (0, 0))) := ⟨h4_⟩
       replace HB : Aside0 (Below w.heap.size w w43) := ⟨h5_⟩
       clear h0_ h1_ h2_ h3_ h4_ h5_
       have hHeld : w43.cell? ⟨gb266, 0, none⟩ = some (.int .u64 a0_0) ∧ w43.cell? ⟨gb266, 1, none⟩ = some (.int .u64 a0_1) ∧ w43.cell? ⟨gb266, 2, none⟩ = some (.int .u64 a0_2) ∧ w43.cell? ⟨gb267, 0, none⟩ = some (.int .u64 a1_0) ∧ w43.cell? ⟨gb267, 1, none⟩ = some (.int .u64 a1_1) ∧ w43.cell? ⟨gb267, 2, none⟩ = some (.int .u64 a1_2) ∧ w43.cell? ⟨gb268, 0, none⟩ = some (.int .u64 a2_0) ∧ w43.cell? ⟨gb268, 1, none⟩ = some (.int .u64 a2_1) ∧ w43.cell? ⟨gb268, 2, none⟩ = some (.int .u64 a2_2) := hS_
       refine norm_ (a' := ?_) ?_ ?_
       rotate_left
       ·simp only [putAll, Act.put, List.setIfInBounds_toArray, List.set_cons_zero, List.set_cons_succ]
        rfl
       refine two_ (i := 10) (j := 11) (Ni := some 10) (Nj := some 11) #[true, true, true, true, true, true, true, true, true, true, true, false, false, false] #[true, true, true, true, true, true, true, true, true, true, false, true, false, false] rfl rfl rfl rfl (two_of HT_.out (by kernel_rfl)) (by decide) (by decide) (fun K hK => ?_) (fun K hK => ?_)
       ·skip
        refine box_step ?hg (N := 10) ?hd (cs := #[.int .u64 0, .int .u64 0, .int .u64 0]) (t := 25) ?hr ?_; (case hd => rfl); (case hg => rfl); (case hr => first | (go_simp; done) | (go_simp; rfl))
        intro gb290 hg w44 hbox hb
        have BK290 := Aside0.mk (hbox)
        have GW290 := Aside0.mk ((by rw [hg]; exact (below_size (by repeat (first | (with_reducible first | exact HB.out | apply below_alloc | apply pw_below_drewN | apply below_drew1 | refine below_set ?_ (Aside0.out (by assumption))) | exact HB.out))) : w.heap.size ≤ gb290))
        have GE290 := GW290
        have NB266_290 := bn_ BK266 hg
        have NB290_266 := bm_ BK266 hg
        have NB267_290 := bn_ BK267 hg
        have NB290_267 := bm_ BK267 hg
        have NB268_290 := bn_ BK268 hg
        have NB290_268 := bm_ BK268 hg
        have NB277_290 := bn_ BK277 hg
        have NB290_277 := bm_ BK277 hg
        replace HO272 := Aside0.mk (Kd.R_below (Kd.R_elderB (by (with_reducible repeat (first | apply Kd.R_alloc | apply Kd.R_drewN | apply Kd.R_drew)); exact HO272.out) gb290 (Nat.le_of_eq hg.symm)) hb)
        replace BK266 := bb_ BK266 hb
        replace BK267 := bb_ BK267 hb
        replace BK268 := bb_ BK268 hb
        replace BK277 := bb_ BK277 hb
        replace HB := Aside0.mk (below_step (by repeat (first | (with_reducible first | exact HB.out | apply below_alloc | apply pw_below_drewN | apply below_drew1 | refine below_set ?_ (Aside0.out (by assumption))) | exact HB.out)) hb)
        clear hb hbox hg
        refine hK.out _ _ ⟨(blk_cell BK266.out 0).trans rfl, (blk_cell BK266.out 1).trans rfl, (blk_cell BK266.out 2).trans rfl, (blk_cell BK267.out 0).trans rfl, (blk_cell BK267.out 1).trans rfl, (blk_cell BK267.out 2).trans rfl, (blk_cell BK268.out 0).trans rfl, (blk_cell BK268.out 1).trans rfl, (blk_cell BK268.out 2).trans rfl⟩ (fun hHeld => ?_)
        clear hK K
        refine norm_ (a' := ?_) ?_ ?_
        rotate_left
        ·show Act.put _ (some 10) _ = _
         simp only [Act.put, List.setIfInBounds_toArray, List.set_cons_zero, List.set_cons_succ, i64_w, i32_w]
         rfl
        exact norm_ (by first | (simp only [putAll, Act.put, List.setIfInBounds_toArray, List.set_cons_zero, List.set_cons_succ]; done) | (simp only [putAll, Act.put, List.setIfInBounds_toArray, List.set_cons_zero, List.set_cons_succ]; rfl)) (hJ2_4_8_9_10 (gb290) _ ⟨hHeld, (by (with_reducible repeat (first | apply Kd.R_alloc | apply Kd.R_drewN | apply Kd.R_drew)); exact Kd.R_mono HO272.out (fun _ hk => ⟨hk.1.1, ⟨hk.1.2.1, ⟨hk.1.2.2.1, ⟨hk.1.2.2.2, hk.2⟩⟩⟩⟩)), (bq_ BK266), (bq_ BK267), (bq_ BK268), (bq_ BK277), (bq_ BK290), GW290.out, GE290.out, NB266_290.out, NB290_266.out, NB267_290.out, NB290_267.out, NB268_290.out, NB290_268.out, NB277_290.out, NB290_277.out, (by repeat (first | (with_reducible first | exact HB.out | apply below_alloc | apply pw_below_drewN | apply below_drew1 | refine below_set ?_ (Aside0.out (by assumption))) | exact HB.out))⟩)
       ·skip
        refine box_step ?hg (N := 11) ?hd (cs := #[.int .u64 0, .int .u64 0, .int .u64 0]) (t := 25) ?hr ?_; (case hd => rfl); (case hg => rfl); (case hr => first | (go_simp; done) | (go_simp; rfl))
        intro gb291 hg w44 hbox hb
        have BK291 := Aside0.mk (hbox)
        have GW291 := Aside0.mk ((by rw [hg]; exact (below_size (by repeat (first | (with_reducible first | exact HB.out | apply below_alloc | apply pw_below_drewN | apply below_drew1 | refine below_set ?_ (Aside0.out (by assumption))) | exact HB.out))) : w.heap.size ≤ gb291))
        have GE291 := GW291
        have NB266_291 := bn_ BK266 hg
        have NB291_266 := bm_ BK266 hg
        have NB267_291 := bn_ BK267 hg
        have NB291_267 := bm_ BK267 hg
        have NB268_291 := bn_ BK268 hg
        have NB291_268 := bm_ BK268 hg
        have NB277_291 := bn_ BK277 hg
        have NB291_277 := bm_ BK277 hg
        replace HO272 := Aside0.mk (Kd.R_below (Kd.R_elderB (by (with_reducible repeat (first | apply Kd.R_alloc | apply Kd.R_drewN | apply Kd.R_drew)); exact HO272.out) gb291 (Nat.le_of_eq hg.symm)) hb)
        replace BK266 := bb_ BK266 hb
        replace BK267 := bb_ BK267 hb
        replace BK268 := bb_ BK268 hb
        replace BK277 := bb_ BK277 hb
        replace HB := Aside0.mk (below_step (by repeat (first | (with_reducible first | exact HB.out | apply below_alloc | apply pw_below_drewN | apply below_drew1 | refine below_set ?_ (Aside0.out (by assumption))) | exact HB.out)) hb)
        clear hb hbox hg
        refine hK.out _ _ ⟨(blk_cell BK266.out 0).trans rfl, (blk_cell BK266.out 1).trans rfl, (blk_cell BK266.out 2).trans rfl, (blk_cell BK267.out 0).trans rfl, (blk_cell BK267.out 1).trans rfl, (blk_cell BK267.out 2).trans rfl, (blk_cell BK268.out 0).trans rfl, (blk_cell BK268.out 1).trans rfl, (blk_cell BK268.out 2).trans rfl⟩ (fun hHeld => ?_)
        clear hK K
        refine norm_ (a' := ?_) ?_ ?_
        rotate_left
        ·show Act.put _ (some 11) _ = _
         simp only [Act.put, List.setIfInBounds_toArray, List.set_cons_zero, List.set_cons_succ, i64_w, i32_w]
         rfl
        exact norm_ (by first | (simp only [putAll, Act.put, List.setIfInBounds_toArray, List.set_cons_zero, List.set_cons_succ]; done) | (simp only [putAll, Act.put, List.setIfInBounds_toArray, List.set_cons_zero, List.set_cons_succ]; rfl)) (hJ2_4_8_9_11 (gb291) _ ⟨hHeld, (by (with_reducible repeat (first | apply Kd.R_alloc | apply Kd.R_drewN | apply Kd.R_drew)); exact Kd.R_mono HO272.out (fun _ hk => ⟨hk.1.1, ⟨hk.1.2.1, ⟨hk.1.2.2.1, ⟨hk.1.2.2.2, hk.2⟩⟩⟩⟩)), (bq_ BK266), (bq_ BK267), (bq_ BK268), (bq_ BK277), (bq_ BK291), GW291.out, GE291.out, NB266_291.out, NB291_266.out, NB267_291.out, NB291_267.out, NB268_291.out, NB291_268.out, NB277_291.out, NB291_277.out, (by repeat (first | (with_reducible first | exact HB.out | apply below_alloc | apply pw_below_drewN | apply below_drew1 | refine below_set ?_ (Aside0.out (by assumption))) | exact HB.out))⟩)
     ·skip
      rintro ⟨gb290, gb291⟩ w44 ⟨hS_, h0_, h1_, h2_, h3_, h4_, h5_, h6_, h7_, h8_, h9_, h10_, h11_, h12_, h13_, h14_, h15_, h16_, h17_, h18_, h19_, h20_, h21_, h22_, h23_, h24_, h25_, h26_, h27_, h28_, h29_⟩
      have BK290 : Aside0 (w44.heap[gb290]? = some (.cells #[.int .u64 0, .int .u64 0, .int .u64 0] 25 (0, 0))) := ⟨h5_⟩
      have BK291 : Aside0 (w44.heap[gb291]? = some (.cells #[.int .u64 0, .int .u64 0, .int .u64 0] 25 (0, 0))) := ⟨h6_⟩
      have GW290 : Aside0 (w.heap.size ≤ gb290) := ⟨h7_⟩
      have GE290 : Aside0 (w.heap.size ≤ gb290) := ⟨h8_⟩
      have NB266_290 : Aside0 (gb266 ≠ gb290) := ⟨h9_⟩
      have NB290_266 : Aside0 (gb290 ≠ gb266) := ⟨h10_⟩
      have NB267_290 : Aside0 (gb267 ≠ gb290) := ⟨h11_⟩
      have NB290_267 : Aside0 (gb290 ≠ gb267) := ⟨h12_⟩
      have NB268_290 : Aside0 (gb268 ≠ gb290) := ⟨h13_⟩
      have NB290_268 : Aside0 (gb290 ≠ gb268) := ⟨h14_⟩
      have NB277_290 : Aside0 (gb277 ≠ gb290) := ⟨h15_⟩
      have NB290_277 : Aside0 (gb290 ≠ gb277) := ⟨h16_⟩
      have NB291_290 : Aside0 (gb291 ≠ gb290) := ⟨h17_⟩
      have NB290_291 : Aside0 (gb290 ≠ gb291) := ⟨h18_⟩
      have GW291 : Aside0 (w.heap.size ≤ gb291) := ⟨h19_⟩
      have GE291 : Aside0 (w.heap.size ≤ gb291) := ⟨h20_⟩
      have NB266_291 : Aside0 (gb266 ≠ gb291) := ⟨h21_⟩
      have NB291_266 : Aside0 (gb291 ≠ gb266) := ⟨h22_⟩
      have NB267_291 : Aside0 (gb267 ≠ gb291) := ⟨h23_⟩
      have NB291_267 : Aside0 (gb291 ≠ gb267) := ⟨h24_⟩
      have NB268_291 : Aside0 (gb268 ≠ gb291) := ⟨h25_⟩
      have NB291_268 : Aside0 (gb291 ≠ gb268) := ⟨h26_⟩
      have NB277_291 : Aside0 (gb277 ≠ gb291) := ⟨h27_⟩
      have NB291_277 : Aside0 (gb291 ≠ gb277) := ⟨h28_⟩
      replace HO272 : Aside0 (Kd.R k25 25 w44 w.heap.size (fun k_ => k_ ≠ gb266 ∧ k_ ≠ gb267 ∧ k_ ≠ gb268 ∧ k_ ≠ gb277 ∧ k_ ≠ gb290 ∧ k_ ≠ gb291) (.slice Ao30 y270.length co30) y270) := ⟨h0_⟩
      replace BK266 : Aside0 (w44.heap[gb266]? = some (.cells #[.int .u64 a0_0, .int .u64 a0_1, .int .u64 a0_2] 25 (0, 0))) := ⟨h1_⟩
      replace BK267 : Aside0 (w44.heap[gb267]? = some (.cells #[.int .u64 a1_0, .int .u64 a1_1, .int .u64 a1_2] 25 (0, 0))) := ⟨h2_⟩
      replace BK268 : Aside0 (w44.heap[gb268]? = some (.cells #[.int .u64 a2_0, .int .u64 a2_1, .int .u64 a2_2] 25 (0, 0))) := ⟨h3_⟩
      replace BK277 : Aside0 (w44.heap[gb277]? = some (.cells #[.int .u64 t273, .int .u64 t274, .int .u64 t275] 25 (0, 0))) := ⟨h4_⟩
      replace HB : Aside0 (Below w.heap.size w w44) := ⟨h29_⟩
      clear h0_ h1_ h2_ h3_ h4_ h5_ h6_ h7_ h8_ h9_ h10_ h11_ h12_ h13_ h14_ h15_ h16_ h17_ h18_ h19_ h20_ h21_ h22_ h23_ h24_ h25_ h26_ h27_ h28_ h29_
      have hHeld : w44.cell? ⟨gb266, 0, none⟩ = some (.int .u64 a0_0) ∧ w44.cell? ⟨gb266, 1, none⟩ = some (.int .u64 a0_1) ∧ w44.cell? ⟨gb266, 2, none⟩ = some (.int .u64 a0_2) ∧ w44.cell? ⟨gb267, 0, none⟩ = some (.int .u64 a1_0) ∧ w44.cell? ⟨gb267, 1, none⟩ = some (.int .u64 a1_1) ∧ w44.cell? ⟨gb267, 2, none⟩ = some (.int .u64 a1_2) ∧ w44.cell? ⟨gb268, 0, none⟩ = some (.int .u64 a2_0) ∧ w44.cell? ⟨gb268, 1, none⟩ = some (.int .u64 a2_1) ∧ w44.cell? ⟨gb268, 2, none⟩ = some (.int .u64 a2_2) := hS_
      refine norm_ (a' := ?_) ?_ ?_
      rotate_left
      ·simp only [putAll, Act.put, List.setIfInBounds_toArray, List.set_cons_zero, List.set_cons_succ]
       rfl
      refine one_ (i := 9) (N := some 30) #[true, true, true, true, true, true, true, true, true, true, true, true, false, false] rfl rfl (one_of HT_.out (by kernel_rfl)) (by decide) (fun K hK => ?_)
      refine goes_ Try.func22 (by kernel_rfl) rfl #[.agg #[.int .u64 a0_0, .int .u64 a0_1, .int .u64 a0_2], .agg #[.int .u64 t284, .int .u64 t285, .int .u64 t286]] (by rfl) rfl rfl (by (try simp only [List.map_toArray, List.map_cons, List.map_nil]); first | done | rfl | (simp only [List.length_drop, List.length_take]; rfl)) ?_
      with_reducible refine (tally_Add.calls a0_0 a0_1 a0_2 t284 t285 t286 t287 t288 t289 _ A9.out).mono ?_
      rintro e w45 ⟨rfl, hb⟩
      refine ⟨_, rfl, ?_⟩
      replace HO272 := Aside0.mk (Kd.R_below (by (with_reducible repeat (first | apply Kd.R_alloc | apply Kd.R_drewN | apply Kd.R_drew)); exact HO272.out) hb)
      replace BK266 := bb_ BK266 hb
      replace BK267 := bb_ BK267 hb
      replace BK268 := bb_ BK268 hb
      replace BK277 := bb_ BK277 hb
      replace BK290 := bb_ BK290 hb
      replace BK291 := bb_ BK291 hb
      replace HB := Aside0.mk (below_step (by repeat (first | (with_reducible first | exact HB.out | apply below_alloc | apply pw_below_drewN | apply below_drew1 | refine below_set ?_ (Aside0.out (by assumption))) | exact HB.out)) hb)
      (try clear hb)
      (try clear hb2)
      (try clear hk)
      (try clear hi)
      refine hK.out _ _ ⟨(blk_cell BK266.out 0).trans rfl, (blk_cell BK266.out 1).trans rfl, (blk_cell BK266.out 2).trans rfl, (blk_cell BK267.out 0).trans rfl, (blk_cell BK267.out 1).trans rfl, (blk_cell BK267.out 2).trans rfl, (blk_cell BK268.out 0).trans rfl, (blk_cell BK268.out 1).trans rfl, (blk_cell BK268.out 2).trans rfl⟩ (fun hHeld => ?_)
      clear hK K
      refine norm_ (a' := ?_) ?_ ?_
      rotate_left
      ·show Act.put _ (some 30) _ = _
       simp only [Act.put, List.setIfInBounds_toArray, List.set_cons_zero, List.set_cons_succ, i64_w, i32_w]
       rfl
      exact norm_ (by first | (simp only [putAll, Act.put, List.setIfInBounds_toArray, List.set_cons_zero, List.set_cons_succ]; done) | (simp only [putAll, Act.put, List.setIfInBounds_toArray, List.set_cons_zero, List.set_cons_succ]; rfl)) (hJ2_4_8_9_10_11 (gb290, gb291) _ ⟨hHeld, (by (with_reducible repeat (first | apply Kd.R_alloc | apply Kd.R_drewN | apply Kd.R_drew)); exact HO272.out), (bq_ BK266), (bq_ BK267), (bq_ BK268), (bq_ BK277), (bq_ BK290), (bq_ BK291), GW290.out, GE290.out, NB266_290.out, NB290_266.out, NB267_290.out, NB290_267.out, NB268_290.out, NB290_268.out, NB277_290.out, NB290_277.out, NB291_290.out, NB290_291.out, GW291.out, GE291.out, NB266_291.out, NB291_266.out, NB267_291.out, NB291_267.out, NB268_291.out, NB291_268.out, NB277_291.out, NB291_277.out, (by repeat (first | (with_reducible first | exact HB.out | apply below_alloc | apply pw_below_drewN | apply below_drew1 | refine below_set ?_ (Aside0.out (by assumption))) | exact HB.out))⟩)
    ·skip
     rintro gb291 w44 ⟨hS_, h0_, h1_, h2_, h3_, h4_, h5_, h6_, h7_, h8_, h9_, h10_, h11_, h12_, h13_, h14_, h15_, h16_⟩
     have BK291 : Aside0 (w44.heap[gb291]? = some (.cells #[.int .u64 0, .int .u64 0, .int .u64 0] 25 (0, 0))) := ⟨h5_⟩
     have GW291 : Aside0 (w.heap.size ≤ gb291) := ⟨h6_⟩
     have GE291 : Aside0 (w.heap.size ≤ gb291) := ⟨h7_⟩
     have NB266_291 : Aside0 (gb266 ≠ gb291) := ⟨h8_⟩
     have NB291_266 : Aside0 (gb291 ≠ gb266) := ⟨h9_⟩
     have NB267_291 : Aside0 (gb267 ≠ gb291) := ⟨h10_⟩
     have NB291_267 : Aside0 (gb291 ≠ gb267) := ⟨h11_⟩
     have NB268_291 : Aside0 (gb268 ≠ gb291) := ⟨h12_⟩
     have NB291_268 : Aside0 (gb291 ≠ gb268) := ⟨h13_⟩
     have NB277_291 : Aside0 (gb277 ≠ gb291) := ⟨h14_⟩
     have NB291_277 : Aside0 (gb291 ≠ gb277) := ⟨h15_⟩
     replace HO272 : Aside0 (Kd.R k25 25 w44 w.heap.size (fun k_ => k_ ≠ gb266 ∧ k_ ≠ gb267 ∧ k_ ≠ gb268 ∧ k_ ≠ gb277 ∧ k_ ≠ gb291) (.slice Ao30 y270.length co30) y270) := ⟨h0_⟩
     replace BK266 : Aside0 (w44.heap[gb266]? = some (.cells #[.int .u64 a0_0, .int .u64 a0_1, .int .u64 a0_2] 25 (0, 0))) := ⟨h1_⟩
     replace BK267 : Aside0 (w44.heap[gb267]? = some (.cells #[.int .u64 a1_0, .int .u64 a1_1, .int .u64 a1_2] 25 (0, 0))) := ⟨h2_⟩
     replace BK268 : Aside0 (w44.heap[gb268]? = some (.cells #[.int .u64 a2_0, .int .u64 a2_1, .int .u64 a2_2] 25 (0, 0))) := ⟨h3_⟩
     replace BK277 : Aside0 (w44.heap[gb277]? = some (.cells #[.int .u64 t273, .int .u64 t274, .int .u64 t275] 25 (0, 0))) := ⟨h4_⟩
     replace HB : Aside0 (Below w.heap.size w w44) := ⟨h16_⟩
     clear h0_ h1_ h2_ h3_ h4_ h5_ h6_ h7_ h8_ h9_ h10_ h11_ h12_ h13_ h14_ h15_ h16_
     have hHeld : w44.cell? ⟨gb266, 0, none⟩ = some (.int .u64 a0_0) ∧ w44.cell? ⟨gb266, 1, none⟩ = some (.int .u64 a0_1) ∧ w44.cell? ⟨gb266, 2, none⟩ = some (.int .u64 a0_2) ∧ w44.cell? ⟨gb267, 0, none⟩ = some (.int .u64 a1_0) ∧ w44.cell? ⟨gb267, 1, none⟩ = some (.int .u64 a1_1) ∧ w44.cell? ⟨gb267, 2, none⟩ = some (.int .u64 a1_2) ∧ w44.cell? ⟨gb268, 0, none⟩ = some (.int .u64 a2_0) ∧ w44.cell? ⟨gb268, 1, none⟩ = some (.int .u64 a2_1) ∧ w44.cell? ⟨gb268, 2, none⟩ = some (.int .u64 a2_2) := hS_
     refine norm_ (a' := ?_) ?_ ?_
     rotate_left
     ·simp only [putAll, Act.put, List.setIfInBounds_toArray, List.set_cons_zero, List.set_cons_succ]
      rfl
     refine one_ (i := 10) (N := some 10) #[true, true, true, true, true, true, true, true, true, true, true, true, false, false] rfl rfl (one_of HT_.out (by kernel_rfl)) (by decide) (fun K hK => ?_)
     refine box_step ?hg (N := 10) ?hd (cs := #[.int .u64 0, .int .u64 0, .int .u64 0]) (t := 25) ?hr ?_; (case hd => rfl); (case hg => rfl); (case hr => first | (go_simp; done) | (go_simp; rfl))
     intro gb290 hg w45 hbox hb
     have BK290 := Aside0.mk (hbox)
     have GW290 := Aside0.mk ((by rw [hg]; exact (below_size (by repeat (first | (with_reducible first | exact HB.out | apply below_alloc | apply pw_below_drewN | apply below_drew1 | refine below_set ?_ (Aside0.out (by assumption))) | exact HB.out))) : w.heap.size ≤ gb290))
     have GE290 := GW290
     have NB266_290 := bn_ BK266 hg
     have NB290_266 := bm_ BK266 hg
     have NB267_290 := bn_ BK267 hg
     have NB290_267 := bm_ BK267 hg
     have NB268_290 := bn_ BK268 hg
     have NB290_268 := bm_ BK268 hg
     have NB277_290 := bn_ BK277 hg
     have NB290_277 := bm_ BK277 hg
     have NB291_290 := bn_ BK291 hg
     have NB290_291 := bm_ BK291 hg
     replace HO272 := Aside0.mk (Kd.R_below (Kd.R_elderB (by (with_reducible repeat (first | apply Kd.R_alloc | apply Kd.R_drewN | apply Kd.R_drew)); exact HO272.out) gb290 (Nat.le_of_eq hg.symm)) hb)
     replace BK266 := bb_ BK266 hb
     replace BK267 := bb_ BK267 hb
     replace BK268 := bb_ BK268 hb
     replace BK277 := bb_ BK277 hb
     replace BK291 := bb_ BK291 hb
     replace HB := Aside0.mk (below_step (by repeat (first | (with_reducible first | exact HB.out | apply below_alloc | apply pw_below_drewN | apply below_drew1 | refine below_set ?_ (Aside0.out (by assumption))) | exact HB.out)) hb)
     clear hb hbox hg
     refine hK.out _ _ ⟨(blk_cell BK266.out 0).trans rfl, (blk_cell BK266.out 1).trans rfl, (blk_cell BK266.out 2).trans rfl, (blk_cell BK267.out 0).trans rfl, (blk_cell BK267.out 1).trans rfl, (blk_cell BK267.out 2).trans rfl, (blk_cell BK268.out 0).trans rfl, (blk_cell BK268.out 1).trans rfl, (blk_cell BK268.out 2).trans rfl⟩ (fun hHeld => ?_)
     clear hK K
     refine norm_ (a' := ?_) ?_ ?_
     rotate_left
     ·show Act.put _ (some 10) _ = _
      simp only [Act.put, List.setIfInBounds_toArray, List.set_cons_zero, List.set_cons_succ, i64_w, i32_w]
      rfl
     exact norm_ (by first | (simp only [putAll, Act.put, List.setIfInBounds_toArray, List.set_cons_zero, List.set_cons_succ]; done) | (simp only [putAll, Act.put, List.setIfInBounds_toArray, List.set_cons_zero, List.set_cons_succ]; rfl)) (hJ2_4_8_9_10_11 (gb290, gb291) _ ⟨hHeld, (by (with_reducible repeat (first | apply Kd.R_alloc | apply Kd.R_drewN | apply Kd.R_drew)); exact Kd.R_mono HO272.out (fun _ hk => ⟨hk.1.1, ⟨hk.1.2.1, ⟨hk.1.2.2.1, ⟨hk.1.2.2.2.1, ⟨hk.2, hk.1.2.2.2.2⟩⟩⟩⟩⟩)), (bq_ BK266), (bq_ BK267), (bq_ BK268), (bq_ BK277), (bq_ BK290), (bq_ BK291), GW290.out, GE290.out, NB266_290.out, NB290_266.out, NB267_290.out, NB290_267.out, NB268_290.out, NB290_268.out, NB277_290.out, NB290_277.out, NB291_290.out, NB290_291.out, GW291.out, GE291.out, NB266_291.out, NB291_266.out, NB267_291.out, NB291_267.out, NB268_291.out, NB291_268.out, NB277_291.out, NB291_277.out, (by repeat (first | (with_reducible first | exact HB.out | apply below_alloc | apply pw_below_drewN | apply below_drew1 | refine below_set ?_ (Aside0.out (by assumption))) | exact HB.out))⟩)
   ·skip
    rintro gb290 w44 ⟨hS_, h0_, h1_, h2_, h3_, h4_, h5_, h6_, h7_, h8_, h9_, h10_, h11_, h12_, h13_, h14_, h15_, h16_⟩
    have BK290 : Aside0 (w44.heap[gb290]? = some (.cells #[.int .u64 0, .int .u64 0, .int .u64 0] 25 (0, 0))) := ⟨h5_⟩
    have GW290 : Aside0 (w.heap.size ≤ gb290) := ⟨h6_⟩
    have GE290 : Aside0 (w.heap.size ≤ gb290) := ⟨h7_⟩
    have NB266_290 : Aside0 (gb266 ≠ gb290) := ⟨h8_⟩
    have NB290_266 : Aside0 (gb290 ≠ gb266) := ⟨h9_⟩
    have NB267_290 : Aside0 (gb267 ≠ gb290) := ⟨h10_⟩
    have NB290_267 : Aside0 (gb290 ≠ gb267) := ⟨h11_⟩
    have NB268_290 : Aside0 (gb268 ≠ gb290) := ⟨h12_⟩
    have NB290_268 : Aside0 (gb290 ≠ gb268) := ⟨h13_⟩
    have NB277_290 : Aside0 (gb277 ≠ gb290) := ⟨h14_⟩
    have NB290_277 : Aside0 (gb290 ≠ gb277) := ⟨h15_⟩
    replace HO272 : Aside0 (Kd.R k25 25 w44 w.heap.size (fun k_ => k_ ≠ gb266 ∧ k_ ≠ gb267 ∧ k_ ≠ gb268 ∧ k_ ≠ gb277 ∧ k_ ≠ gb290) (.slice Ao30 y270.length co30) y270) := ⟨h0_⟩
    replace BK266 : Aside0 (w44.heap[gb266]? = some (.cells #[.int .u64 a0_0, .int .u64 a0_1, .int .u64 a0_2] 25 (0, 0))) := ⟨h1_⟩
    replace BK267 : Aside0 (w44.heap[gb267]? = some (.cells #[.int .u64 a1_0, .int .u64 a1_1, .int .u64 a1_2] 25 (0, 0))) := ⟨h2_⟩
    replace BK268 : Aside0 (w44.heap[gb268]? = some (.cells #[.int .u64 a2_0, .int .u64 a2_1, .int .u64 a2_2] 25 (0, 0))) := ⟨h3_⟩
    replace BK277 : Aside0 (w44.heap[gb277]? = some (.cells #[.int .u64 t273, .int .u64 t274, .int .u64 t275] 25 (0, 0))) := ⟨h4_⟩
    replace HB : Aside0 (Below w.heap.size w w44) := ⟨h16_⟩
    clear h0_ h1_ h2_ h3_ h4_ h5_ h6_ h7_ h8_ h9_ h10_ h11_ h12_ h13_ h14_ h15_ h16_
    have hHeld : w44.cell? ⟨gb266, 0, none⟩ = some (.int .u64 a0_0) ∧ w44.cell? ⟨gb266, 1, none⟩ = some (.int .u64 a0_1) ∧ w44.cell? ⟨gb266, 2, none⟩ = some (.int .u64 a0_2) ∧ w44.cell? ⟨gb267, 0, none⟩ = some (.int .u64 a1_0) ∧ w44.cell? ⟨gb267, 1, none⟩ = some (.int .u64 a1_1) ∧ w44.cell? ⟨gb267, 2, none⟩ = some (.int .u64 a1_2) ∧ w44.cell? ⟨gb268, 0, none⟩ = some (.int .u64 a2_0) ∧ w44.cell? ⟨gb268, 1, none⟩ = some (.int .u64 a2_1) ∧ w44.cell? ⟨gb268, 2, none⟩ = some (.int .u64 a2_2) := hS_
    refine norm_ (a' := ?_) ?_ ?_
    rotate_left
    ·simp only [putAll, Act.put, List.setIfInBounds_toArray, List.set_cons_zero, List.set_cons_succ]
     rfl
    refine one_ (i := 11) (N := some 11) #[true, true, true, true, true, true, true, true, true, true, true, true, false, false] rfl rfl (one_of HT_.out (by kernel_rfl)) (by decide) (fun K hK => ?_)
    refine box_step ?hg (N := 11) ?hd (cs := #[.int .u64 0, .int .u64 0, .int .u64 0]) (t := 25) ?hr ?_; (case hd => rfl); (case hg => rfl); (case hr => first | (go_simp; done) | (go_simp; rfl))
    intro gb291 hg w45 hbox hb
    have BK291 := Aside0.mk (hbox)
    have GW291 := Aside0.mk ((by rw [hg]; exact (below_size (by repeat (first | (with_reducible first | exact HB.out | apply below_alloc | apply pw_below_drewN | apply below_drew1 | refine below_set ?_ (Aside0.out (by assumption))) | exact HB.out))) : w.heap.size ≤ gb291))
    have GE291 := GW291
    have NB266_291 := bn_ BK266 hg
    have NB291_266 := bm_ BK266 hg
    have NB267_291 := bn_ BK267 hg
    have NB291_267 := bm_ BK267 hg
    have NB268_291 := bn_ BK268 hg
    have NB291_268 := bm_ BK268 hg
    have NB277_291 := bn_ BK277 hg
    have NB291_277 := bm_ BK277 hg
    have NB290_291 := bn_ BK290 hg
    have NB291_290 := bm_ BK290 hg
    replace HO272 := Aside0.mk (Kd.R_below (Kd.R_elderB (by (with_reducible repeat (first | apply Kd.R_alloc | apply Kd.R_drewN | apply Kd.R_drew)); exact HO272.out) gb291 (Nat.le_of_eq hg.symm)) hb)
    replace BK266 := bb_ BK266 hb
    replace BK267 := bb_ BK267 hb
    replace BK268 := bb_ BK268 hb
    replace BK277 := bb_ BK277 hb
    replace BK290 := bb_ BK290 hb
    replace HB := Aside0.mk (below_step (by repeat (first | (with_reducible first | exact HB.out | apply below_alloc | apply pw_below_drewN | apply below_drew1 | refine below_set ?_ (Aside0.out (by assumption))) | exact HB.out)) hb)
    clear hb hbox hg
    refine hK.out _ _ ⟨(blk_cell BK266.out 0).trans rfl, (blk_cell BK266.out 1).trans rfl, (blk_cell BK266.out 2).trans rfl, (blk_cell BK267.out 0).trans rfl, (blk_cell BK267.out 1).trans rfl, (blk_cell BK267.out 2).trans rfl, (blk_cell BK268.out 0).trans rfl, (blk_cell BK268.out 1).trans rfl, (blk_cell BK268.out 2).trans rfl⟩ (fun hHeld => ?_)
    clear hK K
    refine norm_ (a' := ?_) ?_ ?_
    rotate_left
    ·show Act.put _ (some 11) _ = _
     simp only [Act.put, List.setIfInBounds_toArray, List.set_cons_zero, List.set_cons_succ, i64_w, i32_w]
     rfl
    exact norm_ (by first | (simp only [putAll, Act.put, List.setIfInBounds_toArray, List.set_cons_zero, List.set_cons_succ]; done) | (simp only [putAll, Act.put, List.setIfInBounds_toArray, List.set_cons_zero, List.set_cons_succ]; rfl)) (hJ2_4_8_9_10_11 (gb290, gb291) _ ⟨hHeld, (by (with_reducible repeat (first | apply Kd.R_alloc | apply Kd.R_drewN | apply Kd.R_drew)); exact Kd.R_mono HO272.out (fun _ hk => ⟨hk.1.1, ⟨hk.1.2.1, ⟨hk.1.2.2.1, ⟨hk.1.2.2.2.1, ⟨hk.1.2.2.2.2, hk.2⟩⟩⟩⟩⟩)), (bq_ BK266), (bq_ BK267), (bq_ BK268), (bq_ BK277), (bq_ BK290), (bq_ BK291), GW290.out, GE290.out, NB266_290.out, NB290_266.out, NB267_290.out, NB290_267.out, NB268_290.out, NB290_268.out, NB277_290.out, NB290_277.out, NB291_290.out, NB290_291.out, GW291.out, GE291.out, NB266_291.out, NB291_266.out, NB267_291.out, NB291_267.out, NB268_291.out, NB291_268.out, NB277_291.out, NB291_277.out, (by repeat (first | (with_reducible first | exact HB.out | apply below_alloc | apply pw_below_drewN | apply below_drew1 | refine below_set ?_ (Aside0.out (by assumption))) | exact HB.out))⟩)
  rintro ⟨gb290, gb291⟩ w45 ⟨hS_, h0_, h1_, h2_, h3_, h4_, h5_, h6_, h7_, h8_, h9_, h10_, h11_, h12_, h13_, h14_, h15_, h16_, h17_, h18_, h19_, h20_, h21_, h22_, h23_, h24_, h25_, h26_, h27_, h28_, h29_⟩
  have BK290 : Aside0 (w45.heap[gb290]? = some (.cells #[.int .u64 0, .int .u64 0, .int .u64 0] 25 (0, 0))) := ⟨h5_⟩
  have BK291 : Aside0 (w45.heap[gb291]? = some (.cells #[.int .u64 0, .int .u64 0, .int .u64 0] 25 (0, 0))) := ⟨h6_⟩
  have GW290 : Aside0 (w.heap.size ≤ gb290) := ⟨h7_⟩
  have GE290 : Aside0 (w.heap.size ≤ gb290) := ⟨h8_⟩
  have NB266_290 : Aside0 (gb266 ≠ gb290) := ⟨h9_⟩
  have NB290_266 : Aside0 (gb290 ≠ gb266) := ⟨h10_⟩
  have NB267_290 : Aside0 (gb267 ≠ gb290) := ⟨h11_⟩
  have NB290_267 : Aside0 (gb290 ≠ gb267) := ⟨h12_⟩
  have NB268_290 : Aside0 (gb268 ≠ gb290) := ⟨h13_⟩
  have NB290_268 : Aside0 (gb290 ≠ gb268) := ⟨h14_⟩
  have NB277_290 : Aside0 (gb277 ≠ gb290) := ⟨h15_⟩
  have NB290_277 : Aside0 (gb290 ≠ gb277) := ⟨h16_⟩
  have NB291_290 : Aside0 (gb291 ≠ gb290) := ⟨h17_⟩
  have NB290_291 : Aside0 (gb290 ≠ gb291) := ⟨h18_⟩
  have GW291 : Aside0 (w.heap.size ≤ gb291) := ⟨h19_⟩
  have GE291 : Aside0 (w.heap.size ≤ gb291) := ⟨h20_⟩
  have NB266_291 : Aside0 (gb266 ≠ gb291) := ⟨h21_⟩
  have NB291_266 : Aside0 (gb291 ≠ gb266) := ⟨h22_⟩
  have NB267_291 : Aside0 (gb267 ≠ gb291) := ⟨h23_⟩
  have NB291_267 : Aside0 (gb291 ≠ gb267) := ⟨h24_⟩
  have NB268_291 : Aside0 (gb268 ≠ gb291) := ⟨h25_⟩
  have NB291_268 : Aside0 (gb291 ≠ gb268) := ⟨h26_⟩
  have NB277_291 : Aside0 (gb277 ≠ gb291) := ⟨h27_⟩
  have NB291_277 : Aside0 (gb291 ≠ gb277) := ⟨h28_⟩
  replace HO272 : Aside0 (Kd.R k25 25 w45 w.heap.size (fun k_ => k_ ≠ gb266 ∧ k_ ≠ gb267 ∧ k_ ≠ gb268 ∧ k_ ≠ gb277 ∧ k_ ≠ gb290 ∧ k_ ≠ gb291) (.slice Ao30 y270.length co30) y270) := ⟨h0_⟩
  replace BK266 : Aside0 (w45.heap[gb266]? = some (.cells #[.int .u64 a0_0, .int .u64 a0_1, .int .u64 a0_2] 25 (0, 0))) := ⟨h1_⟩
  replace BK267 : Aside0 (w45.heap[gb267]? = some (.cells #[.int .u64 a1_0, .int .u64 a1_1, .int .u64 a1_2] 25 (0, 0))) := ⟨h2_⟩
  replace BK268 : Aside0 (w45.heap[gb268]? = some (.cells #[.int .u64 a2_0, .int .u64 a2_1, .int .u64 a2_2] 25 (0, 0))) := ⟨h3_⟩
  replace BK277 : Aside0 (w45.heap[gb277]? = some (.cells #[.int .u64 t273, .int .u64 t274, .int .u64 t275] 25 (0, 0))) := ⟨h4_⟩
  replace HB : Aside0 (Below w.heap.size w w45) := ⟨h29_⟩
  clear h0_ h1_ h2_ h3_ h4_ h5_ h6_ h7_ h8_ h9_ h10_ h11_ h12_ h13_ h14_ h15_ h16_ h17_ h18_ h19_ h20_ h21_ h22_ h23_ h24_ h25_ h26_ h27_ h28_ h29_
  have hHeld : w45.cell? ⟨gb266, 0, none⟩ = some (.int .u64 a0_0) ∧ w45.cell? ⟨gb266, 1, none⟩ = some (.int .u64 a0_1) ∧ w45.cell? ⟨gb266, 2, none⟩ = some (.int .u64 a0_2) ∧ w45.cell? ⟨gb267, 0, none⟩ = some (.int .u64 a1_0) ∧ w45.cell? ⟨gb267, 1, none⟩ = some (.int .u64 a1_1) ∧ w45.cell? ⟨gb267, 2, none⟩ = some (.int .u64 a1_2) ∧ w45.cell? ⟨gb268, 0, none⟩ = some (.int .u64 a2_0) ∧ w45.cell? ⟨gb268, 1, none⟩ = some (.int .u64 a2_1) ∧ w45.cell? ⟨gb268, 2, none⟩ = some (.int .u64 a2_2) := hS_
  refine norm_ (a' := ?_) ?_ ?_
  rotate_left
  ·simp only [putAll, Act.put, List.setIfInBounds_toArray, List.set_cons_zero, List.set_cons_succ]
   rfl
  refine one_ (i := 12) (N := none) #[true, true, true, true, true, true, true, true, true, true, true, true, true, false] rfl rfl (one_of HT_.out (by kernel_rfl)) (by decide) (fun K hK => ?_)
  have hs46 : w45.cell? ⟨gb290, 0, none⟩ = some (.int .u64 0) := (blk_cell BK290.out 0).trans rfl
  have hfs46 := blk_frozen BK290.out 0
  have hns46_0 := NB266_290.out
  have hns46_1 := NB267_290.out
  have hns46_2 := NB268_290.out
  have hns46_3 := NB277_290.out
  have hns46_5 := NB291_290.out
  have hms46_0 := NB290_266.out
  have hms46_1 := NB290_267.out
  have hms46_2 := NB290_268.out
  have hms46_3 := NB290_277.out
  have hms46_5 := NB290_291.out
  have hs47 : w45.cell? ⟨gb290, 1, none⟩ = some (.int .u64 0) := (blk_cell BK290.out 1).trans rfl
  have hfs47 := blk_frozen BK290.out 1
  have hns47_0 := NB266_290.out
  have hns47_1 := NB267_290.out
  have hns47_2 := NB268_290.out
  have hns47_3 := NB277_290.out
  have hns47_5 := NB291_290.out
  have hms47_0 := NB290_266.out
  have hms47_1 := NB290_267.out
  have hms47_2 := NB290_268.out
  have hms47_3 := NB290_277.out
  have hms47_5 := NB290_291.out
  have hs48 : w45.cell? ⟨gb290, 2, none⟩ = some (.int .u64 0) := (blk_cell BK290.out 2).trans rfl
  have hfs48 := blk_frozen BK290.out 2
  have hns48_0 := NB266_290.out
  have hns48_1 := NB267_290.out
  have hns48_2 := NB268_290.out
  have hns48_3 := NB277_290.out
  have hns48_5 := NB291_290.out
  have hms48_0 := NB290_266.out
  have hms48_1 := NB290_267.out
  have hms48_2 := NB290_268.out
  have hms48_3 := NB290_277.out
  have hms48_5 := NB290_291.out
  refine skip_ (w1 := ?_) (by rfl) rfl ?_ ?_
  rotate_left
  ·go_simp
   rfl
  refine hK.out _ _ ⟨((cell_far (p := ⟨gb290, _, none⟩) NB266_290.out _).trans (((cell_far (p := ⟨gb290, _, none⟩) NB266_290.out _).trans (((cell_far (p := ⟨gb290, _, none⟩) NB266_290.out _).trans (hHeld.1)))))), ((cell_far (p := ⟨gb290, _, none⟩) NB266_290.out _).trans (((cell_far (p := ⟨gb290, _, none⟩) NB266_290.out _).trans (((cell_far (p := ⟨gb290, _, none⟩) NB266_290.out _).trans (hHeld.2.1)))))), ((cell_far (p := ⟨gb290, _, none⟩) NB266_290.out _).trans (((cell_far (p := ⟨gb290, _, none⟩) NB266_290.out _).trans (((cell_far (p := ⟨gb290, _, none⟩) NB266_290.out _).trans (hHeld.2.2.1)))))), ((cell_far (p := ⟨gb290, _, none⟩) NB267_290.out _).trans (((cell_far (p := ⟨gb290, _, none⟩) NB267_290.out _).trans (((cell_far (p := ⟨gb290, _, none⟩) NB267_290.out _).trans (hHeld.2.2.2.1)))))), ((cell_far (p := ⟨gb290, _, none⟩) NB267_290.out _).trans (((cell_far (p := ⟨gb290, _, none⟩) NB267_290.out _).trans (((cell_far (p := ⟨gb290, _, none⟩) NB267_290.out _).trans (hHeld.2.2.2.2.1)))))), ((cell_far (p := ⟨gb290, _, none⟩) NB267_290.out _).trans (((cell_far (p := ⟨gb290, _, none⟩) NB267_290.out _).trans (((cell_far (p := ⟨gb290, _, none⟩) NB267_290.out _).trans (hHeld.2.2.2.2.2.1)))))), ((cell_far (p := ⟨gb290, _, none⟩) NB268_290.out _).trans (((cell_far (p := ⟨gb290, _, none⟩) NB268_290.out _).trans (((cell_far (p := ⟨gb290, _, none⟩) NB268_290.out _).trans (hHeld.2.2.2.2.2.2.1)))))), ((cell_far (p := ⟨gb290, _, none⟩) NB268_290.out _).trans (((cell_far (p := ⟨gb290, _, none⟩) NB268_290.out _).trans (((cell_far (p := ⟨gb290, _, none⟩) NB268_290.out _).trans (hHeld.2.2.2.2.2.2.2.1)))))), ((cell_far (p := ⟨gb290, _, none⟩) NB268_290.out _).trans (((cell_far (p := ⟨gb290, _, none⟩) NB268_290.out _).trans (((cell_far (p := ⟨gb290, _, none⟩) NB268_290.out _).trans (hHeld.2.2.2.2.2.2.2.2))))))⟩ (fun hHeld => ?_)
  clear hK K
  refine one_ (i := 13) (N := none) #[true, true, true, true, true, true, true, true, true, true, true, true, true, true] rfl rfl (one_of HT_.out (by kernel_rfl)) (by decide) (fun K hK => ?_)
  have hs49 : w45.cell? ⟨gb291, 0, none⟩ = some (.int .u64 0) := (blk_cell BK291.out 0).trans rfl
  have hfs49 := blk_frozen BK291.out 0
  have hns49_0 := NB266_291.out
  have hns49_1 := NB267_291.out
  have hns49_2 := NB268_291.out
  have hns49_3 := NB277_291.out
  have hns49_4 := NB290_291.out
  have hms49_0 := NB291_266.out
  have hms49_1 := NB291_267.out
  have hms49_2 := NB291_268.out
  have hms49_3 := NB291_277.out
  have hms49_4 := NB291_290.out
  have hs50 : w45.cell? ⟨gb291, 1, none⟩ = some (.int .u64 0) := (blk_cell BK291.out 1).trans rfl
  have hfs50 := blk_frozen BK291.out 1
  have hns50_0 := NB266_291.out
  have hns50_1 := NB267_291.out
  have hns50_2 := NB268_291.out
  have hns50_3 := NB277_291.out
  have hns50_4 := NB290_291.out
  have hms50_0 := NB291_266.out
  have hms50_1 := NB291_267.out
  have hms50_2 := NB291_268.out
  have hms50_3 := NB291_277.out
  have hms50_4 := NB291_290.out
  have hs51 : w45.cell? ⟨gb291, 2, none⟩ = some (.int .u64 0) := (blk_cell BK291.out 2).trans rfl
  have hfs51 := blk_frozen BK291.out 2
  have hns51_0 := NB266_291.out
  have hns51_1 := NB267_291.out
  have hns51_2 := NB268_291.out
  have hns51_3 := NB277_291.out
  have hns51_4 := NB290_291.out
  have hms51_0 := NB291_266.out
  have hms51_1 := NB291_267.out
  have hms51_2 := NB291_268.out
  have hms51_3 := NB291_277.out
  have hms51_4 := NB291_290.out
  refine skip_ (w1 := ?_) (by rfl) rfl ?_ ?_
  rotate_left
  ·go_simp
   rfl
  refine hK.out _ _ ⟨((cell_far (p := ⟨gb291, _, none⟩) NB266_291.out _).trans (((cell_far (p := ⟨gb291, _, none⟩) NB266_291.out _).trans (((cell_far (p := ⟨gb291, _, none⟩) NB266_291.out _).trans (hHeld.1)))))), ((cell_far (p := ⟨gb291, _, none⟩) NB266_291.out _).trans (((cell_far (p := ⟨gb291, _, none⟩) NB266_291.out _).trans (((cell_far (p := ⟨gb291, _, none⟩) NB266_291.out _).trans (hHeld.2.1)))))), ((cell_far (p := ⟨gb291, _, none⟩) NB266_291.out _).trans (((cell_far (p := ⟨gb291, _, none⟩) NB266_291.out _).trans (((cell_far (p := ⟨gb291, _, none⟩) NB266_291.out _).trans (hHeld.2.2.1)))))), ((cell_far (p := ⟨gb291, _, none⟩) NB267_291.out _).trans (((cell_far (p := ⟨gb291, _, none⟩) NB267_291.out _).trans (((cell_far (p := ⟨gb291, _, none⟩) NB267_291.out _).trans (hHeld.2.2.2.1)))))), ((cell_far (p := ⟨gb291, _, none⟩) NB267_291.out _).trans (((cell_far (p := ⟨gb291, _, none⟩) NB267_291.out _).trans (((cell_far (p := ⟨gb291, _, none⟩) NB267_291.out _).trans (hHeld.2.2.2.2.1)))))), ((cell_far (p := ⟨gb291, _, none⟩) NB267_291.out _).trans (((cell_far (p := ⟨gb291, _, none⟩) NB267_291.out _).trans (((cell_far (p := ⟨gb291, _, none⟩) NB267_291.out _).trans (hHeld.2.2.2.2.2.1)))))), ((cell_far (p := ⟨gb291, _, none⟩) NB268_291.out _).trans (((cell_far (p := ⟨gb291, _, none⟩) NB268_291.out _).trans (((cell_far (p := ⟨gb291, _, none⟩) NB268_291.out _).trans (hHeld.2.2.2.2.2.2.1)))))), ((cell_far (p := ⟨gb291, _, none⟩) NB268_291.out _).trans (((cell_far (p := ⟨gb291, _, none⟩) NB268_291.out _).trans (((cell_far (p := ⟨gb291, _, none⟩) NB268_291.out _).trans (hHeld.2.2.2.2.2.2.2.1)))))), ((cell_far (p := ⟨gb291, _, none⟩) NB268_291.out _).trans (((cell_far (p := ⟨gb291, _, none⟩) NB268_291.out _).trans (((cell_far (p := ⟨gb291, _, none⟩) NB268_291.out _).trans (hHeld.2.2.2.2.2.2.2.2))))))⟩ (fun hHeld => ?_)
  clear hK K
  refine done_ (done_of HT_.out (by kernel_rfl)) ?_
  try go_wp2
  have n0_ : Aside0 (Kd.R k25 25 ((((((w45.setCell ⟨gb290, 0, none⟩ (.int .u64 t281)).setCell ⟨gb290, 1, none⟩ (.int .u64 t282)).setCell ⟨gb290, 2, none⟩ (.int .u64 t283)).setCell ⟨gb291, 0, none⟩ (.int .u64 t287)).setCell ⟨gb291, 1, none⟩ (.int .u64 t288)).setCell ⟨gb291, 2, none⟩ (.int .u64 t289)) w.heap.size (fun k_ => k_ ≠ gb266 ∧ k_ ≠ gb267 ∧ k_ ≠ gb268 ∧ k_ ≠ gb277 ∧ k_ ≠ gb290 ∧ k_ ≠ gb291) (.slice Ao30 y270.length co30) y270) := ⟨by (with_reducible repeat (first | apply Kd.R_alloc | apply Kd.R_drewN | apply Kd.R_drew)); exact Kd.R_mono (Kd.R_far (p := ⟨gb291, 2, none⟩) (Kd.R_far (p := ⟨gb291, 1, none⟩) (Kd.R_far (p := ⟨gb291, 0, none⟩) (Kd.R_far (p := ⟨gb290, 2, none⟩) (Kd.R_far (p := ⟨gb290, 1, none⟩) (Kd.R_far (p := ⟨gb290, 0, none⟩) (Kd.R_mono (Kd.R_mono HO272.out (fun k_ hk => (⟨hk, hk.2.2.2.2.1⟩ : _ ∧ k_ ≠ gb290))) (fun k_ hk => (⟨hk, hk.1.2.2.2.2.2⟩ : _ ∧ k_ ≠ gb291))) (fun _ hk => hk.1.2) (.int .u64 t281)) (fun _ hk => hk.1.2) (.int .u64 t282)) (fun _ hk => hk.1.2) (.int .u64 t283)) (fun _ hk => hk.2) (.int .u64 t287)) (fun _ hk => hk.2) (.int .u64 t288)) (fun _ hk => hk.2) (.int .u64 t289)) (fun _ hk => ⟨hk.1.1.1, ⟨hk.1.1.2.1, ⟨hk.1.1.2.2.1, ⟨hk.1.1.2.2.2.1, ⟨hk.1.1.2.2.2.2.1, hk.1.1.2.2.2.2.2⟩⟩⟩⟩⟩)⟩
  have n1_ : Aside0 (((((((w45.setCell ⟨gb290, 0, none⟩ (.int .u64 t281)).setCell ⟨gb290, 1, none⟩ (.int .u64 t282)).setCell ⟨gb290, 2, none⟩ (.int .u64 t283)).setCell ⟨gb291, 0, none⟩ (.int .u64 t287)).setCell ⟨gb291, 1, none⟩ (.int .u64 t288)).setCell ⟨gb291, 2, none⟩ (.int .u64 t289)).heap[gb266]? = some (.cells #[.int .u64 a0_0, .int .u64 a0_1, .int .u64 a0_2] 25 (0, 0))) := ⟨by (with_reducible repeat (first | refine blk_drewN ?_ _ | refine blk_drew ?_ | refine blk_alloc ?_ _)); refine blk_far ?_ NB266_291.out _; (with_reducible repeat (first | refine blk_drewN ?_ _ | refine blk_drew ?_ | refine blk_alloc ?_ _)); refine blk_far ?_ NB266_291.out _; (with_reducible repeat (first | refine blk_drewN ?_ _ | refine blk_drew ?_ | refine blk_alloc ?_ _)); refine blk_far ?_ NB266_291.out _; (with_reducible repeat (first | refine blk_drewN ?_ _ | refine blk_drew ?_ | refine blk_alloc ?_ _)); refine blk_far ?_ NB266_290.out _; (with_reducible repeat (first | refine blk_drewN ?_ _ | refine blk_drew ?_ | refine blk_alloc ?_ _)); refine blk_far ?_ NB266_290.out _; (with_reducible repeat (first | refine blk_drewN ?_ _ | refine blk_drew ?_ | refine blk_alloc ?_ _)); refine blk_far ?_ NB266_290.out _; (with_reducible repeat (first | refine blk_drewN ?_ _ | refine blk_drew ?_ | refine blk_alloc ?_ _)); exact BK266.out⟩
  have n2_ : Aside0 (((((((w45.setCell ⟨gb290, 0, none⟩ (.int .u64 t281)).setCell ⟨gb290, 1, none⟩ (.int .u64 t282)).setCell ⟨gb290, 2, none⟩ (.int .u64 t283)).setCell ⟨gb291, 0, none⟩ (.int .u64 t287)).setCell ⟨gb291, 1, none⟩ (.int .u64 t288)).setCell ⟨gb291, 2, none⟩ (.int .u64 t289)).heap[gb267]? = some (.cells #[.int .u64 a1_0, .int .u64 a1_1, .int .u64 a1_2] 25 (0, 0))) := ⟨by (with_reducible repeat (first | refine blk_drewN ?_ _ | refine blk_drew ?_ | refine blk_alloc ?_ _)); refine blk_far ?_ NB267_291.out _; (with_reducible repeat (first | refine blk_drewN ?_ _ | refine blk_drew ?_ | refine blk_alloc ?_ _)); refine blk_far ?_ NB267_291.out _; (with_reducible repeat (first | refine blk_drewN ?_ _ | refine blk_drew ?_ | refine blk_alloc ?_ _)); refine blk_far ?_ NB267_291.out _; (with_reducible repeat (first | refine blk_drewN ?_ _ | refine blk_drew ?_ | refine blk_alloc ?_ _)); refine blk_far ?_ NB267_290.out _; (with_reducible repeat (first | refine blk_drewN ?_ _ | refine blk_drew ?_ | refine blk_alloc ?_ _)); refine blk_far ?_ NB267_290.out _; (with_reducible repeat (first | refine blk_drewN ?_ _ | refine blk_drew ?_ | refine blk_alloc ?_ _)); refine blk_far ?_ NB267_290.out _; (with_reducible repeat (first | refine blk_drewN ?_ _ | refine blk_drew ?_ | refine blk_alloc ?_ _)); exact BK267.out⟩
  have n3_ : Aside0 (((((((w45.setCell ⟨gb290, 0, none⟩ (.int .u64 t281)).setCell ⟨gb290, 1, none⟩ (.int .u64 t282)).setCell ⟨gb290, 2, none⟩ (.int .u64 t283)).setCell ⟨gb291, 0, none⟩ (.int .u64 t287)).setCell ⟨gb291, 1, none⟩ (.int .u64 t288)).setCell ⟨gb291, 2, none⟩ (.int .u64 t289)).heap[gb268]? = some (.cells #[.int .u64 a2_0, .int .u64 a2_1, .int .u64 a2_2] 25 (0, 0))) := ⟨by (with_reducible repeat (first | refine blk_drewN ?_ _ | refine blk_drew ?_ | refine blk_alloc ?_ _)); refine blk_far ?_ NB268_291.out _; (with_reducible repeat (first | refine blk_drewN ?_ _ | refine blk_drew ?_ | refine blk_alloc ?_ _)); refine blk_far ?_ NB268_291.out _; (with_reducible repeat (first | refine blk_drewN ?_ _ | refine blk_drew ?_ | refine blk_alloc ?_ _)); refine blk_far ?_ NB268_291.out _; (with_reducible repeat (first | refine blk_drewN ?_ _ | refine blk_drew ?_ | refine blk_alloc ?_ _)); refine blk_far ?_ NB268_290.out _; (with_reducible repeat (first | refine blk_drewN ?_ _ | refine blk_drew ?_ | refine blk_alloc ?_ _)); refine blk_far ?_ NB268_290.out _; (with_reducible repeat (first | refine blk_drewN ?_ _ | refine blk_drew ?_ | refine blk_alloc ?_ _)); refine blk_far ?_ NB268_290.out _; (with_reducible repeat (first | refine blk_drewN ?_ _ | refine blk_drew ?_ | refine blk_alloc ?_ _)); exact BK268.out⟩
  have n4_ : Aside0 (((((((w45.setCell ⟨gb290, 0, none⟩ (.int .u64 t281)).setCell ⟨gb290, 1, none⟩ (.int .u64 t282)).setCell ⟨gb290, 2, none⟩ (.int .u64 t283)).setCell ⟨gb291, 0, none⟩ (.int .u64 t287)).setCell ⟨gb291, 1, none⟩ (.int .u64 t288)).setCell ⟨gb291, 2, none⟩ (.int .u64 t289)).heap[gb277]? = some (.cells #[.int .u64 t273, .int .u64 t274, .int .u64 t275] 25 (0, 0))) := ⟨by (with_reducible repeat (first | refine blk_drewN ?_ _ | refine blk_drew ?_ | refine blk_alloc ?_ _)); refine blk_far ?_ NB277_291.out _; (with_reducible repeat (first | refine blk_drewN ?_ _ | refine blk_drew ?_ | refine blk_alloc ?_ _)); refine blk_far ?_ NB277_291.out _; (with_reducible repeat (first | refine blk_drewN ?_ _ | refine blk_drew ?_ | refine blk_alloc ?_ _)); refine blk_far ?_ NB277_291.out _; (with_reducible repeat (first | refine blk_drewN ?_ _ | refine blk_drew ?_ | refine blk_alloc ?_ _)); refine blk_far ?_ NB277_290.out _; (with_reducible repeat (first | refine blk_drewN ?_ _ | refine blk_drew ?_ | refine blk_alloc ?_ _)); refine blk_far ?_ NB277_290.out _; (with_reducible repeat (first | refine blk_drewN ?_ _ | refine blk_drew ?_ | refine blk_alloc ?_ _)); refine blk_far ?_ NB277_290.out _; (with_reducible repeat (first | refine blk_drewN ?_ _ | refine blk_drew ?_ | refine blk_alloc ?_ _)); exact BK277.out⟩
  have n5_ : Aside0 (((((((w45.setCell ⟨gb290, 0, none⟩ (.int .u64 t281)).setCell ⟨gb290, 1, none⟩ (.int .u64 t282)).setCell ⟨gb290, 2, none⟩ (.int .u64 t283)).setCell ⟨gb291, 0, none⟩ (.int .u64 t287)).setCell ⟨gb291, 1, none⟩ (.int .u64 t288)).setCell ⟨gb291, 2, none⟩ (.int .u64 t289)).heap[gb290]? = some (.cells #[.int .u64 t281, .int .u64 t282, .int .u64 t283] 25 (0, 0))) := ⟨by (with_reducible repeat (first | refine blk_drewN ?_ _ | refine blk_drew ?_ | refine blk_alloc ?_ _)); refine blk_far ?_ NB290_291.out _; (with_reducible repeat (first | refine blk_drewN ?_ _ | refine blk_drew ?_ | refine blk_alloc ?_ _)); refine blk_far ?_ NB290_291.out _; (with_reducible repeat (first | refine blk_drewN ?_ _ | refine blk_drew ?_ | refine blk_alloc ?_ _)); refine blk_far ?_ NB290_291.out _; (with_reducible repeat (first | refine blk_drewN ?_ _ | refine blk_drew ?_ | refine blk_alloc ?_ _)); refine blk_put (cs := #[.int .u64 t281, .int .u64 t282, .int .u64 0]) ?_ 2 _ rfl; (with_reducible repeat (first | refine blk_drewN ?_ _ | refine blk_drew ?_ | refine blk_alloc ?_ _)); refine blk_put (cs := #[.int .u64 t281, .int .u64 0, .int .u64 0]) ?_ 1 _ rfl; (with_reducible repeat (first | refine blk_drewN ?_ _ | refine blk_drew ?_ | refine blk_alloc ?_ _)); refine blk_put (cs := #[.int .u64 0, .int .u64 0, .int .u64 0]) ?_ 0 _ rfl; (with_reducible repeat (first | refine blk_drewN ?_ _ | refine blk_drew ?_ | refine blk_alloc ?_ _)); exact BK290.out⟩
  have n6_ : Aside0 (((((((w45.setCell ⟨gb290, 0, none⟩ (.int .u64 t281)).setCell ⟨gb290, 1, none⟩ (.int .u64 t282)).setCell ⟨gb290, 2, none⟩ (.int .u64 t283)).setCell ⟨gb291, 0, none⟩ (.int .u64 t287)).setCell ⟨gb291, 1, none⟩ (.int .u64 t288)).setCell ⟨gb291, 2, none⟩ (.int .u64 t289)).heap[gb291]? = some (.cells #[.int .u64 t287, .int .u64 t288, .int .u64 t289] 25 (0, 0))) := ⟨by (with_reducible repeat (first | refine blk_drewN ?_ _ | refine blk_drew ?_ | refine blk_alloc ?_ _)); refine blk_put (cs := #[.int .u64 t287, .int .u64 t288, .int .u64 0]) ?_ 2 _ rfl; (with_reducible repeat (first | refine blk_drewN ?_ _ | refine blk_drew ?_ | refine blk_alloc ?_ _)); refine blk_put (cs := #[.int .u64 t287, .int .u64 0, .int .u64 0]) ?_ 1 _ rfl; (with_reducible repeat (first | refine blk_drewN ?_ _ | refine blk_drew ?_ | refine blk_alloc ?_ _)); refine blk_put (cs := #[.int .u64 0, .int .u64 0, .int .u64 0]) ?_ 0 _ rfl; (with_reducible repeat (first | refine blk_drewN ?_ _ | refine blk_drew ?_ | refine blk_alloc ?_ _)); refine blk_far ?_ NB291_290.out _; (with_reducible repeat (first | refine blk_drewN ?_ _ | refine blk_drew ?_ | refine blk_alloc ?_ _)); refine blk_far ?_ NB291_290.out _; (with_reducible repeat (first | refine blk_drewN ?_ _ | refine blk_drew ?_ | refine blk_alloc ?_ _)); refine blk_far ?_ NB291_290.out _; (with_reducible repeat (first | refine blk_drewN ?_ _ | refine blk_drew ?_ | refine blk_alloc ?_ _)); exact BK291.out⟩
  have n7_ : Aside0 (Below w.heap.size w ((((((w45.setCell ⟨gb290, 0, none⟩ (.int .u64 t281)).setCell ⟨gb290, 1, none⟩ (.int .u64 t282)).setCell ⟨gb290, 2, none⟩ (.int .u64 t283)).setCell ⟨gb291, 0, none⟩ (.int .u64 t287)).setCell ⟨gb291, 1, none⟩ (.int .u64 t288)).setCell ⟨gb291, 2, none⟩ (.int .u64 t289))) := ⟨by repeat (first | (with_reducible first | exact HB.out | apply below_alloc | apply pw_below_drewN | apply below_drew1 | refine below_set ?_ GE266.out | refine below_set ?_ GE267.out | refine below_set ?_ GE268.out | refine below_set ?_ GE277.out | refine below_set ?_ GE290.out | refine below_set ?_ GE291.out) | exact HB.out)⟩
  (try clear HO272)
  (try clear BK266)
  (try clear BK267)
  (try clear BK268)
  (try clear BK277)
  (try clear BK290)
  (try clear BK291)
  (try clear HB)
  generalize ((((((w45.setCell ⟨gb290, 0, none⟩ (.int .u64 t281)).setCell ⟨gb290, 1, none⟩ (.int .u64 t282)).setCell ⟨gb290, 2, none⟩ (.int .u64 t283)).setCell ⟨gb291, 0, none⟩ (.int .u64 t287)).setCell ⟨gb291, 1, none⟩ (.int .u64 t288)).setCell ⟨gb291, 2, none⟩ (.int .u64 t289)) = w52 at n0_ n1_ n2_ n3_ n4_ n5_ n6_ n7_ ⊢
  have HO272 := n0_
  have BK266 := n1_
  have BK267 := n2_
  have BK268 := n3_
  have BK277 := n4_
  have BK290 := n5_
  have BK291 := n6_
  have HB := n7_
  clear n0_ n1_ n2_ n3_ n4_ n5_ n6_ n7_
  replace HO272 := Aside0.mk (Kd.R_drew HO272.out)
  replace BK266 := Aside0.mk (blk_drew BK266.out)
  replace BK267 := Aside0.mk (blk_drew BK267.out)
  replace BK268 := Aside0.mk (blk_drew BK268.out)
  replace BK277 := Aside0.mk (blk_drew BK277.out)
  replace BK290 := Aside0.mk (blk_drew BK290.out)
  replace BK291 := Aside0.mk (blk_drew BK291.out)
  replace HB := Aside0.mk (below_drew1 HB.out)
  refine start_ (n := 32) (S := fun w' => w'.cell? ⟨gb266, 0, none⟩ = some (.int .u64 a0_0) ∧ w'.cell? ⟨gb266, 1, none⟩ = some (.int .u64 a0_1) ∧ w'.cell? ⟨gb266, 2, none⟩ = some (.int .u64 a0_2) ∧ w'.cell? ⟨gb267, 0, none⟩ = some (.int .u64 a1_0) ∧ w'.cell? ⟨gb267, 1, none⟩ = some (.int .u64 a1_1) ∧ w'.cell? ⟨gb267, 2, none⟩ = some (.int .u64 a1_2) ∧ w'.cell? ⟨gb290, 0, none⟩ = some (.int .u64 t281) ∧ w'.cell? ⟨gb290, 1, none⟩ = some (.int .u64 t282) ∧ w'.cell? ⟨gb290, 2, none⟩ = some (.int .u64 t283) ∧ w'.cell? ⟨gb291, 0, none⟩ = some (.int .u64 t287) ∧ w'.cell? ⟨gb291, 1, none⟩ = some (.int .u64 t288) ∧ w'.cell? ⟨gb291, 2, none⟩ = some (.int .u64 t289) ∧ w'.cell? ⟨gb277, 0, none⟩ = some (.int .u64 t273) ∧ w'.cell? ⟨gb277, 1, none⟩ = some (.int .u64 t274) ∧ w'.cell? ⟨gb277, 2, none⟩ = some (.int .u64 t275)) (ds := []) #[false, false, false, false, false, false, false, false, false, false, false, false, false, false, false, false, false, false, false, false, false, false, false, false, false, false, false, false, false, false, false, false] (by kernel_rfl) rfl rfl ⟨(blk_cell BK266.out 0).trans rfl, (blk_cell BK266.out 1).trans rfl, (blk_cell BK266.out 2).trans rfl, (blk_cell BK267.out 0).trans rfl, (blk_cell BK267.out 1).trans rfl, (blk_cell BK267.out 2).trans rfl, (blk_cell BK290.out 0).trans rfl, (blk_cell BK290.out 1).trans rfl, (blk_cell BK290.out 2).trans rfl, (blk_cell BK291.out 0).trans rfl, (blk_cell BK291.out 1).trans rfl, (blk_cell BK291.out 2).trans rfl, (blk_cell BK277.out 0).trans rfl, (blk_cell BK277.out 1).trans rfl, (blk_cell BK277.out 2).trans rfl⟩ (fun hHeld => ?_); refine with_tabW spigotlaw21_TallyAdds.tab4 spigotlaw21_TallyAdds.bits4 (fun HT_ HW_ => ?_)
  generalize w52.drew = w53 at HO272 BK266 BK267 BK268 BK277 BK290 BK291 HB hHeld ⊢
  refine pure_ (i := 0) (N := some 31) (v := ?_) (a' := ?_) #[true, false, false, false, false, false, false, false, false, false, false, false, false, false, false, false, false, false, false, false, false, false, false, false, false, false, false, false, false, false, false, false] rfl rfl (any_of HT_.out (by kernel_rfl)) (fun _ _ _ h => h) (Or.inl ⟨by rfl, ?_⟩) ?_ ?_
  rotate_left
  ·intro w'
   go_simp
   with_reducible rfl
  rotate_left
  ·simp only [Act.put, List.setIfInBounds_toArray, List.set_cons_zero, List.set_cons_succ, i64_w, i32_w]
   rfl
  refine pure_ (i := 1) (N := some 32) (v := ?_) (a' := ?_) #[true, true, false, false, false, false, false, false, false, false, false, false, false, false, false, false, false, false, false, false, false, false, false, false, false, false, false, false, false, false, false, false] rfl rfl (any_of HT_.out (by kernel_rfl)) (fun _ _ _ h => h) (Or.inl ⟨by rfl, ?_⟩) ?_ ?_
  rotate_left
  ·intro w'
   go_simp
   with_reducible rfl
  rotate_left
  ·simp only [Act.put, List.setIfInBounds_toArray, List.set_cons_zero, List.set_cons_succ, i64_w, i32_w]
   rfl
  refine pure_ (i := 2) (N := some 33) (v := ?_) (a' := ?_) #[true, true, true, false, false, false, false, false, false, false, false, false, false, false, false, false, false, false, false, false, false, false, false, false, false, false, false, false, false, false, false, false] rfl rfl (any_of HT_.out (by kernel_rfl)) (fun _ _ _ h => h) (Or.inl ⟨by rfl, ?_⟩) ?_ ?_
  rotate_left
  ·intro w'
   go_simp
   with_reducible rfl
  rotate_left
  ·simp only [Act.put, List.setIfInBounds_toArray, List.set_cons_zero, List.set_cons_succ, i64_w, i32_w]
   rfl
  refine pure_ (i := 3) (N := some 34) (v := ?_) (a' := ?_) #[true, true, true, true, false, false, false, false, false, false, false, false, false, false, false, false, false, false, false, false, false, false, false, false, false, false, false, false, false, false, false, false] rfl rfl (any_of HT_.out (by kernel_rfl)) (fun _ _ _ h => h) (Or.inl ⟨by rfl, ?_⟩) ?_ ?_
  rotate_left
  ·intro w'
   go_simp
   with_reducible rfl
  rotate_left
  ·simp only [Act.put, List.setIfInBounds_toArray, List.set_cons_zero, List.set_cons_succ, i64_w, i32_w]
   rfl
  refine pure_ (i := 4) (N := some 35) (v := ?_) (a' := ?_) #[true, true, true, true, true, false, false, false, false, false, false, false, false, false, false, false, false, false, false, false, false, false, false, false, false, false, false, false, false, false, false, false] rfl rfl (any_of HT_.out (by kernel_rfl)) (fun _ _ _ h => h) (Or.inl ⟨by rfl, ?_⟩) ?_ ?_
  rotate_left
  ·intro w'
   go_simp
   with_reducible rfl
  rotate_left
  ·simp only [Act.put, List.setIfInBounds_toArray, List.set_cons_zero, List.set_cons_succ, i64_w, i32_w]
   rfl
  refine pure_ (i := 5) (N := some 36) (v := ?_) (a' := ?_) #[true, true, true, true, true, true, false, false, false, false, false, false, false, false, false, false, false, false, false, false, false, false, false, false, false, false, false, false, false, false, false, false] rfl rfl (any_of HT_.out (by kernel_rfl)) (fun _ _ _ h => h) (Or.inl ⟨by rfl, ?_⟩) ?_ ?_
  rotate_left
  ·intro w'
   go_simp
   with_reducible rfl
  rotate_left
  ·simp only [Act.put, List.setIfInBounds_toArray, List.set_cons_zero, List.set_cons_succ, i64_w, i32_w]
   rfl
  refine take_ (i := 6) (N := some 37) (v := ?_) (a' := ?_) #[true, true, true, true, true, true, true, false, false, false, false, false, false, false, false, false, false, false, false, false, false, false, false, false, false, false, false, false, false, false, false, false] rfl rfl (take_ofW HT_.out HW_.out (by kernel_rfl)) (fun _ _ _ h => h) (Or.inl ⟨by rfl, ?_⟩) hHeld ?_ ?_
  rotate_left
  ·rintro w' ⟨s0, s1, s2, s3, s4, s5, s6, s7, s8, s9, s10, s11, s12, s13, s14⟩
   go_simp
   with_reducible rfl
  rotate_left
  ·simp only [Act.put, List.setIfInBounds_toArray, List.set_cons_zero, List.set_cons_succ, i64_w, i32_w]
   rfl
  refine take_ (i := 7) (N := some 38) (v := ?_) (a' := ?_) #[true, true, true, true, true, true, true, true, false, false, false, false, false, false, false, false, false, false, false, false, false, false, false, false, false, false, false, false, false, false, false, false] rfl rfl (take_ofW HT_.out HW_.out (by kernel_rfl)) (fun _ _ _ h => h) (Or.inl ⟨by rfl, ?_⟩) hHeld ?_ ?_
  rotate_left
  ·rintro w' ⟨s0, s1, s2, s3, s4, s5, s6, s7, s8, s9, s10, s11, s12, s13, s14⟩
   go_simp
   with_reducible rfl
  rotate_left
  ·simp only [Act.put, List.setIfInBounds_toArray, List.set_cons_zero, List.set_cons_succ, i64_w, i32_w]
   rfl
  refine take_ (i := 9) (N := some 40) (v := ?_) (a' := ?_) #[true, true, true, true, true, true, true, true, false, true, false, false, false, false, false, false, false, false, false, false, false, false, false, false, false, false, false, false, false, false, false, false] rfl rfl (take_ofW HT_.out HW_.out (by kernel_rfl)) (fun _ _ _ h => h) (Or.inl ⟨by rfl, ?_⟩) hHeld ?_ ?_
  rotate_left
  ·rintro w' ⟨s0, s1, s2, s3, s4, s5, s6, s7, s8, s9, s10, s11, s12, s13, s14⟩
   go_simp
   with_reducible rfl
  rotate_left
  ·simp only [Act.put, List.setIfInBounds_toArray, List.set_cons_zero, List.set_cons_succ, i64_w, i32_w]
   rfl
  refine take_ (i := 10) (N := some 41) (v := ?_) (a' := ?_) #[true, true, true, true, true, true, true, true, false, true, true, false, false, false, false, false, false, false, false, false, false, false, false, false, false, false, false, false, false, false, false, false] rfl rfl (take_ofW HT_.out HW_.out (by kernel_rfl)) (fun _ _ _ h => h) (Or.inl ⟨by rfl, ?_⟩) hHeld ?_ ?_
  rotate_left
  ·rintro w' ⟨s0, s1, s2, s3, s4, s5, s6, s7, s8, s9, s10, s11, s12, s13, s14⟩
   go_simp
   with_reducible rfl
  rotate_left
  ·simp only [Act.put, List.setIfInBounds_toArray, List.set_cons_zero, List.set_cons_succ, i64_w, i32_w]
   rfl
  refine one_ (i := 8) (N := some 39) #[true, true, true, true, true, true, true, true, true, true, true, false, false, false, false, false, false, false, false, false, false, false, false, false, false, false, false, false, false, false, false, false] rfl rfl (one_of HT_.out (by kernel_rfl)) (by decide) (fun K hK => ?_)
  refine goes_ Try.func22 (by kernel_rfl) rfl #[.agg #[.int .u64 a0_0, .int .u64 a0_1, .int .u64 a0_2], .agg #[.int .u64 a1_0, .int .u64 a1_1, .int .u64 a1_2]] (by rfl) rfl rfl (by (try simp only [List.map_toArray, List.map_cons, List.map_nil]); first | done | rfl | (simp only [List.length_drop, List.length_take]; rfl)) ?_
  with_reducible refine (tally_Add.calls a0_0 a0_1 a0_2 a1_0 a1_1 a1_2 t292 t293 t294 _ A12.out).mono ?_
  rintro e w54 ⟨rfl, hb⟩
  refine ⟨_, rfl, ?_⟩
  replace HO272 := Aside0.mk (Kd.R_below (by (with_reducible repeat (first | apply Kd.R_alloc | apply Kd.R_drewN | apply Kd.R_drew)); exact HO272.out) hb)
  replace BK266 := bb_ BK266 hb
  replace BK267 := bb_ BK267 hb
  replace BK268 := bb_ BK268 hb
  replace BK277 := bb_ BK277 hb
  replace BK290 := bb_ BK290 hb
  replace BK291 := bb_ BK291 hb
  replace HB := Aside0.mk (below_step (by repeat (first | (with_reducible first | exact HB.out | apply below_alloc | apply pw_below_drewN | apply below_drew1 | refine below_set ?_ (Aside0.out (by assumption))) | exact HB.out)) hb)
  (try clear hb)
  (try clear hb2)
  (try clear hk)
  (try clear hi)
  refine hK.out _ _ ⟨(blk_cell BK266.out 0).trans rfl, (blk_cell BK266.out 1).trans rfl, (blk_cell BK266.out 2).trans rfl, (blk_cell BK267.out 0).trans rfl, (blk_cell BK267.out 1).trans rfl, (blk_cell BK267.out 2).trans rfl, (blk_cell BK290.out 0).trans rfl, (blk_cell BK290.out 1).trans rfl, (blk_cell BK290.out 2).trans rfl, (blk_cell BK291.out 0).trans rfl, (blk_cell BK291.out 1).trans rfl, (blk_cell BK291.out 2).trans rfl, (blk_cell BK277.out 0).trans rfl, (blk_cell BK277.out 1).trans rfl, (blk_cell BK277.out 2).trans rfl⟩ (fun hHeld => ?_)
  clear hK K
  refine norm_ (a' := ?_) ?_ ?_
  rotate_left
  ·show Act.put _ (some 39) _ = _
   simp only [Act.put, List.setIfInBounds_toArray, List.set_cons_zero, List.set_cons_succ, i64_w, i32_w]
   rfl
  refine one_ (i := 11) (N := some 42) #[true, true, true, true, true, true, true, true, true, true, true, true, false, false, false, false, false, false, false, false, false, false, false, false, false, false, false, false, false, false, false, false] rfl rfl (one_of HT_.out (by kernel_rfl)) (by decide) (fun K hK => ?_)
  refine goes_ Try.func22 (by kernel_rfl) rfl #[.agg #[.int .u64 a1_0, .int .u64 a1_1, .int .u64 a1_2], .agg #[.int .u64 a0_0, .int .u64 a0_1, .int .u64 a0_2]] (by rfl) rfl rfl (by (try simp only [List.map_toArray, List.map_cons, List.map_nil]); first | done | rfl | (simp only [List.length_drop, List.length_take]; rfl)) ?_
  with_reducible refine (tally_Add.calls a1_0 a1_1 a1_2 a0_0 a0_1 a0_2 t295 t296 t297 _ A13.out).mono ?_
  rintro e w55 ⟨rfl, hb⟩
  refine ⟨_, rfl, ?_⟩
  replace HO272 := Aside0.mk (Kd.R_below (by (with_reducible repeat (first | apply Kd.R_alloc | apply Kd.R_drewN | apply Kd.R_drew)); exact HO272.out) hb)
  replace BK266 := bb_ BK266 hb
  replace BK267 := bb_ BK267 hb
  replace BK268 := bb_ BK268 hb
  replace BK277 := bb_ BK277 hb
  replace BK290 := bb_ BK290 hb
  replace BK291 := bb_ BK291 hb
  replace HB := Aside0.mk (below_step (by repeat (first | (with_reducible first | exact HB.out | apply below_alloc | apply pw_below_drewN | apply below_drew1 | refine below_set ?_ (Aside0.out (by assumption))) | exact HB.out)) hb)
  (try clear hb)
  (try clear hb2)
  (try clear hk)
  (try clear hi)
  refine hK.out _ _ ⟨(blk_cell BK266.out 0).trans rfl, (blk_cell BK266.out 1).trans rfl, (blk_cell BK266.out 2).trans rfl, (blk_cell BK267.out 0).trans rfl, (blk_cell BK267.out 1).trans rfl, (blk_cell BK267.out 2).trans rfl, (blk_cell BK290.out 0).trans rfl, (blk_cell BK290.out 1).trans rfl, (blk_cell BK290.out 2).trans rfl, (blk_cell BK291.out 0).trans rfl, (blk_cell BK291.out 1).trans rfl, (blk_cell BK291.out 2).trans rfl, (blk_cell BK277.out 0).trans rfl, (blk_cell BK277.out 1).trans rfl, (blk_cell BK277.out 2).trans rfl⟩ (fun hHeld => ?_)
  clear hK K
  refine norm_ (a' := ?_) ?_ ?_
  rotate_left
  ·show Act.put _ (some 42) _ = _
   simp only [Act.put, List.setIfInBounds_toArray, List.set_cons_zero, List.set_cons_succ, i64_w, i32_w]
   rfl
  refine pure_ (i := 12) (N := some 43) (v := ?_) (a' := ?_) #[true, true, true, true, true, true, true, true, true, true, true, true, true, false, false, false, false, false, false, false, false, false, false, false, false, false, false, false, false, false, false, false] rfl rfl (any_of HT_.out (by kernel_rfl)) (fun _ _ _ h => h) (Or.inl ⟨by rfl, ?_⟩) ?_ ?_
  rotate_left
  ·intro w'
   go_simp
   with_reducible rfl
  rotate_left
  ·simp only [Act.put, List.setIfInBounds_toArray, List.set_cons_zero, List.set_cons_succ, i64_w, i32_w]
   rfl
  refine pure_ (i := 13) (N := some 44) (v := ?_) (a' := ?_) #[true, true, true, true, true, true, true, true, true, true, true, true, true, true, false, false, false, false, false, false, false, false, false, false, false, false, false, false, false, false, false, false] rfl rfl (any_of HT_.out (by kernel_rfl)) (fun _ _ _ h => h) (Or.inl ⟨by rfl, ?_⟩) ?_ ?_
  rotate_left
  ·intro w'
   go_simp
   with_reducible rfl
  rotate_left
  ·simp only [Act.put, List.setIfInBounds_toArray, List.set_cons_zero, List.set_cons_succ, i64_w, i32_w]
   rfl
  refine pure_ (i := 14) (N := some 45) (v := ?_) (a' := ?_) #[true, true, true, true, true, true, true, true, true, true, true, true, true, true, true, false, false, false, false, false, false, false, false, false, false, false, false, false, false, false, false, false] rfl rfl (any_of HT_.out (by kernel_rfl)) (fun _ _ _ h => h) (Or.inl ⟨by rfl, ?_⟩) ?_ ?_
  rotate_left
  ·intro w'
   go_simp
   with_reducible rfl
  rotate_left
  ·simp only [Act.put, List.setIfInBounds_toArray, List.set_cons_zero, List.set_cons_succ, i64_w, i32_w]
   rfl
  refine take_ (i := 15) (N := some 46) (v := ?_) (a' := ?_) #[true, true, true, true, true, true, true, true, true, true, true, true, true, true, true, true, false, false, false, false, false, false, false, false, false, false, false, false, false, false, false, false] rfl rfl (take_ofW HT_.out HW_.out (by kernel_rfl)) (fun _ _ _ h => h) (Or.inl ⟨by rfl, ?_⟩) hHeld ?_ ?_
  rotate_left
  ·rintro w' ⟨s0, s1, s2, s3, s4, s5, s6, s7, s8, s9, s10, s11, s12, s13, s14⟩
   go_simp
   with_reducible rfl
  rotate_left
  ·simp only [Act.put, List.setIfInBounds_toArray, List.set_cons_zero, List.set_cons_succ, i64_w, i32_w]
   rfl
  refine take_ (i := 16) (N := some 47) (v := ?_) (a' := ?_) #[true, true, true, true, true, true, true, true, true, true, true, true, true, true, true, true, true, false, false, false, false, false, false, false, false, false, false, false, false, false, false, false] rfl rfl (take_ofW HT_.out HW_.out (by kernel_rfl)) (fun _ _ _ h => h) (Or.inl ⟨by rfl, ?_⟩) hHeld ?_ ?_
  rotate_left
  ·rintro w' ⟨s0, s1, s2, s3, s4, s5, s6, s7, s8, s9, s10, s11, s12, s13, s14⟩
   go_simp
   with_reducible rfl
  rotate_left
  ·simp only [Act.put, List.setIfInBounds_toArray, List.set_cons_zero, List.set_cons_succ, i64_w, i32_w]
   rfl
  refine pure_ (i := 17) (N := some 48) (v := ?_) (a' := ?_) #[true, true, true, true, true, true, true, true, true, true, true, true, true, true, true, true, true, true, false, false, false, false, false, false, false, false, false, false, false, false, false, false] rfl rfl (any_of HT_.out (by kernel_rfl)) (fun _ _ _ h => h) (Or.inl ⟨by rfl, ?_⟩) ?_ ?_
  rotate_left
  ·intro w'
   go_simp
   with_reducible rfl
  rotate_left
  ·simp only [Act.put, List.setIfInBounds_toArray, List.set_cons_zero, List.set_cons_succ, i64_w, i32_w]
   rfl
  refine pure_ (i := 18) (N := some 49) (v := ?_) (a' := ?_) #[true, true, true, true, true, true, true, true, true, true, true, true, true, true, true, true, true, true, true, false, false, false, false, false, false, false, false, false, false, false, false, false] rfl rfl (any_of HT_.out (by kernel_rfl)) (fun _ _ _ h => h) (Or.inl ⟨by rfl, ?_⟩) ?_ ?_
  rotate_left
  ·intro w'
   go_simp
   with_reducible rfl
  rotate_left
  ·simp only [Act.put, List.setIfInBounds_toArray, List.set_cons_zero, List.set_cons_succ, i64_w, i32_w]
   rfl
  refine pure_ (i := 19) (N := some 50) (v := ?_) (a' := ?_) #[true, true, true, true, true, true, true, true, true, true, true, true, true, true, true, true, true, true, true, true, false, false, false, false, false, false, false, false, false, false, false, false] rfl rfl (any_of HT_.out (by kernel_rfl)) (fun _ _ _ h => h) (Or.inl ⟨by rfl, ?_⟩) ?_ ?_
  rotate_left
  ·intro w'
   go_simp
   with_reducible rfl
  rotate_left
  ·simp only [Act.put, List.setIfInBounds_toArray, List.set_cons_zero, List.set_cons_succ, i64_w, i32_w]
   rfl
  refine take_ (i := 20) (N := some 51) (v := ?_) (a' := ?_) #[true, true, true, true, true, true, true, true, true, true, true, true, true, true, true, true, true, true, true, true, true, false, false, false, false, false, false, false, false, false, false, false] rfl rfl (take_ofW HT_.out HW_.out (by kernel_rfl)) (fun _ _ _ h => h) (Or.inl ⟨by rfl, ?_⟩) hHeld ?_ ?_
  rotate_left
  ·rintro w' ⟨s0, s1, s2, s3, s4, s5, s6, s7, s8, s9, s10, s11, s12, s13, s14⟩
   go_simp
   with_reducible rfl
  rotate_left
  ·simp only [Act.put, List.setIfInBounds_toArray, List.set_cons_zero, List.set_cons_succ, i64_w, i32_w]
   rfl
  refine take_ (i := 21) (N := some 52) (v := ?_) (a' := ?_) #[true, true, true, true, true, true, true, true, true, true, true, true, true, true, true, true, true, true, true, true, true, true, false, false, false, false, false, false, false, false, false, false] rfl rfl (take_ofW HT_.out HW_.out (by kernel_rfl)) (fun _ _ _ h => h) (Or.inl ⟨by rfl, ?_⟩) hHeld ?_ ?_
  rotate_left
  ·rintro w' ⟨s0, s1, s2, s3, s4, s5, s6, s7, s8, s9, s10, s11, s12, s13, s14⟩
   go_simp
   with_reducible rfl
  rotate_left
  ·simp only [Act.put, List.setIfInBounds_toArray, List.set_cons_zero, List.set_cons_succ, i64_w, i32_w]
   rfl
  refine pure_ (i := 22) (N := some 53) (v := ?_) (a' := ?_) #[true, true, true, true, true, true, true, true, true, true, true, true, true, true, true, true, true, true, true, true, true, true, true, false, false, false, false, false, false, false, false, false] rfl rfl (any_of HT_.out (by kernel_rfl)) (fun _ _ _ h => h) (Or.inl ⟨by rfl, ?_⟩) ?_ ?_
  rotate_left
  ·intro w'
   go_simp
   with_reducible rfl
  rotate_left
  ·simp only [Act.put, List.setIfInBounds_toArray, List.set_cons_zero, List.set_cons_succ, i64_w, i32_w]
   rfl
  refine pure_ (i := 23) (N := some 54) (v := ?_) (a' := ?_) #[true, true, true, true, true, true, true, true, true, true, true, true, true, true, true, true, true, true, true, true, true, true, true, true, false, false, false, false, false, false, false, false] rfl rfl (any_of HT_.out (by kernel_rfl)) (fun _ _ _ h => h) (Or.inl ⟨by rfl, ?_⟩) ?_ ?_
  rotate_left
  ·intro w'
   go_simp
   with_reducible rfl
  rotate_left
  ·simp only [Act.put, List.setIfInBounds_toArray, List.set_cons_zero, List.set_cons_succ, i64_w, i32_w]
   rfl
  refine pure_ (i := 24) (N := some 55) (v := ?_) (a' := ?_) #[true, true, true, true, true, true, true, true, true, true, true, true, true, true, true, true, true, true, true, true, true, true, true, true, true, false, false, false, false, false, false, false] rfl rfl (any_of HT_.out (by kernel_rfl)) (fun _ _ _ h => h) (Or.inl ⟨by rfl, ?_⟩) ?_ ?_
  rotate_left
  ·intro w'
   go_simp
   with_reducible rfl
  rotate_left
  ·simp only [Act.put, List.setIfInBounds_toArray, List.set_cons_zero, List.set_cons_succ, i64_w, i32_w]
   rfl
  refine pure_ (i := 26) (N := some 57) (v := ?_) (a' := ?_) #[true, true, true, true, true, true, true, true, true, true, true, true, true, true, true, true, true, true, true, true, true, true, true, true, true, false, true, false, false, false, false, false] rfl rfl (any_of HT_.out (by kernel_rfl)) (fun _ _ _ h => h) (Or.inl ⟨by rfl, ?_⟩) ?_ ?_
  rotate_left
  ·intro w'
   go_simp
   with_reducible rfl
  rotate_left
  ·simp only [Act.put, List.setIfInBounds_toArray, List.set_cons_zero, List.set_cons_succ, i64_w, i32_w]
   rfl
  refine take_ (i := 25) (N := some 56) (v := ?_) (a' := ?_) #[true, true, true, true, true, true, true, true, true, true, true, true, true, true, true, true, true, true, true, true, true, true, true, true, true, true, true, false, false, false, false, false] rfl rfl (take_ofW HT_.out HW_.out (by kernel_rfl)) (fun _ _ _ h => h) (Or.inl ⟨by rfl, ?_⟩) hHeld ?_ ?_
  rotate_left
  ·rintro w' ⟨s0, s1, s2, s3, s4, s5, s6, s7, s8, s9, s10, s11, s12, s13, s14⟩
   go_simp
   with_reducible rfl
  rotate_left
  ·simp only [Act.put, List.setIfInBounds_toArray, List.set_cons_zero, List.set_cons_succ, i64_w, i32_w]
   rfl
  refine take_ (i := 28) (N := some 59) (v := ?_) (a' := ?_) #[true, true, true, true, true, true, true, true, true, true, true, true, true, true, true, true, true, true, true, true, true, true, true, true, true, true, true, false, true, false, false, false] rfl rfl (take_ofW HT_.out HW_.out (by kernel_rfl)) (fun _ _ _ h => h) (Or.inl ⟨by rfl, ?_⟩) hHeld ?_ ?_
  rotate_left
  ·rintro w' ⟨s0, s1, s2, s3, s4, s5, s6, s7, s8, s9, s10, s11, s12, s13, s14⟩
   go_simp
   with_reducible rfl
  rotate_left
  ·simp only [Act.put, List.setIfInBounds_toArray, List.set_cons_zero, List.set_cons_succ, i64_w, i32_w]
   rfl
  refine one_ (i := 27) (N := some 58) #[true, true, true, true, true, true, true, true, true, true, true, true, true, true, true, true, true, true, true, true, true, true, true, true, true, true, true, true, true, false, false, false] rfl rfl (one_of HT_.out (by kernel_rfl)) (by decide) (fun K hK => ?_)
  refine goes_ Try.func22 (by kernel_rfl) rfl #[.agg #[.int .u64 a0_0, .int .u64 a0_1, .int .u64 a0_2], .agg #[.int .u64 0, .int .u64 0, .int .u64 0]] (by rfl) rfl rfl (by (try simp only [List.map_toArray, List.map_cons, List.map_nil]); first | done | rfl | (simp only [List.length_drop, List.length_take]; rfl)) ?_
  with_reducible refine (tally_Add.calls a0_0 a0_1 a0_2 0 0 0 t298 t299 t300 _ A17.out).mono ?_
  rintro e w56 ⟨rfl, hb⟩
  refine ⟨_, rfl, ?_⟩
  replace HO272 := Aside0.mk (Kd.R_below (by (with_reducible repeat (first | apply Kd.R_alloc | apply Kd.R_drewN | apply Kd.R_drew)); exact HO272.out) hb)
  replace BK266 := bb_ BK266 hb
  replace BK267 := bb_ BK267 hb
  replace BK268 := bb_ BK268 hb
  replace BK277 := bb_ BK277 hb
  replace BK290 := bb_ BK290 hb
  replace BK291 := bb_ BK291 hb
  replace HB := Aside0.mk (below_step (by repeat (first | (with_reducible first | exact HB.out | apply below_alloc | apply pw_below_drewN | apply below_drew1 | refine below_set ?_ (Aside0.out (by assumption))) | exact HB.out)) hb)
  (try clear hb)
  (try clear hb2)
  (try clear hk)
  (try clear hi)
  refine hK.out _ _ ⟨(blk_cell BK266.out 0).trans rfl, (blk_cell BK266.out 1).trans rfl, (blk_cell BK266.out 2).trans rfl, (blk_cell BK267.out 0).trans rfl, (blk_cell BK267.out 1).trans rfl, (blk_cell BK267.out 2).trans rfl, (blk_cell BK290.out 0).trans rfl, (blk_cell BK290.out 1).trans rfl, (blk_cell BK290.out 2).trans rfl, (blk_cell BK291.out 0).trans rfl, (blk_cell BK291.out 1).trans rfl, (blk_cell BK291.out 2).trans rfl, (blk_cell BK277.out 0).trans rfl, (blk_cell BK277.out 1).trans rfl, (blk_cell BK277.out 2).trans rfl⟩ (fun hHeld => ?_)
  clear hK K
  refine norm_ (a' := ?_) ?_ ?_
  rotate_left
  ·show Act.put _ (some 58) _ = _
   simp only [Act.put, List.setIfInBounds_toArray, List.set_cons_zero, List.set_cons_succ, i64_w, i32_w]
   rfl
  refine pure_ (i := 29) (N := some 60) (v := ?_) (a' := ?_) #[true, true, true, true, true, true, true, true, true, true, true, true, true, true, true, true, true, true, true, true, true, true, true, true, true, true, true, true, true, true, false, false] rfl rfl (any_of HT_.out (by kernel_rfl)) (fun _ _ _ h => h) (Or.inl ⟨by rfl, ?_⟩) ?_ ?_
  rotate_left
  ·intro w'
   go_simp
   with_reducible rfl
  rotate_left
  ·simp only [Act.put, List.setIfInBounds_toArray, List.set_cons_zero, List.set_cons_succ, i64_w, i32_w]
   rfl
  refine pure_ (i := 30) (N := some 61) (v := ?_) (a' := ?_) #[true, true, true, true, true, true, true, true, true, true, true, true, true, true, true, true, true, true, true, true, true, true, true, true, true, true, true, true, true, true, true, false] rfl rfl (any_of HT_.out (by kernel_rfl)) (fun _ _ _ h => h) (Or.inl ⟨by rfl, ?_⟩) ?_ ?_
  rotate_left
  ·intro w'
   go_simp
   with_reducible rfl
  rotate_left
  ·simp only [Act.put, List.setIfInBounds_toArray, List.set_cons_zero, List.set_cons_succ, i64_w, i32_w]
   rfl
  refine pure_ (i := 31) (N := some 6) (v := ?_) (a' := ?_) #[true, true, true, true, true, true, true, true, true, true, true, true, true, true, true, true, true, true, true, true, true, true, true, true, true, true, true, true, true, true, true, true] rfl rfl (any_of HT_.out (by kernel_rfl)) (fun _ _ _ h => h) (Or.inl ⟨by rfl, ?_⟩) ?_ ?_
  rotate_left
  ·intro w'
   go_simp
   with_reducible rfl
  rotate_left
  ·simp only [Act.put, List.setIfInBounds_toArray, List.set_cons_zero, List.set_cons_succ, i64_w, i32_w]
   rfl
  refine done_ (done_of HT_.out (by kernel_rfl)) ?_
  try go_wp2
  go_ret
  exact ⟨by first | rfl | (simp [errW_none, errW_some] <;> rfl) | (simp [*, errW_none, errW_some] <;> rfl), by repeat (first | (with_reducible first | exact HB.out | apply below_alloc | apply pw_below_drewN | apply below_drew1 | refine below_set ?_ GE266.out | refine below_set ?_ GE267.out | refine below_set ?_ GE268.out | refine below_set ?_ GE277.out | refine below_set ?_ GE290.out | refine below_set ?_ GE291.out) | exact HB.out)⟩
 ·replace c10 := Bool.eq_false_iff.mpr c10
  subst c10
  have H1 : (none) = some r := by rw [if_neg (show ¬ (false = true) by decide)] at H; exact H
  clear H
  have H := H1
  clear H1
  exact absurd H (by simp)

end Go.Proofs.Ytcdmjdghmbdikaa.X
