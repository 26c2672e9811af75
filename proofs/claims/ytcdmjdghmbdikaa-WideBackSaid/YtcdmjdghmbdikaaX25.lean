-- written by xprint.py, a program of this session over the kit's print
import Derived.Test.YtcdmjdghmbdikaaX0
import Derived.Test.YtcdmjdghmbdikaaX2
import Derived.Test.YtcdmjdghmbdikaaX16
import Derived.Test.YtcdmjdghmbdikaaX18
import Derived.Test.YtcdmjdghmbdikaaX20
import Derived.Test.YtcdmjdghmbdikaaX22
import Derived.Test.YtcdmjdghmbdikaaX23
import Derived.Test.YtcdmjdghmbdikaaX24
namespace Go.Proofs.Ytcdmjdghmbdikaa.X
open Go.RowKit Go.Proofs.YtcdmjdghmbdikaaW.PrintWords Go.Proofs.YtcdmjdghmbdikaaW.PrintLast Go.Proofs.YtcdmjdghmbdikaaW.PrintMore
attribute [local go_sem] max2_int min2_int max_two min_two max_three min_three max_four min_four   -- for this text's walks alone
set_option linter.unusedVariables false
set_option linter.unusedSimpArgs false

attribute [local go_sem high] eqA46
/-! ### spigotlaw01_WideBack: function 11 -/
def spigotlaw01_WideBack.f (k : Nat) (a0_0 : Int) (a0_1 : Int) (a1 : Int) : Option (Bool) := (wide_Div.f k a0_0 a0_1 a1).bind fun bt470 => ((wide_Up.f k a0_0 a0_1 a1).bind fun bt475 => (if a1 = 0 then (if bt470.2.2.2 = 26 then (if bt475.2.2 = 26 then ((spigotlaw01_alive.f k).bind fun t479 => (some t479)) else (none)) else (none)) else ((spigotlaw01_times.f bt470.1 bt470.2.1 a1).bind fun bt480 => ((wide_Of.f bt470.2.2.1).bind fun bt484 => ((wide_Add.f bt480.1 bt480.2.1 bt484.1 bt484.2).bind fun bt486 => (if bt470.2.2.2 = 0 then (if bt475.2.2 = 0 then (if bt470.2.2.1 ≥ a1 then (none) else (if bt480.2.2 = true then (if bt486.2.2 = 0 then (if (!(bt486.1 == a0_0) || (!(bt486.2.1 == a0_1))) = true then (none) else (if bt470.2.2.1 = 0 then (if (bt475.1 == bt470.1 && (bt475.2.1 == bt470.2.1)) = true then ((spigotlaw01_alive.f k).bind fun t490 => (some t490)) else (none)) else ((wide_Of.f 1).bind fun bt491 => ((wide_Add.f bt470.1 bt470.2.1 bt491.1 bt491.2).bind fun bt493 => (if bt493.2.2 = 0 then (if (bt475.1 == bt493.1 && (bt475.2.1 == bt493.2.1)) = true then ((spigotlaw01_alive.f k).bind fun t497 => (some t497)) else (none)) else (none)))))) else (none)) else (none))) else (none)) else (none)))))))
theorem spigotlaw01_WideBack.mono : ∀ a0 a1 a2 k, LeO (spigotlaw01_WideBack.f k a0 a1 a2) (spigotlaw01_WideBack.f (k + 1) a0 a1 a2) := by
  intro a0 a1 a2 k
  unfold spigotlaw01_WideBack.f
  repeat' first
      | (with_reducible exact spigotlaw01_alive.mono _)
      | (with_reducible exact wide_Div.mono _ _ _ _)
      | (with_reducible exact wide_Up.mono _ _ _ _)
      | (with_reducible exact LeO.refl _)
      | (with_reducible exact LeO.none _)
      | (with_reducible refine LeO.ite ?_ ?_)
      | (with_reducible refine LeO.bind ?_ (fun _ => ?_))
      | exact spigotlaw01_alive.mono _
      | exact wide_Div.mono _ _ _ _
      | exact wide_Up.mono _ _ _ _
      | exact LeO.none _
      | refine LeO.ite ?_ ?_
      | refine LeO.bind ?_ (fun _ => ?_)
def spigotlaw01_WideBack.T6 : Bool × List (List Nat × List Nat) := (true, [([], []), ([], []), ([1], [1]), ([0, 2, 2], [0, 2]), ([3], [3]), ([4], [4]), ([4], [4]), ([], []), ([7, 5, 3, 0, 1, 2, 3, 4, 5, 7], [5, 7]), ([6, 8, 0, 1, 2, 3, 4, 5, 6, 7, 8], [6])])
def spigotlaw01_WideBack.B6 : List Nat := [0, 0, 2, 7, 15, 31, 31, 0, 191, 511]
theorem spigotlaw01_WideBack.tab6 : rtab .any (opsOf Try.f11 6) = spigotlaw01_WideBack.T6 := by kernel_rfl
theorem spigotlaw01_WideBack.bits6 : waitsOk spigotlaw01_WideBack.T6.2 spigotlaw01_WideBack.B6 = true := by kernel_rfl
def spigotlaw01_WideBack.T11 : Bool × List (List Nat × List Nat) := (true, [([], []), ([], []), ([0, 1, 1], [0, 1]), ([2], [2]), ([3], [3]), ([3], [3]), ([], []), ([6, 4, 2, 0, 1, 2, 3, 4, 6], [4, 6]), ([5, 7, 0, 1, 2, 3, 4, 5, 6, 7], [5])])
def spigotlaw01_WideBack.B11 : List Nat := [0, 0, 3, 7, 15, 15, 0, 95, 255]
theorem spigotlaw01_WideBack.tab11 : rtab .any (opsOf Try.f11 11) = spigotlaw01_WideBack.T11 := by kernel_rfl
theorem spigotlaw01_WideBack.bits11 : waitsOk spigotlaw01_WideBack.T11.2 spigotlaw01_WideBack.B11 = true := by kernel_rfl
set_option maxHeartbeats 8000000 in
set_option maxRecDepth 100000 in
theorem spigotlaw01_WideBack.calls (k : Nat) (a0_0 : Int) (a0_1 : Int) (a1 : Int) (r : Bool) (w : World) (h : spigotlaw01_WideBack.f k a0_0 a0_1 a1 = some r) :
  Calls Try.prog 11 #[.agg #[.int .u64 a0_0, .int .u64 a0_1], .int .u64 a1] w fun e w' => e = .returned (.bool r) ∧ Below w.heap.size w w' := by
 have hu46 := Try.underlying46
 have HB := Aside0.mk (Below.refl w.heap.size w)
 have H : ((wide_Div.f k a0_0 a0_1 a1).bind fun bt470 => ((wide_Up.f k a0_0 a0_1 a1).bind fun bt475 => (if a1 = 0 then (if bt470.2.2.2 = 26 then (if bt475.2.2 = 26 then ((spigotlaw01_alive.f k).bind fun t479 => (some t479)) else (none)) else (none)) else ((spigotlaw01_times.f bt470.1 bt470.2.1 a1).bind fun bt480 => ((wide_Of.f bt470.2.2.1).bind fun bt484 => ((wide_Add.f bt480.1 bt480.2.1 bt484.1 bt484.2).bind fun bt486 => (if bt470.2.2.2 = 0 then (if bt475.2.2 = 0 then (if bt470.2.2.1 ≥ a1 then (none) else (if bt480.2.2 = true then (if bt486.2.2 = 0 then (if (!(bt486.1 == a0_0) || (!(bt486.2.1 == a0_1))) = true then (none) else (if bt470.2.2.1 = 0 then (if (bt475.1 == bt470.1 && (bt475.2.1 == bt470.2.1)) = true then ((spigotlaw01_alive.f k).bind fun t490 => (some t490)) else (none)) else ((wide_Of.f 1).bind fun bt491 => ((wide_Add.f bt470.1 bt470.2.1 bt491.1 bt491.2).bind fun bt493 => (if bt493.2.2 = 0 then (if (bt475.1 == bt493.1 && (bt475.2.1 == bt493.2.1)) = true then ((spigotlaw01_alive.f k).bind fun t497 => (some t497)) else (none)) else (none)))))) else (none)) else (none))) else (none)) else (none)))))))) = some r := h
 clear h
 replace H := Option.bind_eq_some_iff.mp H
 obtain ⟨⟨t470, t471, t472, t473⟩, A30, H⟩ := H
 try dsimp only at H
 have A3 := Aside0.mk A30
 clear A30
 replace H := Option.bind_eq_some_iff.mp H
 obtain ⟨⟨t475, t476, t477⟩, A40, H⟩ := H
 try dsimp only at H
 have A4 := Aside0.mk A40
 clear A40
 by_cases c5 : a1 = 0
 ·rw [if_pos c5] at H
  have c5b0 : (a1 == 0) = true := beq_iff_eq.mpr c5
  have c5b1 : (a1 != 0) = false := bne_eq_false_iff_eq.mpr c5
  clear c5
  by_cases c6 : t473 = 26
  rotate_left
  ·rw [if_neg c6] at H; exact absurd H (by simp)
  rw [if_pos c6] at H
  have c6b0 : (t473 == 26) = true := beq_iff_eq.mpr c6
  have c6b1 : (t473 != 26) = false := bne_eq_false_iff_eq.mpr c6
  clear c6
  by_cases c7 : t477 = 26
  rotate_left
  ·rw [if_neg c7] at H; exact absurd H (by simp)
  rw [if_pos c7] at H
  have c7b0 : (t477 == 26) = true := beq_iff_eq.mpr c7
  have c7b1 : (t477 != 26) = false := bne_eq_false_iff_eq.mpr c7
  clear c7
  replace H := Option.bind_eq_some_iff.mp H
  obtain ⟨t479, A80, H⟩ := H
  replace H : (some t479) = some r := H
  have A8 := Aside0.mk A80
  clear A80
  obtain rfl := Option.some.inj H
  go_enter Try.func11, Try.ntmps11
  go_wp2_with (first | ((with_reducible refine gate_dst (N := 2) rfl ?_); refine box_event ?hg (N := 2) ?hd (cs := #[.int .u64 a0_0, .int .u64 a0_1]) (t := 46) ?hr ?_; (case hd => rfl); (case hg => rfl); (case hr => first | (go_simp; done) | (go_simp; rfl)); intro gb469 hg w9 hbox hb; have BK469 := Aside0.mk (hbox); have GW469 := Aside0.mk ((by rw [hg]; exact (below_size (hq_ HB)) : w.heap.size ≤ gb469)); have GE469 := GW469; replace HB := Aside0.mk (below_step (hq_ HB) hb); clear hb hbox hg; have hcz10_0 : w9.cell? ⟨gb469, 0, none⟩ = some (.int .u64 a0_0) := (blk_cell BK469.out 0).trans rfl; have hcz10_1 : w9.cell? ⟨gb469, 1, none⟩ = some (.int .u64 a0_1) := (blk_cell BK469.out 1).trans rfl; have hfz10_0 := blk_frozen BK469.out 0; have hfz10_1 := blk_frozen BK469.out 1) | ((with_reducible refine gate_callee (f := 33) rfl ?_); refine goesL_ (some 19) rfl rfl Try.func33 (by kernel_rfl) rfl #[.agg #[.int .u64 a0_0, .int .u64 a0_1], .int .u64 a1] rfl (by (try simp only [List.map_toArray, List.map_cons, List.map_nil]); first | done | rfl | (simp only [List.length_drop, List.length_take]; rfl)) ?_; (with_reducible refine (wide_Div.calls k a0_0 a0_1 a1 t470 t471 t472 t473 _ A3.out).mono ?_); rintro e w11 ⟨rfl, hb⟩; refine ⟨_, rfl, ?_⟩; replace BK469 := bb_ BK469 hb; replace HB := Aside0.mk (below_step (by repeat (first | (with_reducible first | exact HB.out | apply below_alloc | apply pw_below_drewN | apply below_drew1 | refine below_set ?_ (Aside0.out (by assumption))) | exact HB.out)) hb); (try clear hb); (try clear hb2); (try clear hk); (try clear hi)) | ((with_reducible refine gate_dst (N := 5) rfl ?_); refine box_event ?hg (N := 5) ?hd (cs := #[.int .u64 0, .int .u64 0]) (t := 46) ?hr ?_; (case hd => rfl); (case hg => rfl); (case hr => first | (go_simp; done) | (go_simp; rfl)); intro gb474 hg w12 hbox hb; have BK474 := Aside0.mk (hbox); have GW474 := Aside0.mk ((by rw [hg]; exact (below_size (by repeat (first | (with_reducible first | exact HB.out | apply below_alloc | apply pw_below_drewN | apply below_drew1 | refine below_set ?_ (Aside0.out (by assumption))) | exact HB.out))) : w.heap.size ≤ gb474)); have GE474 := GW474; have NB469_474 := bn_ BK469 hg; have NB474_469 := bm_ BK469 hg; replace BK469 := bb_ BK469 hb; replace HB := Aside0.mk (below_step (by repeat (first | (with_reducible first | exact HB.out | apply below_alloc | apply pw_below_drewN | apply below_drew1 | refine below_set ?_ (Aside0.out (by assumption))) | exact HB.out)) hb); clear hb hbox hg; have hnb13 := NB474_469.out; have hnc13 := NB469_474.out; have hcz14_0 : w12.cell? ⟨gb474, 0, none⟩ = some (.int .u64 0) := (blk_cell BK474.out 0).trans rfl; have hcz14_1 : w12.cell? ⟨gb474, 1, none⟩ = some (.int .u64 0) := (blk_cell BK474.out 1).trans rfl; have hfz14_0 := blk_frozen BK474.out 0; have hfz14_1 := blk_frozen BK474.out 1; have hcz15_0 : w12.cell? ⟨gb469, 0, none⟩ = some (.int .u64 a0_0) := (blk_cell BK469.out 0).trans rfl; have hcz15_1 : w12.cell? ⟨gb469, 1, none⟩ = some (.int .u64 a0_1) := (blk_cell BK469.out 1).trans rfl; have hfz15_0 := blk_frozen BK469.out 0; have hfz15_1 := blk_frozen BK469.out 1) | ((with_reducible refine gate_callee (f := 35) rfl ?_); refine goesL_ (some 26) rfl rfl Try.func35 (by kernel_rfl) rfl #[.agg #[.int .u64 a0_0, .int .u64 a0_1], .int .u64 a1] rfl (by (try simp only [List.map_toArray, List.map_cons, List.map_nil]); first | done | rfl | (simp only [List.length_drop, List.length_take]; rfl)) ?_; (with_reducible refine (wide_Up.calls k a0_0 a0_1 a1 t475 t476 t477 _ A4.out).mono ?_); rintro e w16 ⟨rfl, hb⟩; refine ⟨_, rfl, ?_⟩; replace BK469 := Aside0.mk (blk_below (g := gb469) (o := .cells #[.int .u64 a0_0, .int .u64 a0_1] 46 (0, 0)) (by (with_reducible repeat (first | refine blk_drewN ?_ _ | refine blk_drew ?_ | refine blk_alloc ?_ _)); refine blk_far ?_ NB469_474.out _; (with_reducible repeat (first | refine blk_drewN ?_ _ | refine blk_drew ?_ | refine blk_alloc ?_ _)); refine blk_far ?_ NB469_474.out _; (with_reducible repeat (first | refine blk_drewN ?_ _ | refine blk_drew ?_ | refine blk_alloc ?_ _)); exact BK469.out) hb); replace BK474 := Aside0.mk (blk_below (g := gb474) (o := .cells #[.int .u64 t470, .int .u64 t471] 46 (0, 0)) (by (with_reducible repeat (first | refine blk_drewN ?_ _ | refine blk_drew ?_ | refine blk_alloc ?_ _)); refine blk_put (cs := #[.int .u64 t470, .int .u64 0]) ?_ 1 _ rfl; (with_reducible repeat (first | refine blk_drewN ?_ _ | refine blk_drew ?_ | refine blk_alloc ?_ _)); refine blk_put (cs := #[.int .u64 0, .int .u64 0]) ?_ 0 _ rfl; (with_reducible repeat (first | refine blk_drewN ?_ _ | refine blk_drew ?_ | refine blk_alloc ?_ _)); exact BK474.out) hb); replace HB := Aside0.mk (below_step (by repeat (first | (with_reducible first | exact HB.out | apply below_alloc | apply pw_below_drewN | apply below_drew1 | refine below_set ?_ (Aside0.out (by assumption))) | exact HB.out)) hb); (try clear hb); (try clear hb2); (try clear hk); (try clear hi)) | ((with_reducible refine gate_dst (N := 8) rfl ?_); refine box_event ?hg (N := 8) ?hd (cs := #[.int .u64 0, .int .u64 0]) (t := 46) ?hr ?_; (case hd => rfl); (case hg => rfl); (case hr => first | (go_simp; done) | (go_simp; rfl)); intro gb478 hg w17 hbox hb; have BK478 := Aside0.mk (hbox); have GW478 := Aside0.mk ((by rw [hg]; exact (below_size (by repeat (first | (with_reducible first | exact HB.out | apply below_alloc | apply pw_below_drewN | apply below_drew1 | refine below_set ?_ (Aside0.out (by assumption))) | exact HB.out))) : w.heap.size ≤ gb478)); have GE478 := GW478; have NB469_478 := bn_ BK469 hg; have NB478_469 := bm_ BK469 hg; have NB474_478 := bn_ BK474 hg; have NB478_474 := bm_ BK474 hg; replace BK469 := bb_ BK469 hb; replace BK474 := bb_ BK474 hb; replace HB := Aside0.mk (below_step (by repeat (first | (with_reducible first | exact HB.out | apply below_alloc | apply pw_below_drewN | apply below_drew1 | refine below_set ?_ (Aside0.out (by assumption))) | exact HB.out)) hb); clear hb hbox hg; have hnb18 := NB478_469.out; have hnc18 := NB469_478.out; have hnb19 := NB478_474.out; have hnc19 := NB474_478.out; have hcz20_0 : w17.cell? ⟨gb478, 0, none⟩ = some (.int .u64 0) := (blk_cell BK478.out 0).trans rfl; have hcz20_1 : w17.cell? ⟨gb478, 1, none⟩ = some (.int .u64 0) := (blk_cell BK478.out 1).trans rfl; have hfz20_0 := blk_frozen BK478.out 0; have hfz20_1 := blk_frozen BK478.out 1) | (go_at_call 39; (with_reducible refine (spigotlaw01_alive.calls k  t479 _ A8.out).mono ?_); rintro e w21 ⟨rfl, hb⟩; replace BK469 := Aside0.mk (blk_below (g := gb469) (o := .cells #[.int .u64 a0_0, .int .u64 a0_1] 46 (0, 0)) (by (with_reducible repeat (first | refine blk_drewN ?_ _ | refine blk_drew ?_ | refine blk_alloc ?_ _)); refine blk_far ?_ NB469_478.out _; (with_reducible repeat (first | refine blk_drewN ?_ _ | refine blk_drew ?_ | refine blk_alloc ?_ _)); refine blk_far ?_ NB469_478.out _; (with_reducible repeat (first | refine blk_drewN ?_ _ | refine blk_drew ?_ | refine blk_alloc ?_ _)); exact BK469.out) hb); replace BK474 := Aside0.mk (blk_below (g := gb474) (o := .cells #[.int .u64 t470, .int .u64 t471] 46 (0, 0)) (by (with_reducible repeat (first | refine blk_drewN ?_ _ | refine blk_drew ?_ | refine blk_alloc ?_ _)); refine blk_far ?_ NB474_478.out _; (with_reducible repeat (first | refine blk_drewN ?_ _ | refine blk_drew ?_ | refine blk_alloc ?_ _)); refine blk_far ?_ NB474_478.out _; (with_reducible repeat (first | refine blk_drewN ?_ _ | refine blk_drew ?_ | refine blk_alloc ?_ _)); exact BK474.out) hb); replace BK478 := Aside0.mk (blk_below (g := gb478) (o := .cells #[.int .u64 t475, .int .u64 t476] 46 (0, 0)) (by (with_reducible repeat (first | refine blk_drewN ?_ _ | refine blk_drew ?_ | refine blk_alloc ?_ _)); refine blk_put (cs := #[.int .u64 t475, .int .u64 0]) ?_ 1 _ rfl; (with_reducible repeat (first | refine blk_drewN ?_ _ | refine blk_drew ?_ | refine blk_alloc ?_ _)); refine blk_put (cs := #[.int .u64 0, .int .u64 0]) ?_ 0 _ rfl; (with_reducible repeat (first | refine blk_drewN ?_ _ | refine blk_drew ?_ | refine blk_alloc ?_ _)); exact BK478.out) hb); replace HB := Aside0.mk (below_step (by repeat (first | (with_reducible first | exact HB.out | apply below_alloc | apply pw_below_drewN | apply below_drew1 | refine below_set ?_ (Aside0.out (by assumption))) | exact HB.out)) hb); (try clear hb); (try clear hb2); (try clear hk); (try clear hi)))
  go_ret
  exact ⟨by first | rfl | (simp [errW_none, errW_some] <;> rfl) | (simp [*, errW_none, errW_some] <;> rfl), by repeat (first | (with_reducible first | exact HB.out | apply below_alloc | apply pw_below_drewN | apply below_drew1 | refine below_set ?_ GE469.out | refine below_set ?_ GE474.out | refine below_set ?_ GE478.out) | exact HB.out)⟩
 ·rw [if_neg c5] at H
  have c5b0 : (a1 == 0) = false := beq_eq_false_iff_ne.mpr c5
  have c5b1 : (a1 != 0) = true := bne_iff_ne.mpr c5
  replace H := Option.bind_eq_some_iff.mp H
  obtain ⟨⟨t480, t481, t482⟩, A220, H⟩ := H
  try dsimp only at H
  have A22 := Aside0.mk A220
  clear A220
  replace H := Option.bind_eq_some_iff.mp H
  obtain ⟨⟨t484, t485⟩, A230, H⟩ := H
  try dsimp only at H
  have A23 := Aside0.mk A230
  clear A230
  replace H := Option.bind_eq_some_iff.mp H
  obtain ⟨⟨t486, t487, t488⟩, A240, H⟩ := H
  try dsimp only at H
  have A24 := Aside0.mk A240
  clear A240
  by_cases c25 : t473 = 0
  rotate_left
  ·rw [if_neg c25] at H; exact absurd H (by simp)
  rw [if_pos c25] at H
  have c25b0 : (t473 == 0) = true := beq_iff_eq.mpr c25
  have c25b1 : (t473 != 0) = false := bne_eq_false_iff_eq.mpr c25
  clear c25
  by_cases c26 : t477 = 0
  rotate_left
  ·rw [if_neg c26] at H; exact absurd H (by simp)
  rw [if_pos c26] at H
  have c26b0 : (t477 == 0) = true := beq_iff_eq.mpr c26
  have c26b1 : (t477 != 0) = false := bne_eq_false_iff_eq.mpr c26
  clear c26
  by_cases c27 : t472 ≥ a1
  ·rw [if_pos c27] at H; exact absurd H (by simp)
  rw [if_neg c27] at H
  have c27b0 : decide (a1 ≤ t472) = false := decide_eq_false c27
  clear c27
  by_cases c28 : t482 = true
  ·subst c28
   have H1 : (if t488 = 0 then (if (!(t486 == a0_0) || (!(t487 == a0_1))) = true then (none) else (if t472 = 0 then (if (t475 == t470 && (t476 == t471)) = true then ((spigotlaw01_alive.f k).bind fun t490 => (some t490)) else (none)) else ((wide_Of.f 1).bind fun bt491 => ((wide_Add.f t470 t471 bt491.1 bt491.2).bind fun bt493 => (if bt493.2.2 = 0 then (if (t475 == bt493.1 && (t476 == bt493.2.1)) = true then ((spigotlaw01_alive.f k).bind fun t497 => (some t497)) else (none)) else (none)))))) else (none)) = some r := by rw [if_pos rfl] at H; exact H
   clear H
   have H := H1
   clear H1
   by_cases c29 : t488 = 0
   rotate_left
   ·rw [if_neg c29] at H; exact absurd H (by simp)
   rw [if_pos c29] at H
   have c29b0 : (t488 == 0) = true := beq_iff_eq.mpr c29
   have c29b1 : (t488 != 0) = false := bne_eq_false_iff_eq.mpr c29
   clear c29
   by_cases c30 : (!(t486 == a0_0) || (!(t487 == a0_1))) = true
   ·rw [if_pos c30] at H; exact absurd H (by simp)
   rw [if_neg c30] at H
   have c30b0 : (!(t486 == a0_0) || (!(t487 == a0_1))) = false := by simpa using c30
   clear c30
   by_cases c31 : t472 = 0
   ·rw [if_pos c31] at H
    have c31b0 : (t472 == 0) = true := beq_iff_eq.mpr c31
    have c31b1 : (t472 != 0) = false := bne_eq_false_iff_eq.mpr c31
    clear c31
    by_cases c32 : (t475 == t470 && (t476 == t471)) = true
    rotate_left
    ·rw [if_neg c32] at H; exact absurd H (by simp)
    rw [if_pos c32] at H
    have c32b0 : (t475 == t470 && (t476 == t471)) = true := c32
    (try (have c32b1 : decide (t475 = t470 && (t476 == t471)) = true := by simpa using c32))
    (try (have c32b2 : (t475 == t470 && (t476 == t471)) = true := by simpa using c32))
    clear c32
    replace H := Option.bind_eq_some_iff.mp H
    obtain ⟨t490, A330, H⟩ := H
    replace H : (some t490) = some r := H
    have A33 := Aside0.mk A330
    clear A330
    obtain rfl := Option.some.inj H
    go_enter Try.func11, Try.ntmps11
    try go_wp2_with (first | ((with_reducible refine gate_dst (N := 2) rfl ?_); refine box_event ?hg (N := 2) ?hd (cs := #[.int .u64 a0_0, .int .u64 a0_1]) (t := 46) ?hr ?_; (case hd => rfl); (case hg => rfl); (case hr => first | (go_simp; done) | (go_simp; rfl)); intro gb469 hg w34 hbox hb; have BK469 := Aside0.mk (hbox); have GW469 := Aside0.mk ((by rw [hg]; exact (below_size (hq_ HB)) : w.heap.size ≤ gb469)); have GE469 := GW469; replace HB := Aside0.mk (below_step (hq_ HB) hb); clear hb hbox hg; have hcz35_0 : w34.cell? ⟨gb469, 0, none⟩ = some (.int .u64 a0_0) := (blk_cell BK469.out 0).trans rfl; have hcz35_1 : w34.cell? ⟨gb469, 1, none⟩ = some (.int .u64 a0_1) := (blk_cell BK469.out 1).trans rfl; have hfz35_0 := blk_frozen BK469.out 0; have hfz35_1 := blk_frozen BK469.out 1) | ((with_reducible refine gate_callee (f := 33) rfl ?_); refine goesL_ (some 19) rfl rfl Try.func33 (by kernel_rfl) rfl #[.agg #[.int .u64 a0_0, .int .u64 a0_1], .int .u64 a1] rfl (by (try simp only [List.map_toArray, List.map_cons, List.map_nil]); first | done | rfl | (simp only [List.length_drop, List.length_take]; rfl)) ?_; (with_reducible refine (wide_Div.calls k a0_0 a0_1 a1 t470 t471 t472 t473 _ A3.out).mono ?_); rintro e w36 ⟨rfl, hb⟩; refine ⟨_, rfl, ?_⟩; replace BK469 := bb_ BK469 hb; replace HB := Aside0.mk (below_step (by repeat (first | (with_reducible first | exact HB.out | apply below_alloc | apply pw_below_drewN | apply below_drew1 | refine below_set ?_ (Aside0.out (by assumption))) | exact HB.out)) hb); (try clear hb); (try clear hb2); (try clear hk); (try clear hi)) | ((with_reducible refine gate_dst (N := 5) rfl ?_); refine box_event ?hg (N := 5) ?hd (cs := #[.int .u64 0, .int .u64 0]) (t := 46) ?hr ?_; (case hd => rfl); (case hg => rfl); (case hr => first | (go_simp; done) | (go_simp; rfl)); intro gb474 hg w37 hbox hb; have BK474 := Aside0.mk (hbox); have GW474 := Aside0.mk ((by rw [hg]; exact (below_size (by repeat (first | (with_reducible first | exact HB.out | apply below_alloc | apply pw_below_drewN | apply below_drew1 | refine below_set ?_ (Aside0.out (by assumption))) | exact HB.out))) : w.heap.size ≤ gb474)); have GE474 := GW474; have NB469_474 := bn_ BK469 hg; have NB474_469 := bm_ BK469 hg; replace BK469 := bb_ BK469 hb; replace HB := Aside0.mk (below_step (by repeat (first | (with_reducible first | exact HB.out | apply below_alloc | apply pw_below_drewN | apply below_drew1 | refine below_set ?_ (Aside0.out (by assumption))) | exact HB.out)) hb); clear hb hbox hg; have hnb38 := NB474_469.out; have hnc38 := NB469_474.out; have hcz39_0 : w37.cell? ⟨gb474, 0, none⟩ = some (.int .u64 0) := (blk_cell BK474.out 0).trans rfl; have hcz39_1 : w37.cell? ⟨gb474, 1, none⟩ = some (.int .u64 0) := (blk_cell BK474.out 1).trans rfl; have hfz39_0 := blk_frozen BK474.out 0; have hfz39_1 := blk_frozen BK474.out 1; have hcz40_0 : w37.cell? ⟨gb469, 0, none⟩ = some (.int .u64 a0_0) := (blk_cell BK469.out 0).trans rfl; have hcz40_1 : w37.cell? ⟨gb469, 1, none⟩ = some (.int .u64 a0_1) := (blk_cell BK469.out 1).trans rfl; have hfz40_0 := blk_frozen BK469.out 0; have hfz40_1 := blk_frozen BK469.out 1) | ((with_reducible refine gate_callee (f := 35) rfl ?_); refine goesL_ (some 26) rfl rfl Try.func35 (by kernel_rfl) rfl #[.agg #[.int .u64 a0_0, .int .u64 a0_1], .int .u64 a1] rfl (by (try simp only [List.map_toArray, List.map_cons, List.map_nil]); first | done | rfl | (simp only [List.length_drop, List.length_take]; rfl)) ?_; (with_reducible refine (wide_Up.calls k a0_0 a0_1 a1 t475 t476 t477 _ A4.out).mono ?_); rintro e w41 ⟨rfl, hb⟩; refine ⟨_, rfl, ?_⟩; replace BK469 := Aside0.mk (blk_below (g := gb469) (o := .cells #[.int .u64 a0_0, .int .u64 a0_1] 46 (0, 0)) (by (with_reducible repeat (first | refine blk_drewN ?_ _ | refine blk_drew ?_ | refine blk_alloc ?_ _)); refine blk_far ?_ NB469_474.out _; (with_reducible repeat (first | refine blk_drewN ?_ _ | refine blk_drew ?_ | refine blk_alloc ?_ _)); refine blk_far ?_ NB469_474.out _; (with_reducible repeat (first | refine blk_drewN ?_ _ | refine blk_drew ?_ | refine blk_alloc ?_ _)); exact BK469.out) hb); replace BK474 := Aside0.mk (blk_below (g := gb474) (o := .cells #[.int .u64 t470, .int .u64 t471] 46 (0, 0)) (by (with_reducible repeat (first | refine blk_drewN ?_ _ | refine blk_drew ?_ | refine blk_alloc ?_ _)); refine blk_put (cs := #[.int .u64 t470, .int .u64 0]) ?_ 1 _ rfl; (with_reducible repeat (first | refine blk_drewN ?_ _ | refine blk_drew ?_ | refine blk_alloc ?_ _)); refine blk_put (cs := #[.int .u64 0, .int .u64 0]) ?_ 0 _ rfl; (with_reducible repeat (first | refine blk_drewN ?_ _ | refine blk_drew ?_ | refine blk_alloc ?_ _)); exact BK474.out) hb); replace HB := Aside0.mk (below_step (by repeat (first | (with_reducible first | exact HB.out | apply below_alloc | apply pw_below_drewN | apply below_drew1 | refine below_set ?_ (Aside0.out (by assumption))) | exact HB.out)) hb); (try clear hb); (try clear hb2); (try clear hk); (try clear hi)) | ((with_reducible refine gate_dst (N := 8) rfl ?_); refine box_event ?hg (N := 8) ?hd (cs := #[.int .u64 0, .int .u64 0]) (t := 46) ?hr ?_; (case hd => rfl); (case hg => rfl); (case hr => first | (go_simp; done) | (go_simp; rfl)); intro gb478 hg w42 hbox hb; have BK478 := Aside0.mk (hbox); have GW478 := Aside0.mk ((by rw [hg]; exact (below_size (by repeat (first | (with_reducible first | exact HB.out | apply below_alloc | apply pw_below_drewN | apply below_drew1 | refine below_set ?_ (Aside0.out (by assumption))) | exact HB.out))) : w.heap.size ≤ gb478)); have GE478 := GW478; have NB469_478 := bn_ BK469 hg; have NB478_469 := bm_ BK469 hg; have NB474_478 := bn_ BK474 hg; have NB478_474 := bm_ BK474 hg; replace BK469 := bb_ BK469 hb; replace BK474 := bb_ BK474 hb; replace HB := Aside0.mk (below_step (by repeat (first | (with_reducible first | exact HB.out | apply below_alloc | apply pw_below_drewN | apply below_drew1 | refine below_set ?_ (Aside0.out (by assumption))) | exact HB.out)) hb); clear hb hbox hg; have hnb43 := NB478_469.out; have hnc43 := NB469_478.out; have hnb44 := NB478_474.out; have hnc44 := NB474_478.out; have hcz45_0 : w42.cell? ⟨gb478, 0, none⟩ = some (.int .u64 0) := (blk_cell BK478.out 0).trans rfl; have hcz45_1 : w42.cell? ⟨gb478, 1, none⟩ = some (.int .u64 0) := (blk_cell BK478.out 1).trans rfl; have hfz45_0 := blk_frozen BK478.out 0; have hfz45_1 := blk_frozen BK478.out 1; have hcz46_0 : w42.cell? ⟨gb474, 0, none⟩ = some (.int .u64 t470) := (blk_cell BK474.out 0).trans rfl; have hcz46_1 : w42.cell? ⟨gb474, 1, none⟩ = some (.int .u64 t471) := (blk_cell BK474.out 1).trans rfl; have hfz46_0 := blk_frozen BK474.out 0; have hfz46_1 := blk_frozen BK474.out 1) | ((with_reducible refine gate_callee (f := 40) rfl ?_); refine goesL_ (some 43) rfl rfl Try.func40 (by kernel_rfl) rfl #[.agg #[.int .u64 t470, .int .u64 t471], .int .u64 a1] rfl (by (try simp only [List.map_toArray, List.map_cons, List.map_nil]); first | done | rfl | (simp only [List.length_drop, List.length_take]; rfl)) ?_; (with_reducible refine (spigotlaw01_times.calls t470 t471 a1 t480 t481 true _ A22.out).mono ?_); rintro e w47 ⟨rfl, hb⟩; refine ⟨_, rfl, ?_⟩; replace BK469 := Aside0.mk (blk_below (g := gb469) (o := .cells #[.int .u64 a0_0, .int .u64 a0_1] 46 (0, 0)) (by (with_reducible repeat (first | refine blk_drewN ?_ _ | refine blk_drew ?_ | refine blk_alloc ?_ _)); refine blk_far ?_ NB469_478.out _; (with_reducible repeat (first | refine blk_drewN ?_ _ | refine blk_drew ?_ | refine blk_alloc ?_ _)); refine blk_far ?_ NB469_478.out _; (with_reducible repeat (first | refine blk_drewN ?_ _ | refine blk_drew ?_ | refine blk_alloc ?_ _)); exact BK469.out) hb); replace BK474 := Aside0.mk (blk_below (g := gb474) (o := .cells #[.int .u64 t470, .int .u64 t471] 46 (0, 0)) (by (with_reducible repeat (first | refine blk_drewN ?_ _ | refine blk_drew ?_ | refine blk_alloc ?_ _)); refine blk_far ?_ NB474_478.out _; (with_reducible repeat (first | refine blk_drewN ?_ _ | refine blk_drew ?_ | refine blk_alloc ?_ _)); refine blk_far ?_ NB474_478.out _; (with_reducible repeat (first | refine blk_drewN ?_ _ | refine blk_drew ?_ | refine blk_alloc ?_ _)); exact BK474.out) hb); replace BK478 := Aside0.mk (blk_below (g := gb478) (o := .cells #[.int .u64 t475, .int .u64 t476] 46 (0, 0)) (by (with_reducible repeat (first | refine blk_drewN ?_ _ | refine blk_drew ?_ | refine blk_alloc ?_ _)); refine blk_put (cs := #[.int .u64 t475, .int .u64 0]) ?_ 1 _ rfl; (with_reducible repeat (first | refine blk_drewN ?_ _ | refine blk_drew ?_ | refine blk_alloc ?_ _)); refine blk_put (cs := #[.int .u64 0, .int .u64 0]) ?_ 0 _ rfl; (with_reducible repeat (first | refine blk_drewN ?_ _ | refine blk_drew ?_ | refine blk_alloc ?_ _)); exact BK478.out) hb); replace HB := Aside0.mk (below_step (by repeat (first | (with_reducible first | exact HB.out | apply below_alloc | apply pw_below_drewN | apply below_drew1 | refine below_set ?_ (Aside0.out (by assumption))) | exact HB.out)) hb); (try clear hb); (try clear hb2); (try clear hk); (try clear hi)) | ((with_reducible refine gate_dst (N := 10) rfl ?_); refine box_event ?hg (N := 10) ?hd (cs := #[.int .u64 0, .int .u64 0]) (t := 46) ?hr ?_; (case hd => rfl); (case hg => rfl); (case hr => first | (go_simp; done) | (go_simp; rfl)); intro gb483 hg w48 hbox hb; have BK483 := Aside0.mk (hbox); have GW483 := Aside0.mk ((by rw [hg]; exact (below_size (by repeat (first | (with_reducible first | exact HB.out | apply below_alloc | apply pw_below_drewN | apply below_drew1 | refine below_set ?_ (Aside0.out (by assumption))) | exact HB.out))) : w.heap.size ≤ gb483)); have GE483 := GW483; have NB469_483 := bn_ BK469 hg; have NB483_469 := bm_ BK469 hg; have NB474_483 := bn_ BK474 hg; have NB483_474 := bm_ BK474 hg; have NB478_483 := bn_ BK478 hg; have NB483_478 := bm_ BK478 hg; replace BK469 := bb_ BK469 hb; replace BK474 := bb_ BK474 hb; replace BK478 := bb_ BK478 hb; replace HB := Aside0.mk (below_step (by repeat (first | (with_reducible first | exact HB.out | apply below_alloc | apply pw_below_drewN | apply below_drew1 | refine below_set ?_ (Aside0.out (by assumption))) | exact HB.out)) hb); clear hb hbox hg; have hnb49 := NB483_469.out; have hnc49 := NB469_483.out; have hnb50 := NB483_474.out; have hnc50 := NB474_483.out; have hnb51 := NB483_478.out; have hnc51 := NB478_483.out; have hcz52_0 : w48.cell? ⟨gb483, 0, none⟩ = some (.int .u64 0) := (blk_cell BK483.out 0).trans rfl; have hcz52_1 : w48.cell? ⟨gb483, 1, none⟩ = some (.int .u64 0) := (blk_cell BK483.out 1).trans rfl; have hfz52_0 := blk_frozen BK483.out 0; have hfz52_1 := blk_frozen BK483.out 1))
    have n0_ : Aside0 (((w48.setCell ⟨gb483, 0, none⟩ (.int .u64 t480)).setCell ⟨gb483, 1, none⟩ (.int .u64 t481)).heap[gb469]? = some (.cells #[.int .u64 a0_0, .int .u64 a0_1] 46 (0, 0))) := ⟨by (with_reducible repeat (first | refine blk_drewN ?_ _ | refine blk_drew ?_ | refine blk_alloc ?_ _)); refine blk_far ?_ NB469_483.out _; (with_reducible repeat (first | refine blk_drewN ?_ _ | refine blk_drew ?_ | refine blk_alloc ?_ _)); refine blk_far ?_ NB469_483.out _; (with_reducible repeat (first | refine blk_drewN ?_ _ | refine blk_drew ?_ | refine blk_alloc ?_ _)); exact BK469.out⟩
    have n1_ : Aside0 (((w48.setCell ⟨gb483, 0, none⟩ (.int .u64 t480)).setCell ⟨gb483, 1, none⟩ (.int .u64 t481)).heap[gb474]? = some (.cells #[.int .u64 t470, .int .u64 t471] 46 (0, 0))) := ⟨by (with_reducible repeat (first | refine blk_drewN ?_ _ | refine blk_drew ?_ | refine blk_alloc ?_ _)); refine blk_far ?_ NB474_483.out _; (with_reducible repeat (first | refine blk_drewN ?_ _ | refine blk_drew ?_ | refine blk_alloc ?_ _)); refine blk_far ?_ NB474_483.out _; (with_reducible repeat (first | refine blk_drewN ?_ _ | refine blk_drew ?_ | refine blk_alloc ?_ _)); exact BK474.out⟩
    have n2_ : Aside0 (((w48.setCell ⟨gb483, 0, none⟩ (.int .u64 t480)).setCell ⟨gb483, 1, none⟩ (.int .u64 t481)).heap[gb478]? = some (.cells #[.int .u64 t475, .int .u64 t476] 46 (0, 0))) := ⟨by (with_reducible repeat (first | refine blk_drewN ?_ _ | refine blk_drew ?_ | refine blk_alloc ?_ _)); refine blk_far ?_ NB478_483.out _; (with_reducible repeat (first | refine blk_drewN ?_ _ | refine blk_drew ?_ | refine blk_alloc ?_ _)); refine blk_far ?_ NB478_483.out _; (with_reducible repeat (first | refine blk_drewN ?_ _ | refine blk_drew ?_ | refine blk_alloc ?_ _)); exact BK478.out⟩
    have n3_ : Aside0 (((w48.setCell ⟨gb483, 0, none⟩ (.int .u64 t480)).setCell ⟨gb483, 1, none⟩ (.int .u64 t481)).heap[gb483]? = some (.cells #[.int .u64 t480, .int .u64 t481] 46 (0, 0))) := ⟨by (with_reducible repeat (first | refine blk_drewN ?_ _ | refine blk_drew ?_ | refine blk_alloc ?_ _)); refine blk_put (cs := #[.int .u64 t480, .int .u64 0]) ?_ 1 _ rfl; (with_reducible repeat (first | refine blk_drewN ?_ _ | refine blk_drew ?_ | refine blk_alloc ?_ _)); refine blk_put (cs := #[.int .u64 0, .int .u64 0]) ?_ 0 _ rfl; (with_reducible repeat (first | refine blk_drewN ?_ _ | refine blk_drew ?_ | refine blk_alloc ?_ _)); exact BK483.out⟩
    have n4_ : Aside0 (Below w.heap.size w ((w48.setCell ⟨gb483, 0, none⟩ (.int .u64 t480)).setCell ⟨gb483, 1, none⟩ (.int .u64 t481))) := ⟨by repeat (first | (with_reducible first | exact HB.out | apply below_alloc | apply pw_below_drewN | apply below_drew1 | refine below_set ?_ GE469.out | refine below_set ?_ GE474.out | refine below_set ?_ GE478.out | refine below_set ?_ GE483.out) | exact HB.out)⟩
    (try clear BK469)
    (try clear BK474)
    (try clear BK478)
    (try clear BK483)
    (try clear HB)
    generalize ((w48.setCell ⟨gb483, 0, none⟩ (.int .u64 t480)).setCell ⟨gb483, 1, none⟩ (.int .u64 t481)) = w53 at n0_ n1_ n2_ n3_ n4_ ⊢
    have BK469 := n0_
    have BK474 := n1_
    have BK478 := n2_
    have BK483 := n3_
    have HB := n4_
    clear n0_ n1_ n2_ n3_ n4_
    replace BK469 := Aside0.mk (blk_drew BK469.out)
    replace BK474 := Aside0.mk (blk_drew BK474.out)
    replace BK478 := Aside0.mk (blk_drew BK478.out)
    replace BK483 := Aside0.mk (blk_drew BK483.out)
    replace HB := Aside0.mk (below_drew1 HB.out)
    refine start_ (n := 10) (S := fun w' => w'.cell? ⟨gb483, 0, none⟩ = some (.int .u64 t480) ∧ w'.cell? ⟨gb483, 1, none⟩ = some (.int .u64 t481)) (ds := []) #[false, false, false, false, false, false, false, false, false, false] (by kernel_rfl) rfl rfl ⟨(blk_cell BK483.out 0).trans rfl, (blk_cell BK483.out 1).trans rfl⟩ (fun hHeld => ?_); refine with_tabW spigotlaw01_WideBack.tab6 spigotlaw01_WideBack.bits6 (fun HT_ HW_ => ?_)
    generalize w53.drew = w54 at BK469 BK474 BK478 BK483 HB hHeld ⊢
    refine pure_ (i := 1) (N := some 48) (v := ?_) (a' := ?_) #[false, true, false, false, false, false, false, false, false, false] rfl rfl (any_of HT_.out (by kernel_rfl)) (fun _ _ _ h => h) (Or.inl ⟨by rfl, ?_⟩) ?_ ?_
    rotate_left
    ·intro w'
     go_simp
     with_reducible rfl
    rotate_left
    ·simp only [Act.put, List.setIfInBounds_toArray, List.set_cons_zero, List.set_cons_succ, i64_w, i32_w]
     rfl
    refine take_ (i := 0) (N := some 47) (v := ?_) (a' := ?_) #[true, true, false, false, false, false, false, false, false, false] rfl rfl (take_ofW HT_.out HW_.out (by kernel_rfl)) (fun _ _ _ h => h) (Or.inl ⟨by rfl, ?_⟩) hHeld ?_ ?_
    rotate_left
    ·rintro w' ⟨s0, s1⟩
     go_simp
     with_reducible rfl
    rotate_left
    ·simp only [Act.put, List.setIfInBounds_toArray, List.set_cons_zero, List.set_cons_succ, i64_w, i32_w]
     rfl
    refine join_ (σ := Nat) 2 #[true, true, true, true, true, true, true, true, false, false] (fun s_ => [(49, .agg #[.int .u64 t484, .int .u64 t485]), (50, .tuple #[.agg #[.int .u64 t486, .int .u64 t487], .int .i64 t488]), (12, .pointer (some ⟨s_, 0, none⟩)), (46, .tuple #[.agg #[.int .u64 t486, .int .u64 t487], .int .i64 t488]), (51, .agg #[.int .u64 t486, .int .u64 t487]), (52, .int .i64 t488)]) (fun s_ w' => (w'.cell? ⟨gb483, 0, none⟩ = some (.int .u64 t480) ∧ w'.cell? ⟨gb483, 1, none⟩ = some (.int .u64 t481)) ∧ (w'.heap[gb469]? = some (.cells #[.int .u64 a0_0, .int .u64 a0_1] 46 (0, 0))) ∧ (w'.heap[gb474]? = some (.cells #[.int .u64 t470, .int .u64 t471] 46 (0, 0))) ∧ (w'.heap[gb478]? = some (.cells #[.int .u64 t475, .int .u64 t476] 46 (0, 0))) ∧ (w'.heap[gb483]? = some (.cells #[.int .u64 t480, .int .u64 t481] 46 (0, 0))) ∧ (w'.heap[s_]? = some (.cells #[.int .u64 0, .int .u64 0] 46 (0, 0))) ∧ (w.heap.size ≤ s_) ∧ (w.heap.size ≤ s_) ∧ (gb469 ≠ s_) ∧ (s_ ≠ gb469) ∧ (gb474 ≠ s_) ∧ (s_ ≠ gb474) ∧ (gb478 ≠ s_) ∧ (s_ ≠ gb478) ∧ (gb483 ≠ s_) ∧ (s_ ≠ gb483) ∧ (Below w.heap.size w w')) ?_ ?_
    rotate_left
    ·intro hCont
     refine two_ (i := 2) (j := 7) (Ni := some 49) (Nj := some 12) #[true, true, true, false, false, false, false, false, false, false] #[true, true, false, false, false, false, false, true, false, false] rfl rfl rfl rfl (two_of HT_.out (by kernel_rfl)) (by decide) (by decide) (fun K hK => ?_) (fun K hK => ?_)
     ·skip
      refine goes_ Try.func32 (by kernel_rfl) rfl #[.int .u64 t472] (by rfl) rfl rfl (by (try simp only [List.map_toArray, List.map_cons, List.map_nil]); first | done | rfl | (simp only [List.length_drop, List.length_take]; rfl)) ?_
      with_reducible refine (wide_Of.calls t472 t484 t485 _ A23.out).mono ?_
      rintro e w55 ⟨rfl, hb⟩
      refine ⟨_, rfl, ?_⟩
      replace BK469 := bb_ BK469 hb
      replace BK474 := bb_ BK474 hb
      replace BK478 := bb_ BK478 hb
      replace BK483 := bb_ BK483 hb
      replace HB := Aside0.mk (below_step (by repeat (first | (with_reducible first | exact HB.out | apply below_alloc | apply pw_below_drewN | apply below_drew1 | refine below_set ?_ (Aside0.out (by assumption))) | exact HB.out)) hb)
      (try clear hb)
      (try clear hb2)
      (try clear hk)
      (try clear hi)
      refine hK.out _ _ ⟨(blk_cell BK483.out 0).trans rfl, (blk_cell BK483.out 1).trans rfl⟩ (fun hHeld => ?_)
      clear hK K
      refine norm_ (a' := ?_) ?_ ?_
      rotate_left
      ·show Act.put _ (some 49) _ = _
       simp only [Act.put, List.setIfInBounds_toArray, List.set_cons_zero, List.set_cons_succ, i64_w, i32_w]
       rfl
      refine two_ (i := 3) (j := 7) (Ni := some 50) (Nj := some 12) #[true, true, true, true, false, false, false, false, false, false] #[true, true, true, false, false, false, false, true, false, false] rfl rfl rfl rfl (two_of HT_.out (by kernel_rfl)) (by decide) (by decide) (fun K hK => ?_) (fun K hK => ?_)
      ·skip
       refine goes_ Try.func24 (by kernel_rfl) rfl #[.agg #[.int .u64 t480, .int .u64 t481], .agg #[.int .u64 t484, .int .u64 t485]] (by rfl) rfl rfl (by (try simp only [List.map_toArray, List.map_cons, List.map_nil]); first | done | rfl | (simp only [List.length_drop, List.length_take]; rfl)) ?_
       with_reducible refine (wide_Add.calls t480 t481 t484 t485 t486 t487 t488 _ A24.out).mono ?_
       rintro e w56 ⟨rfl, hb⟩
       refine ⟨_, rfl, ?_⟩
       replace BK469 := bb_ BK469 hb
       replace BK474 := bb_ BK474 hb
       replace BK478 := bb_ BK478 hb
       replace BK483 := bb_ BK483 hb
       replace HB := Aside0.mk (below_step (by repeat (first | (with_reducible first | exact HB.out | apply below_alloc | apply pw_below_drewN | apply below_drew1 | refine below_set ?_ (Aside0.out (by assumption))) | exact HB.out)) hb)
       (try clear hb)
       (try clear hb2)
       (try clear hk)
       (try clear hi)
       refine hK.out _ _ ⟨(blk_cell BK483.out 0).trans rfl, (blk_cell BK483.out 1).trans rfl⟩ (fun hHeld => ?_)
       clear hK K
       refine norm_ (a' := ?_) ?_ ?_
       rotate_left
       ·show Act.put _ (some 50) _ = _
        simp only [Act.put, List.setIfInBounds_toArray, List.set_cons_zero, List.set_cons_succ, i64_w, i32_w]
        rfl
       refine pure_ (i := 4) (N := some 46) (v := ?_) (a' := ?_) #[true, true, true, true, true, false, false, false, false, false] rfl rfl (any_of HT_.out (by kernel_rfl)) (fun _ _ _ h => h) (Or.inl ⟨by rfl, ?_⟩) ?_ ?_
       rotate_left
       ·intro w'
        go_simp
        with_reducible rfl
       rotate_left
       ·simp only [Act.put, List.setIfInBounds_toArray, List.set_cons_zero, List.set_cons_succ, i64_w, i32_w]
        rfl
       refine pure_ (i := 5) (N := some 51) (v := ?_) (a' := ?_) #[true, true, true, true, true, true, false, false, false, false] rfl rfl (any_of HT_.out (by kernel_rfl)) (fun _ _ _ h => h) (Or.inl ⟨by rfl, ?_⟩) ?_ ?_
       rotate_left
       ·intro w'
        go_simp
        with_reducible rfl
       rotate_left
       ·simp only [Act.put, List.setIfInBounds_toArray, List.set_cons_zero, List.set_cons_succ, i64_w, i32_w]
        rfl
       refine pure_ (i := 6) (N := some 52) (v := ?_) (a' := ?_) #[true, true, true, true, true, true, true, false, false, false] rfl rfl (any_of HT_.out (by kernel_rfl)) (fun _ _ _ h => h) (Or.inl ⟨by rfl, ?_⟩) ?_ ?_
       rotate_left
       ·intro w'
        go_simp
        with_reducible rfl
       rotate_left
       ·simp only [Act.put, List.setIfInBounds_toArray, List.set_cons_zero, List.set_cons_succ, i64_w, i32_w]
        rfl
       refine one_ (i := 7) (N := some 12) #[true, true, true, true, true, true, true, true, false, false] rfl rfl (one_of HT_.out (by kernel_rfl)) (by decide) (fun K hK => ?_)
       refine box_step ?hg (N := 12) ?hd (cs := #[.int .u64 0, .int .u64 0]) (t := 46) ?hr ?_; (case hd => rfl); (case hg => rfl); (case hr => first | (go_simp; done) | (go_simp; rfl))
       intro gb489 hg w57 hbox hb
       have BK489 := Aside0.mk (hbox)
       have GW489 := Aside0.mk ((by rw [hg]; exact (below_size (by repeat (first | (with_reducible first | exact HB.out | apply below_alloc | apply pw_below_drewN | apply below_drew1 | refine below_set ?_ (Aside0.out (by assumption))) | exact HB.out))) : w.heap.size ≤ gb489))
       have GE489 := GW489
       have NB469_489 := bn_ BK469 hg
       have NB489_469 := bm_ BK469 hg
       have NB474_489 := bn_ BK474 hg
       have NB489_474 := bm_ BK474 hg
       have NB478_489 := bn_ BK478 hg
       have NB489_478 := bm_ BK478 hg
       have NB483_489 := bn_ BK483 hg
       have NB489_483 := bm_ BK483 hg
       replace BK469 := bb_ BK469 hb
       replace BK474 := bb_ BK474 hb
       replace BK478 := bb_ BK478 hb
       replace BK483 := bb_ BK483 hb
       replace HB := Aside0.mk (below_step (by repeat (first | (with_reducible first | exact HB.out | apply below_alloc | apply pw_below_drewN | apply below_drew1 | refine below_set ?_ (Aside0.out (by assumption))) | exact HB.out)) hb)
       clear hb hbox hg
       refine hK.out _ _ ⟨(blk_cell BK483.out 0).trans rfl, (blk_cell BK483.out 1).trans rfl⟩ (fun hHeld => ?_)
       clear hK K
       refine norm_ (a' := ?_) ?_ ?_
       rotate_left
       ·show Act.put _ (some 12) _ = _
        simp only [Act.put, List.setIfInBounds_toArray, List.set_cons_zero, List.set_cons_succ, i64_w, i32_w]
        rfl
       exact norm_ (by simp only [putAll, Act.put, List.setIfInBounds_toArray, List.set_cons_zero, List.set_cons_succ]) (hCont (gb489) _ ⟨hHeld, (bq_ BK469), (bq_ BK474), (bq_ BK478), (bq_ BK483), (bq_ BK489), GW489.out, GE489.out, NB469_489.out, NB489_469.out, NB474_489.out, NB489_474.out, NB478_489.out, NB489_478.out, NB483_489.out, NB489_483.out, (by repeat (first | (with_reducible first | exact HB.out | apply below_alloc | apply pw_below_drewN | apply below_drew1 | refine below_set ?_ (Aside0.out (by assumption))) | exact HB.out))⟩)
      ·skip
       refine box_step ?hg (N := 12) ?hd (cs := #[.int .u64 0, .int .u64 0]) (t := 46) ?hr ?_; (case hd => rfl); (case hg => rfl); (case hr => first | (go_simp; done) | (go_simp; rfl))
       intro gb489 hg w56 hbox hb
       have BK489 := Aside0.mk (hbox)
       have GW489 := Aside0.mk ((by rw [hg]; exact (below_size (by repeat (first | (with_reducible first | exact HB.out | apply below_alloc | apply pw_below_drewN | apply below_drew1 | refine below_set ?_ (Aside0.out (by assumption))) | exact HB.out))) : w.heap.size ≤ gb489))
       have GE489 := GW489
       have NB469_489 := bn_ BK469 hg
       have NB489_469 := bm_ BK469 hg
       have NB474_489 := bn_ BK474 hg
       have NB489_474 := bm_ BK474 hg
       have NB478_489 := bn_ BK478 hg
       have NB489_478 := bm_ BK478 hg
       have NB483_489 := bn_ BK483 hg
       have NB489_483 := bm_ BK483 hg
       replace BK469 := bb_ BK469 hb
       replace BK474 := bb_ BK474 hb
       replace BK478 := bb_ BK478 hb
       replace BK483 := bb_ BK483 hb
       replace HB := Aside0.mk (below_step (by repeat (first | (with_reducible first | exact HB.out | apply below_alloc | apply pw_below_drewN | apply below_drew1 | refine below_set ?_ (Aside0.out (by assumption))) | exact HB.out)) hb)
       clear hb hbox hg
       refine hK.out _ _ ⟨(blk_cell BK483.out 0).trans rfl, (blk_cell BK483.out 1).trans rfl⟩ (fun hHeld => ?_)
       clear hK K
       refine norm_ (a' := ?_) ?_ ?_
       rotate_left
       ·show Act.put _ (some 12) _ = _
        simp only [Act.put, List.setIfInBounds_toArray, List.set_cons_zero, List.set_cons_succ, i64_w, i32_w]
        rfl
       refine one_ (i := 3) (N := some 50) #[true, true, true, true, false, false, false, true, false, false] rfl rfl (one_of HT_.out (by kernel_rfl)) (by decide) (fun K hK => ?_)
       refine goes_ Try.func24 (by kernel_rfl) rfl #[.agg #[.int .u64 t480, .int .u64 t481], .agg #[.int .u64 t484, .int .u64 t485]] (by rfl) rfl rfl (by (try simp only [List.map_toArray, List.map_cons, List.map_nil]); first | done | rfl | (simp only [List.length_drop, List.length_take]; rfl)) ?_
       with_reducible refine (wide_Add.calls t480 t481 t484 t485 t486 t487 t488 _ A24.out).mono ?_
       rintro e w57 ⟨rfl, hb⟩
       refine ⟨_, rfl, ?_⟩
       replace BK469 := bb_ BK469 hb
       replace BK474 := bb_ BK474 hb
       replace BK478 := bb_ BK478 hb
       replace BK483 := bb_ BK483 hb
       replace BK489 := bb_ BK489 hb
       replace HB := Aside0.mk (below_step (by repeat (first | (with_reducible first | exact HB.out | apply below_alloc | apply pw_below_drewN | apply below_drew1 | refine below_set ?_ (Aside0.out (by assumption))) | exact HB.out)) hb)
       (try clear hb)
       (try clear hb2)
       (try clear hk)
       (try clear hi)
       refine hK.out _ _ ⟨(blk_cell BK483.out 0).trans rfl, (blk_cell BK483.out 1).trans rfl⟩ (fun hHeld => ?_)
       clear hK K
       refine norm_ (a' := ?_) ?_ ?_
       rotate_left
       ·show Act.put _ (some 50) _ = _
        simp only [Act.put, List.setIfInBounds_toArray, List.set_cons_zero, List.set_cons_succ, i64_w, i32_w]
        rfl
       refine pure_ (i := 4) (N := some 46) (v := ?_) (a' := ?_) #[true, true, true, true, true, false, false, true, false, false] rfl rfl (any_of HT_.out (by kernel_rfl)) (fun _ _ _ h => h) (Or.inl ⟨by rfl, ?_⟩) ?_ ?_
       rotate_left
       ·intro w'
        go_simp
        with_reducible rfl
       rotate_left
       ·simp only [Act.put, List.setIfInBounds_toArray, List.set_cons_zero, List.set_cons_succ, i64_w, i32_w]
        rfl
       refine pure_ (i := 5) (N := some 51) (v := ?_) (a' := ?_) #[true, true, true, true, true, true, false, true, false, false] rfl rfl (any_of HT_.out (by kernel_rfl)) (fun _ _ _ h => h) (Or.inl ⟨by rfl, ?_⟩) ?_ ?_
       rotate_left
       ·intro w'
        go_simp
        with_reducible rfl
       rotate_left
       ·simp only [Act.put, List.setIfInBounds_toArray, List.set_cons_zero, List.set_cons_succ, i64_w, i32_w]
        rfl
       refine pure_ (i := 6) (N := some 52) (v := ?_) (a' := ?_) #[true, true, true, true, true, true, true, true, false, false] rfl rfl (any_of HT_.out (by kernel_rfl)) (fun _ _ _ h => h) (Or.inl ⟨by rfl, ?_⟩) ?_ ?_
       rotate_left
       ·intro w'
        go_simp
        with_reducible rfl
       rotate_left
       ·simp only [Act.put, List.setIfInBounds_toArray, List.set_cons_zero, List.set_cons_succ, i64_w, i32_w]
        rfl
       exact norm_ (by simp only [putAll, Act.put, List.setIfInBounds_toArray, List.set_cons_zero, List.set_cons_succ]) (hCont (gb489) _ ⟨hHeld, (bq_ BK469), (bq_ BK474), (bq_ BK478), (bq_ BK483), (bq_ BK489), GW489.out, GE489.out, NB469_489.out, NB489_469.out, NB474_489.out, NB489_474.out, NB478_489.out, NB489_478.out, NB483_489.out, NB489_483.out, (by repeat (first | (with_reducible first | exact HB.out | apply below_alloc | apply pw_below_drewN | apply below_drew1 | refine below_set ?_ (Aside0.out (by assumption))) | exact HB.out))⟩)
     ·skip
      refine box_step ?hg (N := 12) ?hd (cs := #[.int .u64 0, .int .u64 0]) (t := 46) ?hr ?_; (case hd => rfl); (case hg => rfl); (case hr => first | (go_simp; done) | (go_simp; rfl))
      intro gb489 hg w55 hbox hb
      have BK489 := Aside0.mk (hbox)
      have GW489 := Aside0.mk ((by rw [hg]; exact (below_size (by repeat (first | (with_reducible first | exact HB.out | apply below_alloc | apply pw_below_drewN | apply below_drew1 | refine below_set ?_ (Aside0.out (by assumption))) | exact HB.out))) : w.heap.size ≤ gb489))
      have GE489 := GW489
      have NB469_489 := bn_ BK469 hg
      have NB489_469 := bm_ BK469 hg
      have NB474_489 := bn_ BK474 hg
      have NB489_474 := bm_ BK474 hg
      have NB478_489 := bn_ BK478 hg
      have NB489_478 := bm_ BK478 hg
      have NB483_489 := bn_ BK483 hg
      have NB489_483 := bm_ BK483 hg
      replace BK469 := bb_ BK469 hb
      replace BK474 := bb_ BK474 hb
      replace BK478 := bb_ BK478 hb
      replace BK483 := bb_ BK483 hb
      replace HB := Aside0.mk (below_step (by repeat (first | (with_reducible first | exact HB.out | apply below_alloc | apply pw_below_drewN | apply below_drew1 | refine below_set ?_ (Aside0.out (by assumption))) | exact HB.out)) hb)
      clear hb hbox hg
      refine hK.out _ _ ⟨(blk_cell BK483.out 0).trans rfl, (blk_cell BK483.out 1).trans rfl⟩ (fun hHeld => ?_)
      clear hK K
      refine norm_ (a' := ?_) ?_ ?_
      rotate_left
      ·show Act.put _ (some 12) _ = _
       simp only [Act.put, List.setIfInBounds_toArray, List.set_cons_zero, List.set_cons_succ, i64_w, i32_w]
       rfl
      refine one_ (i := 2) (N := some 49) #[true, true, true, false, false, false, false, true, false, false] rfl rfl (one_of HT_.out (by kernel_rfl)) (by decide) (fun K hK => ?_)
      refine goes_ Try.func32 (by kernel_rfl) rfl #[.int .u64 t472] (by rfl) rfl rfl (by (try simp only [List.map_toArray, List.map_cons, List.map_nil]); first | done | rfl | (simp only [List.length_drop, List.length_take]; rfl)) ?_
      with_reducible refine (wide_Of.calls t472 t484 t485 _ A23.out).mono ?_
      rintro e w56 ⟨rfl, hb⟩
      refine ⟨_, rfl, ?_⟩
      replace BK469 := bb_ BK469 hb
      replace BK474 := bb_ BK474 hb
      replace BK478 := bb_ BK478 hb
      replace BK483 := bb_ BK483 hb
      replace BK489 := bb_ BK489 hb
      replace HB := Aside0.mk (below_step (by repeat (first | (with_reducible first | exact HB.out | apply below_alloc | apply pw_below_drewN | apply below_drew1 | refine below_set ?_ (Aside0.out (by assumption))) | exact HB.out)) hb)
      (try clear hb)
      (try clear hb2)
      (try clear hk)
      (try clear hi)
      refine hK.out _ _ ⟨(blk_cell BK483.out 0).trans rfl, (blk_cell BK483.out 1).trans rfl⟩ (fun hHeld => ?_)
      clear hK K
      refine norm_ (a' := ?_) ?_ ?_
      rotate_left
      ·show Act.put _ (some 49) _ = _
       simp only [Act.put, List.setIfInBounds_toArray, List.set_cons_zero, List.set_cons_succ, i64_w, i32_w]
       rfl
      refine one_ (i := 3) (N := some 50) #[true, true, true, true, false, false, false, true, false, false] rfl rfl (one_of HT_.out (by kernel_rfl)) (by decide) (fun K hK => ?_)
      refine goes_ Try.func24 (by kernel_rfl) rfl #[.agg #[.int .u64 t480, .int .u64 t481], .agg #[.int .u64 t484, .int .u64 t485]] (by rfl) rfl rfl (by (try simp only [List.map_toArray, List.map_cons, List.map_nil]); first | done | rfl | (simp only [List.length_drop, List.length_take]; rfl)) ?_
      with_reducible refine (wide_Add.calls t480 t481 t484 t485 t486 t487 t488 _ A24.out).mono ?_
      rintro e w57 ⟨rfl, hb⟩
      refine ⟨_, rfl, ?_⟩
      replace BK469 := bb_ BK469 hb
      replace BK474 := bb_ BK474 hb
      replace BK478 := bb_ BK478 hb
      replace BK483 := bb_ BK483 hb
      replace BK489 := bb_ BK489 hb
      replace HB := Aside0.mk (below_step (by repeat (first | (with_reducible first | exact HB.out | apply below_alloc | apply pw_below_drewN | apply below_drew1 | refine below_set ?_ (Aside0.out (by assumption))) | exact HB.out)) hb)
      (try clear hb)
      (try clear hb2)
      (try clear hk)
      (try clear hi)
      refine hK.out _ _ ⟨(blk_cell BK483.out 0).trans rfl, (blk_cell BK483.out 1).trans rfl⟩ (fun hHeld => ?_)
      clear hK K
      refine norm_ (a' := ?_) ?_ ?_
      rotate_left
      ·show Act.put _ (some 50) _ = _
       simp only [Act.put, List.setIfInBounds_toArray, List.set_cons_zero, List.set_cons_succ, i64_w, i32_w]
       rfl
      refine pure_ (i := 4) (N := some 46) (v := ?_) (a' := ?_) #[true, true, true, true, true, false, false, true, false, false] rfl rfl (any_of HT_.out (by kernel_rfl)) (fun _ _ _ h => h) (Or.inl ⟨by rfl, ?_⟩) ?_ ?_
      rotate_left
      ·intro w'
       go_simp
       with_reducible rfl
      rotate_left
      ·simp only [Act.put, List.setIfInBounds_toArray, List.set_cons_zero, List.set_cons_succ, i64_w, i32_w]
       rfl
      refine pure_ (i := 5) (N := some 51) (v := ?_) (a' := ?_) #[true, true, true, true, true, true, false, true, false, false] rfl rfl (any_of HT_.out (by kernel_rfl)) (fun _ _ _ h => h) (Or.inl ⟨by rfl, ?_⟩) ?_ ?_
      rotate_left
      ·intro w'
       go_simp
       with_reducible rfl
      rotate_left
      ·simp only [Act.put, List.setIfInBounds_toArray, List.set_cons_zero, List.set_cons_succ, i64_w, i32_w]
       rfl
      refine pure_ (i := 6) (N := some 52) (v := ?_) (a' := ?_) #[true, true, true, true, true, true, true, true, false, false] rfl rfl (any_of HT_.out (by kernel_rfl)) (fun _ _ _ h => h) (Or.inl ⟨by rfl, ?_⟩) ?_ ?_
      rotate_left
      ·intro w'
       go_simp
       with_reducible rfl
      rotate_left
      ·simp only [Act.put, List.setIfInBounds_toArray, List.set_cons_zero, List.set_cons_succ, i64_w, i32_w]
       rfl
      exact norm_ (by simp only [putAll, Act.put, List.setIfInBounds_toArray, List.set_cons_zero, List.set_cons_succ]) (hCont (gb489) _ ⟨hHeld, (bq_ BK469), (bq_ BK474), (bq_ BK478), (bq_ BK483), (bq_ BK489), GW489.out, GE489.out, NB469_489.out, NB489_469.out, NB474_489.out, NB489_474.out, NB478_489.out, NB489_478.out, NB483_489.out, NB489_483.out, (by repeat (first | (with_reducible first | exact HB.out | apply below_alloc | apply pw_below_drewN | apply below_drew1 | refine below_set ?_ (Aside0.out (by assumption))) | exact HB.out))⟩)
    rintro gb489 w58 ⟨hS_, h0_, h1_, h2_, h3_, h4_, h5_, h6_, h7_, h8_, h9_, h10_, h11_, h12_, h13_, h14_, h15_⟩
    have BK489 : Aside0 (w58.heap[gb489]? = some (.cells #[.int .u64 0, .int .u64 0] 46 (0, 0))) := ⟨h4_⟩
    have GW489 : Aside0 (w.heap.size ≤ gb489) := ⟨h5_⟩
    have GE489 : Aside0 (w.heap.size ≤ gb489) := ⟨h6_⟩
    have NB469_489 : Aside0 (gb469 ≠ gb489) := ⟨h7_⟩
    have NB489_469 : Aside0 (gb489 ≠ gb469) := ⟨h8_⟩
    have NB474_489 : Aside0 (gb474 ≠ gb489) := ⟨h9_⟩
    have NB489_474 : Aside0 (gb489 ≠ gb474) := ⟨h10_⟩
    have NB478_489 : Aside0 (gb478 ≠ gb489) := ⟨h11_⟩
    have NB489_478 : Aside0 (gb489 ≠ gb478) := ⟨h12_⟩
    have NB483_489 : Aside0 (gb483 ≠ gb489) := ⟨h13_⟩
    have NB489_483 : Aside0 (gb489 ≠ gb483) := ⟨h14_⟩
    replace BK469 : Aside0 (w58.heap[gb469]? = some (.cells #[.int .u64 a0_0, .int .u64 a0_1] 46 (0, 0))) := ⟨h0_⟩
    replace BK474 : Aside0 (w58.heap[gb474]? = some (.cells #[.int .u64 t470, .int .u64 t471] 46 (0, 0))) := ⟨h1_⟩
    replace BK478 : Aside0 (w58.heap[gb478]? = some (.cells #[.int .u64 t475, .int .u64 t476] 46 (0, 0))) := ⟨h2_⟩
    replace BK483 : Aside0 (w58.heap[gb483]? = some (.cells #[.int .u64 t480, .int .u64 t481] 46 (0, 0))) := ⟨h3_⟩
    replace HB : Aside0 (Below w.heap.size w w58) := ⟨h15_⟩
    clear h0_ h1_ h2_ h3_ h4_ h5_ h6_ h7_ h8_ h9_ h10_ h11_ h12_ h13_ h14_ h15_
    have hHeld : w58.cell? ⟨gb483, 0, none⟩ = some (.int .u64 t480) ∧ w58.cell? ⟨gb483, 1, none⟩ = some (.int .u64 t481) := hS_
    refine norm_ (a' := ?_) ?_ ?_
    rotate_left
    ·simp only [putAll, Act.put, List.setIfInBounds_toArray, List.set_cons_zero, List.set_cons_succ]
     rfl
    refine one_ (i := 8) (N := none) #[true, true, true, true, true, true, true, true, true, false] rfl rfl (one_of HT_.out (by kernel_rfl)) (by decide) (fun K hK => ?_)
    have hs59 : w58.cell? ⟨gb489, 0, none⟩ = some (.int .u64 0) := (blk_cell BK489.out 0).trans rfl
    have hfs59 := blk_frozen BK489.out 0
    have hns59_0 := NB469_489.out
    have hns59_1 := NB474_489.out
    have hns59_2 := NB478_489.out
    have hns59_3 := NB483_489.out
    have hms59_0 := NB489_469.out
    have hms59_1 := NB489_474.out
    have hms59_2 := NB489_478.out
    have hms59_3 := NB489_483.out
    have hs60 : w58.cell? ⟨gb489, 1, none⟩ = some (.int .u64 0) := (blk_cell BK489.out 1).trans rfl
    have hfs60 := blk_frozen BK489.out 1
    have hns60_0 := NB469_489.out
    have hns60_1 := NB474_489.out
    have hns60_2 := NB478_489.out
    have hns60_3 := NB483_489.out
    have hms60_0 := NB489_469.out
    have hms60_1 := NB489_474.out
    have hms60_2 := NB489_478.out
    have hms60_3 := NB489_483.out
    refine skip_ (w1 := ?_) (by rfl) rfl ?_ ?_
    rotate_left
    ·go_simp
     rfl
    refine hK.out _ _ ⟨((cell_far (p := ⟨gb489, _, none⟩) NB483_489.out _).trans (((cell_far (p := ⟨gb489, _, none⟩) NB483_489.out _).trans (hHeld.1)))), ((cell_far (p := ⟨gb489, _, none⟩) NB483_489.out _).trans (((cell_far (p := ⟨gb489, _, none⟩) NB483_489.out _).trans (hHeld.2))))⟩ (fun hHeld => ?_)
    clear hK K
    refine pure_ (i := 9) (N := some 13) (v := ?_) (a' := ?_) #[true, true, true, true, true, true, true, true, true, true] rfl rfl (any_of HT_.out (by kernel_rfl)) (fun _ _ _ h => h) (Or.inl ⟨by rfl, ?_⟩) ?_ ?_
    rotate_left
    ·intro w'
     go_simp
     with_reducible rfl
    rotate_left
    ·simp only [Act.put, List.setIfInBounds_toArray, List.set_cons_zero, List.set_cons_succ, i64_w, i32_w]
     rfl
    refine done_ (done_of HT_.out (by kernel_rfl)) ?_
    have hnb61 := NB489_469.out
    have hnc61 := NB469_489.out
    have hnb62 := NB489_474.out
    have hnc62 := NB474_489.out
    have hnb63 := NB489_478.out
    have hnc63 := NB478_489.out
    have hnb64 := NB489_483.out
    have hnc64 := NB483_489.out
    have hcz65_0 : w58.cell? ⟨gb489, 0, none⟩ = some (.int .u64 0) := (blk_cell BK489.out 0).trans rfl
    have hcz65_1 : w58.cell? ⟨gb489, 1, none⟩ = some (.int .u64 0) := (blk_cell BK489.out 1).trans rfl
    have hfz65_0 := blk_frozen BK489.out 0
    have hfz65_1 := blk_frozen BK489.out 1
    have hcz66_0 : w58.cell? ⟨gb469, 0, none⟩ = some (.int .u64 a0_0) := (blk_cell BK469.out 0).trans rfl
    have hcz66_1 : w58.cell? ⟨gb469, 1, none⟩ = some (.int .u64 a0_1) := (blk_cell BK469.out 1).trans rfl
    have hfz66_0 := blk_frozen BK469.out 0
    have hfz66_1 := blk_frozen BK469.out 1
    have hcz67_0 : w58.cell? ⟨gb478, 0, none⟩ = some (.int .u64 t475) := (blk_cell BK478.out 0).trans rfl
    have hcz67_1 : w58.cell? ⟨gb478, 1, none⟩ = some (.int .u64 t476) := (blk_cell BK478.out 1).trans rfl
    have hfz67_0 := blk_frozen BK478.out 0
    have hfz67_1 := blk_frozen BK478.out 1
    have hcz68_0 : w58.cell? ⟨gb474, 0, none⟩ = some (.int .u64 t470) := (blk_cell BK474.out 0).trans rfl
    have hcz68_1 : w58.cell? ⟨gb474, 1, none⟩ = some (.int .u64 t471) := (blk_cell BK474.out 1).trans rfl
    have hfz68_0 := blk_frozen BK474.out 0
    have hfz68_1 := blk_frozen BK474.out 1
    try go_wp2_with (first | (go_at_call 39; (with_reducible refine (spigotlaw01_alive.calls k  t490 _ A33.out).mono ?_); rintro e w69 ⟨rfl, hb⟩; replace BK469 := Aside0.mk (blk_below (g := gb469) (o := .cells #[.int .u64 a0_0, .int .u64 a0_1] 46 (0, 0)) (by (with_reducible repeat (first | refine blk_drewN ?_ _ | refine blk_drew ?_ | refine blk_alloc ?_ _)); refine blk_far ?_ NB469_489.out _; (with_reducible repeat (first | refine blk_drewN ?_ _ | refine blk_drew ?_ | refine blk_alloc ?_ _)); refine blk_far ?_ NB469_489.out _; (with_reducible repeat (first | refine blk_drewN ?_ _ | refine blk_drew ?_ | refine blk_alloc ?_ _)); exact BK469.out) hb); replace BK474 := Aside0.mk (blk_below (g := gb474) (o := .cells #[.int .u64 t470, .int .u64 t471] 46 (0, 0)) (by (with_reducible repeat (first | refine blk_drewN ?_ _ | refine blk_drew ?_ | refine blk_alloc ?_ _)); refine blk_far ?_ NB474_489.out _; (with_reducible repeat (first | refine blk_drewN ?_ _ | refine blk_drew ?_ | refine blk_alloc ?_ _)); refine blk_far ?_ NB474_489.out _; (with_reducible repeat (first | refine blk_drewN ?_ _ | refine blk_drew ?_ | refine blk_alloc ?_ _)); exact BK474.out) hb); replace BK478 := Aside0.mk (blk_below (g := gb478) (o := .cells #[.int .u64 t475, .int .u64 t476] 46 (0, 0)) (by (with_reducible repeat (first | refine blk_drewN ?_ _ | refine blk_drew ?_ | refine blk_alloc ?_ _)); refine blk_far ?_ NB478_489.out _; (with_reducible repeat (first | refine blk_drewN ?_ _ | refine blk_drew ?_ | refine blk_alloc ?_ _)); refine blk_far ?_ NB478_489.out _; (with_reducible repeat (first | refine blk_drewN ?_ _ | refine blk_drew ?_ | refine blk_alloc ?_ _)); exact BK478.out) hb); replace BK483 := Aside0.mk (blk_below (g := gb483) (o := .cells #[.int .u64 t480, .int .u64 t481] 46 (0, 0)) (by (with_reducible repeat (first | refine blk_drewN ?_ _ | refine blk_drew ?_ | refine blk_alloc ?_ _)); refine blk_far ?_ NB483_489.out _; (with_reducible repeat (first | refine blk_drewN ?_ _ | refine blk_drew ?_ | refine blk_alloc ?_ _)); refine blk_far ?_ NB483_489.out _; (with_reducible repeat (first | refine blk_drewN ?_ _ | refine blk_drew ?_ | refine blk_alloc ?_ _)); exact BK483.out) hb); replace BK489 := Aside0.mk (blk_below (g := gb489) (o := .cells #[.int .u64 t486, .int .u64 t487] 46 (0, 0)) (by (with_reducible repeat (first | refine blk_drewN ?_ _ | refine blk_drew ?_ | refine blk_alloc ?_ _)); refine blk_put (cs := #[.int .u64 t486, .int .u64 0]) ?_ 1 _ rfl; (with_reducible repeat (first | refine blk_drewN ?_ _ | refine blk_drew ?_ | refine blk_alloc ?_ _)); refine blk_put (cs := #[.int .u64 0, .int .u64 0]) ?_ 0 _ rfl; (with_reducible repeat (first | refine blk_drewN ?_ _ | refine blk_drew ?_ | refine blk_alloc ?_ _)); exact BK489.out) hb); replace HB := Aside0.mk (below_step (by repeat (first | (with_reducible first | exact HB.out | apply below_alloc | apply pw_below_drewN | apply below_drew1 | refine below_set ?_ (Aside0.out (by assumption))) | exact HB.out)) hb); (try clear hb); (try clear hb2); (try clear hk); (try clear hi)))
    go_ret
    exact ⟨by first | rfl | (simp [errW_none, errW_some] <;> rfl) | (simp [*, errW_none, errW_some] <;> rfl), by repeat (first | (with_reducible first | exact HB.out | apply below_alloc | apply pw_below_drewN | apply below_drew1 | refine below_set ?_ GE469.out | refine below_set ?_ GE474.out | refine below_set ?_ GE478.out | refine below_set ?_ GE483.out | refine below_set ?_ GE489.out) | exact HB.out)⟩
   ·rw [if_neg c31] at H
    have c31b0 : (t472 == 0) = false := beq_eq_false_iff_ne.mpr c31
    have c31b1 : (t472 != 0) = true := bne_iff_ne.mpr c31
    replace H := Option.bind_eq_some_iff.mp H
    obtain ⟨⟨t491, t492⟩, A700, H⟩ := H
    try dsimp only at H
    have A70 := Aside0.mk A700
    clear A700
    replace H := Option.bind_eq_some_iff.mp H
    obtain ⟨⟨t493, t494, t495⟩, A710, H⟩ := H
    replace H : (if t495 = 0 then (if (t475 == t493 && (t476 == t494)) = true then ((spigotlaw01_alive.f k).bind fun t497 => (some t497)) else (none)) else (none)) = some r := H
    have A71 := Aside0.mk A710
    clear A710
    by_cases c72 : t495 = 0
    rotate_left
    ·rw [if_neg c72] at H; exact absurd H (by simp)
    rw [if_pos c72] at H
    have c72b0 : (t495 == 0) = true := beq_iff_eq.mpr c72
    have c72b1 : (t495 != 0) = false := bne_eq_false_iff_eq.mpr c72
    clear c72
    by_cases c73 : (t475 == t493 && (t476 == t494)) = true
    rotate_left
    ·rw [if_neg c73] at H; exact absurd H (by simp)
    rw [if_pos c73] at H
    have c73b0 : (t475 == t493 && (t476 == t494)) = true := c73
    (try (have c73b1 : decide (t475 = t493 && (t476 == t494)) = true := by simpa using c73))
    (try (have c73b2 : (t475 == t493 && (t476 == t494)) = true := by simpa using c73))
    clear c73
    replace H := Option.bind_eq_some_iff.mp H
    obtain ⟨t497, A740, H⟩ := H
    replace H : (some t497) = some r := H
    have A74 := Aside0.mk A740
    clear A740
    obtain rfl := Option.some.inj H
    go_enter Try.func11, Try.ntmps11
    try go_wp2_with (first | ((with_reducible refine gate_dst (N := 2) rfl ?_); refine box_event ?hg (N := 2) ?hd (cs := #[.int .u64 a0_0, .int .u64 a0_1]) (t := 46) ?hr ?_; (case hd => rfl); (case hg => rfl); (case hr => first | (go_simp; done) | (go_simp; rfl)); intro gb469 hg w75 hbox hb; have BK469 := Aside0.mk (hbox); have GW469 := Aside0.mk ((by rw [hg]; exact (below_size (hq_ HB)) : w.heap.size ≤ gb469)); have GE469 := GW469; replace HB := Aside0.mk (below_step (hq_ HB) hb); clear hb hbox hg; have hcz76_0 : w75.cell? ⟨gb469, 0, none⟩ = some (.int .u64 a0_0) := (blk_cell BK469.out 0).trans rfl; have hcz76_1 : w75.cell? ⟨gb469, 1, none⟩ = some (.int .u64 a0_1) := (blk_cell BK469.out 1).trans rfl; have hfz76_0 := blk_frozen BK469.out 0; have hfz76_1 := blk_frozen BK469.out 1) | ((with_reducible refine gate_callee (f := 33) rfl ?_); refine goesL_ (some 19) rfl rfl Try.func33 (by kernel_rfl) rfl #[.agg #[.int .u64 a0_0, .int .u64 a0_1], .int .u64 a1] rfl (by (try simp only [List.map_toArray, List.map_cons, List.map_nil]); first | done | rfl | (simp only [List.length_drop, List.length_take]; rfl)) ?_; (with_reducible refine (wide_Div.calls k a0_0 a0_1 a1 t470 t471 t472 t473 _ A3.out).mono ?_); rintro e w77 ⟨rfl, hb⟩; refine ⟨_, rfl, ?_⟩; replace BK469 := bb_ BK469 hb; replace HB := Aside0.mk (below_step (by repeat (first | (with_reducible first | exact HB.out | apply below_alloc | apply pw_below_drewN | apply below_drew1 | refine below_set ?_ (Aside0.out (by assumption))) | exact HB.out)) hb); (try clear hb); (try clear hb2); (try clear hk); (try clear hi)) | ((with_reducible refine gate_dst (N := 5) rfl ?_); refine box_event ?hg (N := 5) ?hd (cs := #[.int .u64 0, .int .u64 0]) (t := 46) ?hr ?_; (case hd => rfl); (case hg => rfl); (case hr => first | (go_simp; done) | (go_simp; rfl)); intro gb474 hg w78 hbox hb; have BK474 := Aside0.mk (hbox); have GW474 := Aside0.mk ((by rw [hg]; exact (below_size (by repeat (first | (with_reducible first | exact HB.out | apply below_alloc | apply pw_below_drewN | apply below_drew1 | refine below_set ?_ (Aside0.out (by assumption))) | exact HB.out))) : w.heap.size ≤ gb474)); have GE474 := GW474; have NB469_474 := bn_ BK469 hg; have NB474_469 := bm_ BK469 hg; replace BK469 := bb_ BK469 hb; replace HB := Aside0.mk (below_step (by repeat (first | (with_reducible first | exact HB.out | apply below_alloc | apply pw_below_drewN | apply below_drew1 | refine below_set ?_ (Aside0.out (by assumption))) | exact HB.out)) hb); clear hb hbox hg; have hnb79 := NB474_469.out; have hnc79 := NB469_474.out; have hcz80_0 : w78.cell? ⟨gb474, 0, none⟩ = some (.int .u64 0) := (blk_cell BK474.out 0).trans rfl; have hcz80_1 : w78.cell? ⟨gb474, 1, none⟩ = some (.int .u64 0) := (blk_cell BK474.out 1).trans rfl; have hfz80_0 := blk_frozen BK474.out 0; have hfz80_1 := blk_frozen BK474.out 1; have hcz81_0 : w78.cell? ⟨gb469, 0, none⟩ = some (.int .u64 a0_0) := (blk_cell BK469.out 0).trans rfl; have hcz81_1 : w78.cell? ⟨gb469, 1, none⟩ = some (.int .u64 a0_1) := (blk_cell BK469.out 1).trans rfl; have hfz81_0 := blk_frozen BK469.out 0; have hfz81_1 := blk_frozen BK469.out 1) | ((with_reducible refine gate_callee (f := 35) rfl ?_); refine goesL_ (some 26) rfl rfl Try.func35 (by kernel_rfl) rfl #[.agg #[.int .u64 a0_0, .int .u64 a0_1], .int .u64 a1] rfl (by (try simp only [List.map_toArray, List.map_cons, List.map_nil]); first | done | rfl | (simp only [List.length_drop, List.length_take]; rfl)) ?_; (with_reducible refine (wide_Up.calls k a0_0 a0_1 a1 t475 t476 t477 _ A4.out).mono ?_); rintro e w82 ⟨rfl, hb⟩; refine ⟨_, rfl, ?_⟩; replace BK469 := Aside0.mk (blk_below (g := gb469) (o := .cells #[.int .u64 a0_0, .int .u64 a0_1] 46 (0, 0)) (by (with_reducible repeat (first | refine blk_drewN ?_ _ | refine blk_drew ?_ | refine blk_alloc ?_ _)); refine blk_far ?_ NB469_474.out _; (with_reducible repeat (first | refine blk_drewN ?_ _ | refine blk_drew ?_ | refine blk_alloc ?_ _)); refine blk_far ?_ NB469_474.out _; (with_reducible repeat (first | refine blk_drewN ?_ _ | refine blk_drew ?_ | refine blk_alloc ?_ _)); exact BK469.out) hb); replace BK474 := Aside0.mk (blk_below (g := gb474) (o := .cells #[.int .u64 t470, .int .u64 t471] 46 (0, 0)) (by (with_reducible repeat (first | refine blk_drewN ?_ _ | refine blk_drew ?_ | refine blk_alloc ?_ _)); refine blk_put (cs := #[.int .u64 t470, .int .u64 0]) ?_ 1 _ rfl; (with_reducible repeat (first | refine blk_drewN ?_ _ | refine blk_drew ?_ | refine blk_alloc ?_ _)); refine blk_put (cs := #[.int .u64 0, .int .u64 0]) ?_ 0 _ rfl; (with_reducible repeat (first | refine blk_drewN ?_ _ | refine blk_drew ?_ | refine blk_alloc ?_ _)); exact BK474.out) hb); replace HB := Aside0.mk (below_step (by repeat (first | (with_reducible first | exact HB.out | apply below_alloc | apply pw_below_drewN | apply below_drew1 | refine below_set ?_ (Aside0.out (by assumption))) | exact HB.out)) hb); (try clear hb); (try clear hb2); (try clear hk); (try clear hi)) | ((with_reducible refine gate_dst (N := 8) rfl ?_); refine box_event ?hg (N := 8) ?hd (cs := #[.int .u64 0, .int .u64 0]) (t := 46) ?hr ?_; (case hd => rfl); (case hg => rfl); (case hr => first | (go_simp; done) | (go_simp; rfl)); intro gb478 hg w83 hbox hb; have BK478 := Aside0.mk (hbox); have GW478 := Aside0.mk ((by rw [hg]; exact (below_size (by repeat (first | (with_reducible first | exact HB.out | apply below_alloc | apply pw_below_drewN | apply below_drew1 | refine below_set ?_ (Aside0.out (by assumption))) | exact HB.out))) : w.heap.size ≤ gb478)); have GE478 := GW478; have NB469_478 := bn_ BK469 hg; have NB478_469 := bm_ BK469 hg; have NB474_478 := bn_ BK474 hg; have NB478_474 := bm_ BK474 hg; replace BK469 := bb_ BK469 hb; replace BK474 := bb_ BK474 hb; replace HB := Aside0.mk (below_step (by repeat (first | (with_reducible first | exact HB.out | apply below_alloc | apply pw_below_drewN | apply below_drew1 | refine below_set ?_ (Aside0.out (by assumption))) | exact HB.out)) hb); clear hb hbox hg; have hnb84 := NB478_469.out; have hnc84 := NB469_478.out; have hnb85 := NB478_474.out; have hnc85 := NB474_478.out; have hcz86_0 : w83.cell? ⟨gb478, 0, none⟩ = some (.int .u64 0) := (blk_cell BK478.out 0).trans rfl; have hcz86_1 : w83.cell? ⟨gb478, 1, none⟩ = some (.int .u64 0) := (blk_cell BK478.out 1).trans rfl; have hfz86_0 := blk_frozen BK478.out 0; have hfz86_1 := blk_frozen BK478.out 1; have hcz87_0 : w83.cell? ⟨gb474, 0, none⟩ = some (.int .u64 t470) := (blk_cell BK474.out 0).trans rfl; have hcz87_1 : w83.cell? ⟨gb474, 1, none⟩ = some (.int .u64 t471) := (blk_cell BK474.out 1).trans rfl; have hfz87_0 := blk_frozen BK474.out 0; have hfz87_1 := blk_frozen BK474.out 1) | ((with_reducible refine gate_callee (f := 40) rfl ?_); refine goesL_ (some 43) rfl rfl Try.func40 (by kernel_rfl) rfl #[.agg #[.int .u64 t470, .int .u64 t471], .int .u64 a1] rfl (by (try simp only [List.map_toArray, List.map_cons, List.map_nil]); first | done | rfl | (simp only [List.length_drop, List.length_take]; rfl)) ?_; (with_reducible refine (spigotlaw01_times.calls t470 t471 a1 t480 t481 true _ A22.out).mono ?_); rintro e w88 ⟨rfl, hb⟩; refine ⟨_, rfl, ?_⟩; replace BK469 := Aside0.mk (blk_below (g := gb469) (o := .cells #[.int .u64 a0_0, .int .u64 a0_1] 46 (0, 0)) (by (with_reducible repeat (first | refine blk_drewN ?_ _ | refine blk_drew ?_ | refine blk_alloc ?_ _)); refine blk_far ?_ NB469_478.out _; (with_reducible repeat (first | refine blk_drewN ?_ _ | refine blk_drew ?_ | refine blk_alloc ?_ _)); refine blk_far ?_ NB469_478.out _; (with_reducible repeat (first | refine blk_drewN ?_ _ | refine blk_drew ?_ | refine blk_alloc ?_ _)); exact BK469.out) hb); replace BK474 := Aside0.mk (blk_below (g := gb474) (o := .cells #[.int .u64 t470, .int .u64 t471] 46 (0, 0)) (by (with_reducible repeat (first | refine blk_drewN ?_ _ | refine blk_drew ?_ | refine blk_alloc ?_ _)); refine blk_far ?_ NB474_478.out _; (with_reducible repeat (first | refine blk_drewN ?_ _ | refine blk_drew ?_ | refine blk_alloc ?_ _)); refine blk_far ?_ NB474_478.out _; (with_reducible repeat (first | refine blk_drewN ?_ _ | refine blk_drew ?_ | refine blk_alloc ?_ _)); exact BK474.out) hb); replace BK478 := Aside0.mk (blk_below (g := gb478) (o := .cells #[.int .u64 t475, .int .u64 t476] 46 (0, 0)) (by (with_reducible repeat (first | refine blk_drewN ?_ _ | refine blk_drew ?_ | refine blk_alloc ?_ _)); refine blk_put (cs := #[.int .u64 t475, .int .u64 0]) ?_ 1 _ rfl; (with_reducible repeat (first | refine blk_drewN ?_ _ | refine blk_drew ?_ | refine blk_alloc ?_ _)); refine blk_put (cs := #[.int .u64 0, .int .u64 0]) ?_ 0 _ rfl; (with_reducible repeat (first | refine blk_drewN ?_ _ | refine blk_drew ?_ | refine blk_alloc ?_ _)); exact BK478.out) hb); replace HB := Aside0.mk (below_step (by repeat (first | (with_reducible first | exact HB.out | apply below_alloc | apply pw_below_drewN | apply below_drew1 | refine below_set ?_ (Aside0.out (by assumption))) | exact HB.out)) hb); (try clear hb); (try clear hb2); (try clear hk); (try clear hi)) | ((with_reducible refine gate_dst (N := 10) rfl ?_); refine box_event ?hg (N := 10) ?hd (cs := #[.int .u64 0, .int .u64 0]) (t := 46) ?hr ?_; (case hd => rfl); (case hg => rfl); (case hr => first | (go_simp; done) | (go_simp; rfl)); intro gb483 hg w89 hbox hb; have BK483 := Aside0.mk (hbox); have GW483 := Aside0.mk ((by rw [hg]; exact (below_size (by repeat (first | (with_reducible first | exact HB.out | apply below_alloc | apply pw_below_drewN | apply below_drew1 | refine below_set ?_ (Aside0.out (by assumption))) | exact HB.out))) : w.heap.size ≤ gb483)); have GE483 := GW483; have NB469_483 := bn_ BK469 hg; have NB483_469 := bm_ BK469 hg; have NB474_483 := bn_ BK474 hg; have NB483_474 := bm_ BK474 hg; have NB478_483 := bn_ BK478 hg; have NB483_478 := bm_ BK478 hg; replace BK469 := bb_ BK469 hb; replace BK474 := bb_ BK474 hb; replace BK478 := bb_ BK478 hb; replace HB := Aside0.mk (below_step (by repeat (first | (with_reducible first | exact HB.out | apply below_alloc | apply pw_below_drewN | apply below_drew1 | refine below_set ?_ (Aside0.out (by assumption))) | exact HB.out)) hb); clear hb hbox hg; have hnb90 := NB483_469.out; have hnc90 := NB469_483.out; have hnb91 := NB483_474.out; have hnc91 := NB474_483.out; have hnb92 := NB483_478.out; have hnc92 := NB478_483.out; have hcz93_0 : w89.cell? ⟨gb483, 0, none⟩ = some (.int .u64 0) := (blk_cell BK483.out 0).trans rfl; have hcz93_1 : w89.cell? ⟨gb483, 1, none⟩ = some (.int .u64 0) := (blk_cell BK483.out 1).trans rfl; have hfz93_0 := blk_frozen BK483.out 0; have hfz93_1 := blk_frozen BK483.out 1))
    have n0_ : Aside0 (((w89.setCell ⟨gb483, 0, none⟩ (.int .u64 t480)).setCell ⟨gb483, 1, none⟩ (.int .u64 t481)).heap[gb469]? = some (.cells #[.int .u64 a0_0, .int .u64 a0_1] 46 (0, 0))) := ⟨by (with_reducible repeat (first | refine blk_drewN ?_ _ | refine blk_drew ?_ | refine blk_alloc ?_ _)); refine blk_far ?_ NB469_483.out _; (with_reducible repeat (first | refine blk_drewN ?_ _ | refine blk_drew ?_ | refine blk_alloc ?_ _)); refine blk_far ?_ NB469_483.out _; (with_reducible repeat (first | refine blk_drewN ?_ _ | refine blk_drew ?_ | refine blk_alloc ?_ _)); exact BK469.out⟩
    have n1_ : Aside0 (((w89.setCell ⟨gb483, 0, none⟩ (.int .u64 t480)).setCell ⟨gb483, 1, none⟩ (.int .u64 t481)).heap[gb474]? = some (.cells #[.int .u64 t470, .int .u64 t471] 46 (0, 0))) := ⟨by (with_reducible repeat (first | refine blk_drewN ?_ _ | refine blk_drew ?_ | refine blk_alloc ?_ _)); refine blk_far ?_ NB474_483.out _; (with_reducible repeat (first | refine blk_drewN ?_ _ | refine blk_drew ?_ | refine blk_alloc ?_ _)); refine blk_far ?_ NB474_483.out _; (with_reducible repeat (first | refine blk_drewN ?_ _ | refine blk_drew ?_ | refine blk_alloc ?_ _)); exact BK474.out⟩
    have n2_ : Aside0 (((w89.setCell ⟨gb483, 0, none⟩ (.int .u64 t480)).setCell ⟨gb483, 1, none⟩ (.int .u64 t481)).heap[gb478]? = some (.cells #[.int .u64 t475, .int .u64 t476] 46 (0, 0))) := ⟨by (with_reducible repeat (first | refine blk_drewN ?_ _ | refine blk_drew ?_ | refine blk_alloc ?_ _)); refine blk_far ?_ NB478_483.out _; (with_reducible repeat (first | refine blk_drewN ?_ _ | refine blk_drew ?_ | refine blk_alloc ?_ _)); refine blk_far ?_ NB478_483.out _; (with_reducible repeat (first | refine blk_drewN ?_ _ | refine blk_drew ?_ | refine blk_alloc ?_ _)); exact BK478.out⟩
    have n3_ : Aside0 (((w89.setCell ⟨gb483, 0, none⟩ (.int .u64 t480)).setCell ⟨gb483, 1, none⟩ (.int .u64 t481)).heap[gb483]? = some (.cells #[.int .u64 t480, .int .u64 t481] 46 (0, 0))) := ⟨by (with_reducible repeat (first | refine blk_drewN ?_ _ | refine blk_drew ?_ | refine blk_alloc ?_ _)); refine blk_put (cs := #[.int .u64 t480, .int .u64 0]) ?_ 1 _ rfl; (with_reducible repeat (first | refine blk_drewN ?_ _ | refine blk_drew ?_ | refine blk_alloc ?_ _)); refine blk_put (cs := #[.int .u64 0, .int .u64 0]) ?_ 0 _ rfl; (with_reducible repeat (first | refine blk_drewN ?_ _ | refine blk_drew ?_ | refine blk_alloc ?_ _)); exact BK483.out⟩
    have n4_ : Aside0 (Below w.heap.size w ((w89.setCell ⟨gb483, 0, none⟩ (.int .u64 t480)).setCell ⟨gb483, 1, none⟩ (.int .u64 t481))) := ⟨by repeat (first | (with_reducible first | exact HB.out | apply below_alloc | apply pw_below_drewN | apply below_drew1 | refine below_set ?_ GE469.out | refine below_set ?_ GE474.out | refine below_set ?_ GE478.out | refine below_set ?_ GE483.out) | exact HB.out)⟩
    (try clear BK469)
    (try clear BK474)
    (try clear BK478)
    (try clear BK483)
    (try clear HB)
    generalize ((w89.setCell ⟨gb483, 0, none⟩ (.int .u64 t480)).setCell ⟨gb483, 1, none⟩ (.int .u64 t481)) = w94 at n0_ n1_ n2_ n3_ n4_ ⊢
    have BK469 := n0_
    have BK474 := n1_
    have BK478 := n2_
    have BK483 := n3_
    have HB := n4_
    clear n0_ n1_ n2_ n3_ n4_
    replace BK469 := Aside0.mk (blk_drew BK469.out)
    replace BK474 := Aside0.mk (blk_drew BK474.out)
    replace BK478 := Aside0.mk (blk_drew BK478.out)
    replace BK483 := Aside0.mk (blk_drew BK483.out)
    replace HB := Aside0.mk (below_drew1 HB.out)
    refine start_ (n := 10) (S := fun w' => w'.cell? ⟨gb483, 0, none⟩ = some (.int .u64 t480) ∧ w'.cell? ⟨gb483, 1, none⟩ = some (.int .u64 t481)) (ds := []) #[false, false, false, false, false, false, false, false, false, false] (by kernel_rfl) rfl rfl ⟨(blk_cell BK483.out 0).trans rfl, (blk_cell BK483.out 1).trans rfl⟩ (fun hHeld => ?_); refine with_tabW spigotlaw01_WideBack.tab6 spigotlaw01_WideBack.bits6 (fun HT_ HW_ => ?_)
    generalize w94.drew = w95 at BK469 BK474 BK478 BK483 HB hHeld ⊢
    refine pure_ (i := 1) (N := some 48) (v := ?_) (a' := ?_) #[false, true, false, false, false, false, false, false, false, false] rfl rfl (any_of HT_.out (by kernel_rfl)) (fun _ _ _ h => h) (Or.inl ⟨by rfl, ?_⟩) ?_ ?_
    rotate_left
    ·intro w'
     go_simp
     with_reducible rfl
    rotate_left
    ·simp only [Act.put, List.setIfInBounds_toArray, List.set_cons_zero, List.set_cons_succ, i64_w, i32_w]
     rfl
    refine take_ (i := 0) (N := some 47) (v := ?_) (a' := ?_) #[true, true, false, false, false, false, false, false, false, false] rfl rfl (take_ofW HT_.out HW_.out (by kernel_rfl)) (fun _ _ _ h => h) (Or.inl ⟨by rfl, ?_⟩) hHeld ?_ ?_
    rotate_left
    ·rintro w' ⟨s0, s1⟩
     go_simp
     with_reducible rfl
    rotate_left
    ·simp only [Act.put, List.setIfInBounds_toArray, List.set_cons_zero, List.set_cons_succ, i64_w, i32_w]
     rfl
    refine join_ (σ := Nat) 2 #[true, true, true, true, true, true, true, true, false, false] (fun s_ => [(49, .agg #[.int .u64 t484, .int .u64 t485]), (50, .tuple #[.agg #[.int .u64 t486, .int .u64 t487], .int .i64 t488]), (12, .pointer (some ⟨s_, 0, none⟩)), (46, .tuple #[.agg #[.int .u64 t486, .int .u64 t487], .int .i64 t488]), (51, .agg #[.int .u64 t486, .int .u64 t487]), (52, .int .i64 t488)]) (fun s_ w' => (w'.cell? ⟨gb483, 0, none⟩ = some (.int .u64 t480) ∧ w'.cell? ⟨gb483, 1, none⟩ = some (.int .u64 t481)) ∧ (w'.heap[gb469]? = some (.cells #[.int .u64 a0_0, .int .u64 a0_1] 46 (0, 0))) ∧ (w'.heap[gb474]? = some (.cells #[.int .u64 t470, .int .u64 t471] 46 (0, 0))) ∧ (w'.heap[gb478]? = some (.cells #[.int .u64 t475, .int .u64 t476] 46 (0, 0))) ∧ (w'.heap[gb483]? = some (.cells #[.int .u64 t480, .int .u64 t481] 46 (0, 0))) ∧ (w'.heap[s_]? = some (.cells #[.int .u64 0, .int .u64 0] 46 (0, 0))) ∧ (w.heap.size ≤ s_) ∧ (w.heap.size ≤ s_) ∧ (gb469 ≠ s_) ∧ (s_ ≠ gb469) ∧ (gb474 ≠ s_) ∧ (s_ ≠ gb474) ∧ (gb478 ≠ s_) ∧ (s_ ≠ gb478) ∧ (gb483 ≠ s_) ∧ (s_ ≠ gb483) ∧ (Below w.heap.size w w')) ?_ ?_
    rotate_left
    ·intro hCont
     refine two_ (i := 2) (j := 7) (Ni := some 49) (Nj := some 12) #[true, true, true, false, false, false, false, false, false, false] #[true, true, false, false, false, false, false, true, false, false] rfl rfl rfl rfl (two_of HT_.out (by kernel_rfl)) (by decide) (by decide) (fun K hK => ?_) (fun K hK => ?_)
     ·skip
      refine goes_ Try.func32 (by kernel_rfl) rfl #[.int .u64 t472] (by rfl) rfl rfl (by (try simp only [List.map_toArray, List.map_cons, List.map_nil]); first | done | rfl | (simp only [List.length_drop, List.length_take]; rfl)) ?_
      with_reducible refine (wide_Of.calls t472 t484 t485 _ A23.out).mono ?_
      rintro e w96 ⟨rfl, hb⟩
      refine ⟨_, rfl, ?_⟩
      replace BK469 := bb_ BK469 hb
      replace BK474 := bb_ BK474 hb
      replace BK478 := bb_ BK478 hb
      replace BK483 := bb_ BK483 hb
      replace HB := Aside0.mk (below_step (by repeat (first | (with_reducible first | exact HB.out | apply below_alloc | apply pw_below_drewN | apply below_drew1 | refine below_set ?_ (Aside0.out (by assumption))) | exact HB.out)) hb)
      (try clear hb)
      (try clear hb2)
      (try clear hk)
      (try clear hi)
      refine hK.out _ _ ⟨(blk_cell BK483.out 0).trans rfl, (blk_cell BK483.out 1).trans rfl⟩ (fun hHeld => ?_)
      clear hK K
      refine norm_ (a' := ?_) ?_ ?_
      rotate_left
      ·show Act.put _ (some 49) _ = _
       simp only [Act.put, List.setIfInBounds_toArray, List.set_cons_zero, List.set_cons_succ, i64_w, i32_w]
       rfl
      refine two_ (i := 3) (j := 7) (Ni := some 50) (Nj := some 12) #[true, true, true, true, false, false, false, false, false, false] #[true, true, true, false, false, false, false, true, false, false] rfl rfl rfl rfl (two_of HT_.out (by kernel_rfl)) (by decide) (by decide) (fun K hK => ?_) (fun K hK => ?_)
      ·skip
       refine goes_ Try.func24 (by kernel_rfl) rfl #[.agg #[.int .u64 t480, .int .u64 t481], .agg #[.int .u64 t484, .int .u64 t485]] (by rfl) rfl rfl (by (try simp only [List.map_toArray, List.map_cons, List.map_nil]); first | done | rfl | (simp only [List.length_drop, List.length_take]; rfl)) ?_
       with_reducible refine (wide_Add.calls t480 t481 t484 t485 t486 t487 t488 _ A24.out).mono ?_
       rintro e w97 ⟨rfl, hb⟩
       refine ⟨_, rfl, ?_⟩
       replace BK469 := bb_ BK469 hb
       replace BK474 := bb_ BK474 hb
       replace BK478 := bb_ BK478 hb
       replace BK483 := bb_ BK483 hb
       replace HB := Aside0.mk (below_step (by repeat (first | (with_reducible first | exact HB.out | apply below_alloc | apply pw_below_drewN | apply below_drew1 | refine below_set ?_ (Aside0.out (by assumption))) | exact HB.out)) hb)
       (try clear hb)
       (try clear hb2)
       (try clear hk)
       (try clear hi)
       refine hK.out _ _ ⟨(blk_cell BK483.out 0).trans rfl, (blk_cell BK483.out 1).trans rfl⟩ (fun hHeld => ?_)
       clear hK K
       refine norm_ (a' := ?_) ?_ ?_
       rotate_left
       ·show Act.put _ (some 50) _ = _
        simp only [Act.put, List.setIfInBounds_toArray, List.set_cons_zero, List.set_cons_succ, i64_w, i32_w]
        rfl
       refine pure_ (i := 4) (N := some 46) (v := ?_) (a' := ?_) #[true, true, true, true, true, false, false, false, false, false] rfl rfl (any_of HT_.out (by kernel_rfl)) (fun _ _ _ h => h) (Or.inl ⟨by rfl, ?_⟩) ?_ ?_
       rotate_left
       ·intro w'
        go_simp
        with_reducible rfl
       rotate_left
       ·simp only [Act.put, List.setIfInBounds_toArray, List.set_cons_zero, List.set_cons_succ, i64_w, i32_w]
        rfl
       refine pure_ (i := 5) (N := some 51) (v := ?_) (a' := ?_) #[true, true, true, true, true, true, false, false, false, false] rfl rfl (any_of HT_.out (by kernel_rfl)) (fun _ _ _ h => h) (Or.inl ⟨by rfl, ?_⟩) ?_ ?_
       rotate_left
       ·intro w'
        go_simp
        with_reducible rfl
       rotate_left
       ·simp only [Act.put, List.setIfInBounds_toArray, List.set_cons_zero, List.set_cons_succ, i64_w, i32_w]
        rfl
       refine pure_ (i := 6) (N := some 52) (v := ?_) (a' := ?_) #[true, true, true, true, true, true, true, false, false, false] rfl rfl (any_of HT_.out (by kernel_rfl)) (fun _ _ _ h => h) (Or.inl ⟨by rfl, ?_⟩) ?_ ?_
       rotate_left
       ·intro w'
        go_simp
        with_reducible rfl
       rotate_left
       ·simp only [Act.put, List.setIfInBounds_toArray, List.set_cons_zero, List.set_cons_succ, i64_w, i32_w]
        rfl
       refine one_ (i := 7) (N := some 12) #[true, true, true, true, true, true, true, true, false, false] rfl rfl (one_of HT_.out (by kernel_rfl)) (by decide) (fun K hK => ?_)
       refine box_step ?hg (N := 12) ?hd (cs := #[.int .u64 0, .int .u64 0]) (t := 46) ?hr ?_; (case hd => rfl); (case hg => rfl); (case hr => first | (go_simp; done) | (go_simp; rfl))
       intro gb489 hg w98 hbox hb
       have BK489 := Aside0.mk (hbox)
       have GW489 := Aside0.mk ((by rw [hg]; exact (below_size (by repeat (first | (with_reducible first | exact HB.out | apply below_alloc | apply pw_below_drewN | apply below_drew1 | refine below_set ?_ (Aside0.out (by assumption))) | exact HB.out))) : w.heap.size ≤ gb489))
       have GE489 := GW489
       have NB469_489 := bn_ BK469 hg
       have NB489_469 := bm_ BK469 hg
       have NB474_489 := bn_ BK474 hg
       have NB489_474 := bm_ BK474 hg
       have NB478_489 := bn_ BK478 hg
       have NB489_478 := bm_ BK478 hg
       have NB483_489 := bn_ BK483 hg
       have NB489_483 := bm_ BK483 hg
       replace BK469 := bb_ BK469 hb
       replace BK474 := bb_ BK474 hb
       replace BK478 := bb_ BK478 hb
       replace BK483 := bb_ BK483 hb
       replace HB := Aside0.mk (below_step (by repeat (first | (with_reducible first | exact HB.out | apply below_alloc | apply pw_below_drewN | apply below_drew1 | refine below_set ?_ (Aside0.out (by assumption))) | exact HB.out)) hb)
       clear hb hbox hg
       refine hK.out _ _ ⟨(blk_cell BK483.out 0).trans rfl, (blk_cell BK483.out 1).trans rfl⟩ (fun hHeld => ?_)
       clear hK K
       refine norm_ (a' := ?_) ?_ ?_
       rotate_left
       ·show Act.put _ (some 12) _ = _
        simp only [Act.put, List.setIfInBounds_toArray, List.set_cons_zero, List.set_cons_succ, i64_w, i32_w]
        rfl
       exact norm_ (by simp only [putAll, Act.put, List.setIfInBounds_toArray, List.set_cons_zero, List.set_cons_succ]) (hCont (gb489) _ ⟨hHeld, (bq_ BK469), (bq_ BK474), (bq_ BK478), (bq_ BK483), (bq_ BK489), GW489.out, GE489.out, NB469_489.out, NB489_469.out, NB474_489.out, NB489_474.out, NB478_489.out, NB489_478.out, NB483_489.out, NB489_483.out, (by repeat (first | (with_reducible first | exact HB.out | apply below_alloc | apply pw_below_drewN | apply below_drew1 | refine below_set ?_ (Aside0.out (by assumption))) | exact HB.out))⟩)
      ·skip
       refine box_step ?hg (N := 12) ?hd (cs := #[.int .u64 0, .int .u64 0]) (t := 46) ?hr ?_; (case hd => rfl); (case hg => rfl); (case hr => first | (go_simp; done) | (go_simp; rfl))
       intro gb489 hg w97 hbox hb
       have BK489 := Aside0.mk (hbox)
       have GW489 := Aside0.mk ((by rw [hg]; exact (below_size (by repeat (first | (with_reducible first | exact HB.out | apply below_alloc | apply pw_below_drewN | apply below_drew1 | refine below_set ?_ (Aside0.out (by assumption))) | exact HB.out))) : w.heap.size ≤ gb489))
       have GE489 := GW489
       have NB469_489 := bn_ BK469 hg
       have NB489_469 := bm_ BK469 hg
       have NB474_489 := bn_ BK474 hg
       have NB489_474 := bm_ BK474 hg
       have NB478_489 := bn_ BK478 hg
       have NB489_478 := bm_ BK478 hg
       have NB483_489 := bn_ BK483 hg
       have NB489_483 := bm_ BK483 hg
       replace BK469 := bb_ BK469 hb
       replace BK474 := bb_ BK474 hb
       replace BK478 := bb_ BK478 hb
       replace BK483 := bb_ BK483 hb
       replace HB := Aside0.mk (below_step (by repeat (first | (with_reducible first | exact HB.out | apply below_alloc | apply pw_below_drewN | apply below_drew1 | refine below_set ?_ (Aside0.out (by assumption))) | exact HB.out)) hb)
       clear hb hbox hg
       refine hK.out _ _ ⟨(blk_cell BK483.out 0).trans rfl, (blk_cell BK483.out 1).trans rfl⟩ (fun hHeld => ?_)
       clear hK K
       refine norm_ (a' := ?_) ?_ ?_
       rotate_left
       ·show Act.put _ (some 12) _ = _
        simp only [Act.put, List.setIfInBounds_toArray, List.set_cons_zero, List.set_cons_succ, i64_w, i32_w]
        rfl
       refine one_ (i := 3) (N := some 50) #[true, true, true, true, false, false, false, true, false, false] rfl rfl (one_of HT_.out (by kernel_rfl)) (by decide) (fun K hK => ?_)
       refine goes_ Try.func24 (by kernel_rfl) rfl #[.agg #[.int .u64 t480, .int .u64 t481], .agg #[.int .u64 t484, .int .u64 t485]] (by rfl) rfl rfl (by (try simp only [List.map_toArray, List.map_cons, List.map_nil]); first | done | rfl | (simp only [List.length_drop, List.length_take]; rfl)) ?_
       with_reducible refine (wide_Add.calls t480 t481 t484 t485 t486 t487 t488 _ A24.out).mono ?_
       rintro e w98 ⟨rfl, hb⟩
       refine ⟨_, rfl, ?_⟩
       replace BK469 := bb_ BK469 hb
       replace BK474 := bb_ BK474 hb
       replace BK478 := bb_ BK478 hb
       replace BK483 := bb_ BK483 hb
       replace BK489 := bb_ BK489 hb
       replace HB := Aside0.mk (below_step (by repeat (first | (with_reducible first | exact HB.out | apply below_alloc | apply pw_below_drewN | apply below_drew1 | refine below_set ?_ (Aside0.out (by assumption))) | exact HB.out)) hb)
       (try clear hb)
       (try clear hb2)
       (try clear hk)
       (try clear hi)
       refine hK.out _ _ ⟨(blk_cell BK483.out 0).trans rfl, (blk_cell BK483.out 1).trans rfl⟩ (fun hHeld => ?_)
       clear hK K
       refine norm_ (a' := ?_) ?_ ?_
       rotate_left
       ·show Act.put _ (some 50) _ = _
        simp only [Act.put, List.setIfInBounds_toArray, List.set_cons_zero, List.set_cons_succ, i64_w, i32_w]
        rfl
       refine pure_ (i := 4) (N := some 46) (v := ?_) (a' := ?_) #[true, true, true, true, true, false, false, true, false, false] rfl rfl (any_of HT_.out (by kernel_rfl)) (fun _ _ _ h => h) (Or.inl ⟨by rfl, ?_⟩) ?_ ?_
       rotate_left
       ·intro w'
        go_simp
        with_reducible rfl
       rotate_left
       ·simp only [Act.put, List.setIfInBounds_toArray, List.set_cons_zero, List.set_cons_succ, i64_w, i32_w]
        rfl
       refine pure_ (i := 5) (N := some 51) (v := ?_) (a' := ?_) #[true, true, true, true, true, true, false, true, false, false] rfl rfl (any_of HT_.out (by kernel_rfl)) (fun _ _ _ h => h) (Or.inl ⟨by rfl, ?_⟩) ?_ ?_
       rotate_left
       ·intro w'
        go_simp
        with_reducible rfl
       rotate_left
       ·simp only [Act.put, List.setIfInBounds_toArray, List.set_cons_zero, List.set_cons_succ, i64_w, i32_w]
        rfl
       refine pure_ (i := 6) (N := some 52) (v := ?_) (a' := ?_) #[true, true, true, true, true, true, true, true, false, false] rfl rfl (any_of HT_.out (by kernel_rfl)) (fun _ _ _ h => h) (Or.inl ⟨by rfl, ?_⟩) ?_ ?_
       rotate_left
       ·intro w'
        go_simp
        with_reducible rfl
       rotate_left
       ·simp only [Act.put, List.setIfInBounds_toArray, List.set_cons_zero, List.set_cons_succ, i64_w, i32_w]
        rfl
       exact norm_ (by simp only [putAll, Act.put, List.setIfInBounds_toArray, List.set_cons_zero, List.set_cons_succ]) (hCont (gb489) _ ⟨hHeld, (bq_ BK469), (bq_ BK474), (bq_ BK478), (bq_ BK483), (bq_ BK489), GW489.out, GE489.out, NB469_489.out, NB489_469.out, NB474_489.out, NB489_474.out, NB478_489.out, NB489_478.out, NB483_489.out, NB489_483.out, (by repeat (first | (with_reducible first | exact HB.out | apply below_alloc | apply pw_below_drewN | apply below_drew1 | refine below_set ?_ (Aside0.out (by assumption))) | exact HB.out))⟩)
     ·skip
      refine box_step ?hg (N := 12) ?hd (cs := #[.int .u64 0, .int .u64 0]) (t := 46) ?hr ?_; (case hd => rfl); (case hg => rfl); (case hr => first | (go_simp; done) | (go_simp; rfl))
      intro gb489 hg w96 hbox hb
      have BK489 := Aside0.mk (hbox)
      have GW489 := Aside0.mk ((by rw [hg]; exact (below_size (by repeat (first | (with_reducible first | exact HB.out | apply below_alloc | apply pw_below_drewN | apply below_drew1 | refine below_set ?_ (Aside0.out (by assumption))) | exact HB.out))) : w.heap.size ≤ gb489))
      have GE489 := GW489
      have NB469_489 := bn_ BK469 hg
      have NB489_469 := bm_ BK469 hg
      have NB474_489 := bn_ BK474 hg
      have NB489_474 := bm_ BK474 hg
      have NB478_489 := bn_ BK478 hg
      have NB489_478 := bm_ BK478 hg
      have NB483_489 := bn_ BK483 hg
      have NB489_483 := bm_ BK483 hg
      replace BK469 := bb_ BK469 hb
      replace BK474 := bb_ BK474 hb
      replace BK478 := bb_ BK478 hb
      replace BK483 := bb_ BK483 hb
      replace HB := Aside0.mk (below_step (by repeat (first | (with_reducible first | exact HB.out | apply below_alloc | apply pw_below_drewN | apply below_drew1 | refine below_set ?_ (Aside0.out (by assumption))) | exact HB.out)) hb)
      clear hb hbox hg
      refine hK.out _ _ ⟨(blk_cell BK483.out 0).trans rfl, (blk_cell BK483.out 1).trans rfl⟩ (fun hHeld => ?_)
      clear hK K
      refine norm_ (a' := ?_) ?_ ?_
      rotate_left
      ·show Act.put _ (some 12) _ = _
       simp only [Act.put, List.setIfInBounds_toArray, List.set_cons_zero, List.set_cons_succ, i64_w, i32_w]
       rfl
      refine one_ (i := 2) (N := some 49) #[true, true, true, false, false, false, false, true, false, false] rfl rfl (one_of HT_.out (by kernel_rfl)) (by decide) (fun K hK => ?_)
      refine goes_ Try.func32 (by kernel_rfl) rfl #[.int .u64 t472] (by rfl) rfl rfl (by (try simp only [List.map_toArray, List.map_cons, List.map_nil]); first | done | rfl | (simp only [List.length_drop, List.length_take]; rfl)) ?_
      with_reducible refine (wide_Of.calls t472 t484 t485 _ A23.out).mono ?_
      rintro e w97 ⟨rfl, hb⟩
      refine ⟨_, rfl, ?_⟩
      replace BK469 := bb_ BK469 hb
      replace BK474 := bb_ BK474 hb
      replace BK478 := bb_ BK478 hb
      replace BK483 := bb_ BK483 hb
      replace BK489 := bb_ BK489 hb
      replace HB := Aside0.mk (below_step (by repeat (first | (with_reducible first | exact HB.out | apply below_alloc | apply pw_below_drewN | apply below_drew1 | refine below_set ?_ (Aside0.out (by assumption))) | exact HB.out)) hb)
      (try clear hb)
      (try clear hb2)
      (try clear hk)
      (try clear hi)
      refine hK.out _ _ ⟨(blk_cell BK483.out 0).trans rfl, (blk_cell BK483.out 1).trans rfl⟩ (fun hHeld => ?_)
      clear hK K
      refine norm_ (a' := ?_) ?_ ?_
      rotate_left
      ·show Act.put _ (some 49) _ = _
       simp only [Act.put, List.setIfInBounds_toArray, List.set_cons_zero, List.set_cons_succ, i64_w, i32_w]
       rfl
      refine one_ (i := 3) (N := some 50) #[true, true, true, true, false, false, false, true, false, false] rfl rfl (one_of HT_.out (by kernel_rfl)) (by decide) (fun K hK => ?_)
      refine goes_ Try.func24 (by kernel_rfl) rfl #[.agg #[.int .u64 t480, .int .u64 t481], .agg #[.int .u64 t484, .int .u64 t485]] (by rfl) rfl rfl (by (try simp only [List.map_toArray, List.map_cons, List.map_nil]); first | done | rfl | (simp only [List.length_drop, List.length_take]; rfl)) ?_
      with_reducible refine (wide_Add.calls t480 t481 t484 t485 t486 t487 t488 _ A24.out).mono ?_
      rintro e w98 ⟨rfl, hb⟩
      refine ⟨_, rfl, ?_⟩
      replace BK469 := bb_ BK469 hb
      replace BK474 := bb_ BK474 hb
      replace BK478 := bb_ BK478 hb
      replace BK483 := bb_ BK483 hb
      replace BK489 := bb_ BK489 hb
      replace HB := Aside0.mk (below_step (by repeat (first | (with_reducible first | exact HB.out | apply below_alloc | apply pw_below_drewN | apply below_drew1 | refine below_set ?_ (Aside0.out (by assumption))) | exact HB.out)) hb)
      (try clear hb)
      (try clear hb2)
      (try clear hk)
      (try clear hi)
      refine hK.out _ _ ⟨(blk_cell BK483.out 0).trans rfl, (blk_cell BK483.out 1).trans rfl⟩ (fun hHeld => ?_)
      clear hK K
      refine norm_ (a' := ?_) ?_ ?_
      rotate_left
      ·show Act.put _ (some 50) _ = _
       simp only [Act.put, List.setIfInBounds_toArray, List.set_cons_zero, List.set_cons_succ, i64_w, i32_w]
       rfl
      refine pure_ (i := 4) (N := some 46) (v := ?_) (a' := ?_) #[true, true, true, true, true, false, false, true, false, false] rfl rfl (any_of HT_.out (by kernel_rfl)) (fun _ _ _ h => h) (Or.inl ⟨by rfl, ?_⟩) ?_ ?_
      rotate_left
      ·intro w'
       go_simp
       with_reducible rfl
      rotate_left
      ·simp only [Act.put, List.setIfInBounds_toArray, List.set_cons_zero, List.set_cons_succ, i64_w, i32_w]
       rfl
      refine pure_ (i := 5) (N := some 51) (v := ?_) (a' := ?_) #[true, true, true, true, true, true, false, true, false, false] rfl rfl (any_of HT_.out (by kernel_rfl)) (fun _ _ _ h => h) (Or.inl ⟨by rfl, ?_⟩) ?_ ?_
      rotate_left
      ·intro w'
       go_simp
       with_reducible rfl
      rotate_left
      ·simp only [Act.put, List.setIfInBounds_toArray, List.set_cons_zero, List.set_cons_succ, i64_w, i32_w]
       rfl
      refine pure_ (i := 6) (N := some 52) (v := ?_) (a' := ?_) #[true, true, true, true, true, true, true, true, false, false] rfl rfl (any_of HT_.out (by kernel_rfl)) (fun _ _ _ h => h) (Or.inl ⟨by rfl, ?_⟩) ?_ ?_
      rotate_left
      ·intro w'
       go_simp
       with_reducible rfl
      rotate_left
      ·simp only [Act.put, List.setIfInBounds_toArray, List.set_cons_zero, List.set_cons_succ, i64_w, i32_w]
       rfl
      exact norm_ (by simp only [putAll, Act.put, List.setIfInBounds_toArray, List.set_cons_zero, List.set_cons_succ]) (hCont (gb489) _ ⟨hHeld, (bq_ BK469), (bq_ BK474), (bq_ BK478), (bq_ BK483), (bq_ BK489), GW489.out, GE489.out, NB469_489.out, NB489_469.out, NB474_489.out, NB489_474.out, NB478_489.out, NB489_478.out, NB483_489.out, NB489_483.out, (by repeat (first | (with_reducible first | exact HB.out | apply below_alloc | apply pw_below_drewN | apply below_drew1 | refine below_set ?_ (Aside0.out (by assumption))) | exact HB.out))⟩)
    rintro gb489 w99 ⟨hS_, h0_, h1_, h2_, h3_, h4_, h5_, h6_, h7_, h8_, h9_, h10_, h11_, h12_, h13_, h14_, h15_⟩
    have BK489 : Aside0 (w99.heap[gb489]? = some (.cells #[.int .u64 0, .int .u64 0] 46 (0, 0))) := ⟨h4_⟩
    have GW489 : Aside0 (w.heap.size ≤ gb489) := ⟨h5_⟩
    have GE489 : Aside0 (w.heap.size ≤ gb489) := ⟨h6_⟩
    have NB469_489 : Aside0 (gb469 ≠ gb489) := ⟨h7_⟩
    have NB489_469 : Aside0 (gb489 ≠ gb469) := ⟨h8_⟩
    have NB474_489 : Aside0 (gb474 ≠ gb489) := ⟨h9_⟩
    have NB489_474 : Aside0 (gb489 ≠ gb474) := ⟨h10_⟩
    have NB478_489 : Aside0 (gb478 ≠ gb489) := ⟨h11_⟩
    have NB489_478 : Aside0 (gb489 ≠ gb478) := ⟨h12_⟩
    have NB483_489 : Aside0 (gb483 ≠ gb489) := ⟨h13_⟩
    have NB489_483 : Aside0 (gb489 ≠ gb483) := ⟨h14_⟩
    replace BK469 : Aside0 (w99.heap[gb469]? = some (.cells #[.int .u64 a0_0, .int .u64 a0_1] 46 (0, 0))) := ⟨h0_⟩
    replace BK474 : Aside0 (w99.heap[gb474]? = some (.cells #[.int .u64 t470, .int .u64 t471] 46 (0, 0))) := ⟨h1_⟩
    replace BK478 : Aside0 (w99.heap[gb478]? = some (.cells #[.int .u64 t475, .int .u64 t476] 46 (0, 0))) := ⟨h2_⟩
    replace BK483 : Aside0 (w99.heap[gb483]? = some (.cells #[.int .u64 t480, .int .u64 t481] 46 (0, 0))) := ⟨h3_⟩
    replace HB : Aside0 (Below w.heap.size w w99) := ⟨h15_⟩
    clear h0_ h1_ h2_ h3_ h4_ h5_ h6_ h7_ h8_ h9_ h10_ h11_ h12_ h13_ h14_ h15_
    have hHeld : w99.cell? ⟨gb483, 0, none⟩ = some (.int .u64 t480) ∧ w99.cell? ⟨gb483, 1, none⟩ = some (.int .u64 t481) := hS_
    refine norm_ (a' := ?_) ?_ ?_
    rotate_left
    ·simp only [putAll, Act.put, List.setIfInBounds_toArray, List.set_cons_zero, List.set_cons_succ]
     rfl
    refine one_ (i := 8) (N := none) #[true, true, true, true, true, true, true, true, true, false] rfl rfl (one_of HT_.out (by kernel_rfl)) (by decide) (fun K hK => ?_)
    have hs100 : w99.cell? ⟨gb489, 0, none⟩ = some (.int .u64 0) := (blk_cell BK489.out 0).trans rfl
    have hfs100 := blk_frozen BK489.out 0
    have hns100_0 := NB469_489.out
    have hns100_1 := NB474_489.out
    have hns100_2 := NB478_489.out
    have hns100_3 := NB483_489.out
    have hms100_0 := NB489_469.out
    have hms100_1 := NB489_474.out
    have hms100_2 := NB489_478.out
    have hms100_3 := NB489_483.out
    have hs101 : w99.cell? ⟨gb489, 1, none⟩ = some (.int .u64 0) := (blk_cell BK489.out 1).trans rfl
    have hfs101 := blk_frozen BK489.out 1
    have hns101_0 := NB469_489.out
    have hns101_1 := NB474_489.out
    have hns101_2 := NB478_489.out
    have hns101_3 := NB483_489.out
    have hms101_0 := NB489_469.out
    have hms101_1 := NB489_474.out
    have hms101_2 := NB489_478.out
    have hms101_3 := NB489_483.out
    refine skip_ (w1 := ?_) (by rfl) rfl ?_ ?_
    rotate_left
    ·go_simp
     rfl
    refine hK.out _ _ ⟨((cell_far (p := ⟨gb489, _, none⟩) NB483_489.out _).trans (((cell_far (p := ⟨gb489, _, none⟩) NB483_489.out _).trans (hHeld.1)))), ((cell_far (p := ⟨gb489, _, none⟩) NB483_489.out _).trans (((cell_far (p := ⟨gb489, _, none⟩) NB483_489.out _).trans (hHeld.2))))⟩ (fun hHeld => ?_)
    clear hK K
    refine pure_ (i := 9) (N := some 13) (v := ?_) (a' := ?_) #[true, true, true, true, true, true, true, true, true, true] rfl rfl (any_of HT_.out (by kernel_rfl)) (fun _ _ _ h => h) (Or.inl ⟨by rfl, ?_⟩) ?_ ?_
    rotate_left
    ·intro w'
     go_simp
     with_reducible rfl
    rotate_left
    ·simp only [Act.put, List.setIfInBounds_toArray, List.set_cons_zero, List.set_cons_succ, i64_w, i32_w]
     rfl
    refine done_ (done_of HT_.out (by kernel_rfl)) ?_
    have hnb102 := NB489_469.out
    have hnc102 := NB469_489.out
    have hnb103 := NB489_474.out
    have hnc103 := NB474_489.out
    have hnb104 := NB489_478.out
    have hnc104 := NB478_489.out
    have hnb105 := NB489_483.out
    have hnc105 := NB483_489.out
    have hcz106_0 : w99.cell? ⟨gb489, 0, none⟩ = some (.int .u64 0) := (blk_cell BK489.out 0).trans rfl
    have hcz106_1 : w99.cell? ⟨gb489, 1, none⟩ = some (.int .u64 0) := (blk_cell BK489.out 1).trans rfl
    have hfz106_0 := blk_frozen BK489.out 0
    have hfz106_1 := blk_frozen BK489.out 1
    have hcz107_0 : w99.cell? ⟨gb469, 0, none⟩ = some (.int .u64 a0_0) := (blk_cell BK469.out 0).trans rfl
    have hcz107_1 : w99.cell? ⟨gb469, 1, none⟩ = some (.int .u64 a0_1) := (blk_cell BK469.out 1).trans rfl
    have hfz107_0 := blk_frozen BK469.out 0
    have hfz107_1 := blk_frozen BK469.out 1
    try go_wp2
    have n0_ : Aside0 (((w99.setCell ⟨gb489, 0, none⟩ (.int .u64 t486)).setCell ⟨gb489, 1, none⟩ (.int .u64 t487)).heap[gb469]? = some (.cells #[.int .u64 a0_0, .int .u64 a0_1] 46 (0, 0))) := ⟨by (with_reducible repeat (first | refine blk_drewN ?_ _ | refine blk_drew ?_ | refine blk_alloc ?_ _)); refine blk_far ?_ NB469_489.out _; (with_reducible repeat (first | refine blk_drewN ?_ _ | refine blk_drew ?_ | refine blk_alloc ?_ _)); refine blk_far ?_ NB469_489.out _; (with_reducible repeat (first | refine blk_drewN ?_ _ | refine blk_drew ?_ | refine blk_alloc ?_ _)); exact BK469.out⟩
    have n1_ : Aside0 (((w99.setCell ⟨gb489, 0, none⟩ (.int .u64 t486)).setCell ⟨gb489, 1, none⟩ (.int .u64 t487)).heap[gb474]? = some (.cells #[.int .u64 t470, .int .u64 t471] 46 (0, 0))) := ⟨by (with_reducible repeat (first | refine blk_drewN ?_ _ | refine blk_drew ?_ | refine blk_alloc ?_ _)); refine blk_far ?_ NB474_489.out _; (with_reducible repeat (first | refine blk_drewN ?_ _ | refine blk_drew ?_ | refine blk_alloc ?_ _)); refine blk_far ?_ NB474_489.out _; (with_reducible repeat (first | refine blk_drewN ?_ _ | refine blk_drew ?_ | refine blk_alloc ?_ _)); exact BK474.out⟩
    have n2_ : Aside0 (((w99.setCell ⟨gb489, 0, none⟩ (.int .u64 t486)).setCell ⟨gb489, 1, none⟩ (.int .u64 t487)).heap[gb478]? = some (.cells #[.int .u64 t475, .int .u64 t476] 46 (0, 0))) := ⟨by (with_reducible repeat (first | refine blk_drewN ?_ _ | refine blk_drew ?_ | refine blk_alloc ?_ _)); refine blk_far ?_ NB478_489.out _; (with_reducible repeat (first | refine blk_drewN ?_ _ | refine blk_drew ?_ | refine blk_alloc ?_ _)); refine blk_far ?_ NB478_489.out _; (with_reducible repeat (first | refine blk_drewN ?_ _ | refine blk_drew ?_ | refine blk_alloc ?_ _)); exact BK478.out⟩
    have n3_ : Aside0 (((w99.setCell ⟨gb489, 0, none⟩ (.int .u64 t486)).setCell ⟨gb489, 1, none⟩ (.int .u64 t487)).heap[gb483]? = some (.cells #[.int .u64 t480, .int .u64 t481] 46 (0, 0))) := ⟨by (with_reducible repeat (first | refine blk_drewN ?_ _ | refine blk_drew ?_ | refine blk_alloc ?_ _)); refine blk_far ?_ NB483_489.out _; (with_reducible repeat (first | refine blk_drewN ?_ _ | refine blk_drew ?_ | refine blk_alloc ?_ _)); refine blk_far ?_ NB483_489.out _; (with_reducible repeat (first | refine blk_drewN ?_ _ | refine blk_drew ?_ | refine blk_alloc ?_ _)); exact BK483.out⟩
    have n4_ : Aside0 (((w99.setCell ⟨gb489, 0, none⟩ (.int .u64 t486)).setCell ⟨gb489, 1, none⟩ (.int .u64 t487)).heap[gb489]? = some (.cells #[.int .u64 t486, .int .u64 t487] 46 (0, 0))) := ⟨by (with_reducible repeat (first | refine blk_drewN ?_ _ | refine blk_drew ?_ | refine blk_alloc ?_ _)); refine blk_put (cs := #[.int .u64 t486, .int .u64 0]) ?_ 1 _ rfl; (with_reducible repeat (first | refine blk_drewN ?_ _ | refine blk_drew ?_ | refine blk_alloc ?_ _)); refine blk_put (cs := #[.int .u64 0, .int .u64 0]) ?_ 0 _ rfl; (with_reducible repeat (first | refine blk_drewN ?_ _ | refine blk_drew ?_ | refine blk_alloc ?_ _)); exact BK489.out⟩
    have n5_ : Aside0 (Below w.heap.size w ((w99.setCell ⟨gb489, 0, none⟩ (.int .u64 t486)).setCell ⟨gb489, 1, none⟩ (.int .u64 t487))) := ⟨by repeat (first | (with_reducible first | exact HB.out | apply below_alloc | apply pw_below_drewN | apply below_drew1 | refine below_set ?_ GE469.out | refine below_set ?_ GE474.out | refine below_set ?_ GE478.out | refine below_set ?_ GE483.out | refine below_set ?_ GE489.out) | exact HB.out)⟩
    (try clear BK469)
    (try clear BK474)
    (try clear BK478)
    (try clear BK483)
    (try clear BK489)
    (try clear HB)
    generalize ((w99.setCell ⟨gb489, 0, none⟩ (.int .u64 t486)).setCell ⟨gb489, 1, none⟩ (.int .u64 t487)) = w108 at n0_ n1_ n2_ n3_ n4_ n5_ ⊢
    have BK469 := n0_
    have BK474 := n1_
    have BK478 := n2_
    have BK483 := n3_
    have BK489 := n4_
    have HB := n5_
    clear n0_ n1_ n2_ n3_ n4_ n5_
    replace BK469 := Aside0.mk (blk_drew BK469.out)
    replace BK474 := Aside0.mk (blk_drew BK474.out)
    replace BK478 := Aside0.mk (blk_drew BK478.out)
    replace BK483 := Aside0.mk (blk_drew BK483.out)
    replace BK489 := Aside0.mk (blk_drew BK489.out)
    replace HB := Aside0.mk (below_drew1 HB.out)
    refine start_ (n := 9) (S := fun w' => w'.cell? ⟨gb474, 0, none⟩ = some (.int .u64 t470) ∧ w'.cell? ⟨gb474, 1, none⟩ = some (.int .u64 t471)) (ds := []) #[false, false, false, false, false, false, false, false, false] (by kernel_rfl) rfl rfl ⟨(blk_cell BK474.out 0).trans rfl, (blk_cell BK474.out 1).trans rfl⟩ (fun hHeld => ?_); refine with_tabW spigotlaw01_WideBack.tab11 spigotlaw01_WideBack.bits11 (fun HT_ HW_ => ?_)
    generalize w108.drew = w109 at BK469 BK474 BK478 BK483 BK489 HB hHeld ⊢
    refine take_ (i := 0) (N := some 86) (v := ?_) (a' := ?_) #[true, false, false, false, false, false, false, false, false] rfl rfl (take_ofW HT_.out HW_.out (by kernel_rfl)) (fun _ _ _ h => h) (Or.inl ⟨by rfl, ?_⟩) hHeld ?_ ?_
    rotate_left
    ·rintro w' ⟨s0, s1⟩
     go_simp
     with_reducible rfl
    rotate_left
    ·simp only [Act.put, List.setIfInBounds_toArray, List.set_cons_zero, List.set_cons_succ, i64_w, i32_w]
     rfl
    refine join_ (σ := Nat) 2 #[true, true, true, true, true, true, true, false, false] (fun s_ => [(87, .agg #[.int .u64 t491, .int .u64 t492]), (88, .tuple #[.agg #[.int .u64 t493, .int .u64 t494], .int .i64 t495]), (14, .pointer (some ⟨s_, 0, none⟩)), (85, .tuple #[.agg #[.int .u64 t493, .int .u64 t494], .int .i64 t495]), (89, .agg #[.int .u64 t493, .int .u64 t494]), (90, .int .i64 t495)]) (fun s_ w' => (w'.cell? ⟨gb474, 0, none⟩ = some (.int .u64 t470) ∧ w'.cell? ⟨gb474, 1, none⟩ = some (.int .u64 t471)) ∧ (w'.heap[gb469]? = some (.cells #[.int .u64 a0_0, .int .u64 a0_1] 46 (0, 0))) ∧ (w'.heap[gb474]? = some (.cells #[.int .u64 t470, .int .u64 t471] 46 (0, 0))) ∧ (w'.heap[gb478]? = some (.cells #[.int .u64 t475, .int .u64 t476] 46 (0, 0))) ∧ (w'.heap[gb483]? = some (.cells #[.int .u64 t480, .int .u64 t481] 46 (0, 0))) ∧ (w'.heap[gb489]? = some (.cells #[.int .u64 t486, .int .u64 t487] 46 (0, 0))) ∧ (w'.heap[s_]? = some (.cells #[.int .u64 0, .int .u64 0] 46 (0, 0))) ∧ (w.heap.size ≤ s_) ∧ (w.heap.size ≤ s_) ∧ (gb469 ≠ s_) ∧ (s_ ≠ gb469) ∧ (gb474 ≠ s_) ∧ (s_ ≠ gb474) ∧ (gb478 ≠ s_) ∧ (s_ ≠ gb478) ∧ (gb483 ≠ s_) ∧ (s_ ≠ gb483) ∧ (gb489 ≠ s_) ∧ (s_ ≠ gb489) ∧ (Below w.heap.size w w')) ?_ ?_
    rotate_left
    ·intro hCont
     refine two_ (i := 1) (j := 6) (Ni := some 87) (Nj := some 14) #[true, true, false, false, false, false, false, false, false] #[true, false, false, false, false, false, true, false, false] rfl rfl rfl rfl (two_of HT_.out (by kernel_rfl)) (by decide) (by decide) (fun K hK => ?_) (fun K hK => ?_)
     ·skip
      refine goes_ Try.func32 (by kernel_rfl) rfl #[.int .u64 1] (by rfl) rfl rfl (by (try simp only [List.map_toArray, List.map_cons, List.map_nil]); first | done | rfl | (simp only [List.length_drop, List.length_take]; rfl)) ?_
      with_reducible refine (wide_Of.calls 1 t491 t492 _ A70.out).mono ?_
      rintro e w110 ⟨rfl, hb⟩
      refine ⟨_, rfl, ?_⟩
      replace BK469 := bb_ BK469 hb
      replace BK474 := bb_ BK474 hb
      replace BK478 := bb_ BK478 hb
      replace BK483 := bb_ BK483 hb
      replace BK489 := bb_ BK489 hb
      replace HB := Aside0.mk (below_step (by repeat (first | (with_reducible first | exact HB.out | apply below_alloc | apply pw_below_drewN | apply below_drew1 | refine below_set ?_ (Aside0.out (by assumption))) | exact HB.out)) hb)
      (try clear hb)
      (try clear hb2)
      (try clear hk)
      (try clear hi)
      refine hK.out _ _ ⟨(blk_cell BK474.out 0).trans rfl, (blk_cell BK474.out 1).trans rfl⟩ (fun hHeld => ?_)
      clear hK K
      refine norm_ (a' := ?_) ?_ ?_
      rotate_left
      ·show Act.put _ (some 87) _ = _
       simp only [Act.put, List.setIfInBounds_toArray, List.set_cons_zero, List.set_cons_succ, i64_w, i32_w]
       rfl
      refine two_ (i := 2) (j := 6) (Ni := some 88) (Nj := some 14) #[true, true, true, false, false, false, false, false, false] #[true, true, false, false, false, false, true, false, false] rfl rfl rfl rfl (two_of HT_.out (by kernel_rfl)) (by decide) (by decide) (fun K hK => ?_) (fun K hK => ?_)
      ·skip
       refine goes_ Try.func24 (by kernel_rfl) rfl #[.agg #[.int .u64 t470, .int .u64 t471], .agg #[.int .u64 t491, .int .u64 t492]] (by rfl) rfl rfl (by (try simp only [List.map_toArray, List.map_cons, List.map_nil]); first | done | rfl | (simp only [List.length_drop, List.length_take]; rfl)) ?_
       with_reducible refine (wide_Add.calls t470 t471 t491 t492 t493 t494 t495 _ A71.out).mono ?_
       rintro e w111 ⟨rfl, hb⟩
       refine ⟨_, rfl, ?_⟩
       replace BK469 := bb_ BK469 hb
       replace BK474 := bb_ BK474 hb
       replace BK478 := bb_ BK478 hb
       replace BK483 := bb_ BK483 hb
       replace BK489 := bb_ BK489 hb
       replace HB := Aside0.mk (below_step (by repeat (first | (with_reducible first | exact HB.out | apply below_alloc | apply pw_below_drewN | apply below_drew1 | refine below_set ?_ (Aside0.out (by assumption))) | exact HB.out)) hb)
       (try clear hb)
       (try clear hb2)
       (try clear hk)
       (try clear hi)
       refine hK.out _ _ ⟨(blk_cell BK474.out 0).trans rfl, (blk_cell BK474.out 1).trans rfl⟩ (fun hHeld => ?_)
       clear hK K
       refine norm_ (a' := ?_) ?_ ?_
       rotate_left
       ·show Act.put _ (some 88) _ = _
        simp only [Act.put, List.setIfInBounds_toArray, List.set_cons_zero, List.set_cons_succ, i64_w, i32_w]
        rfl
       refine pure_ (i := 3) (N := some 85) (v := ?_) (a' := ?_) #[true, true, true, true, false, false, false, false, false] rfl rfl (any_of HT_.out (by kernel_rfl)) (fun _ _ _ h => h) (Or.inl ⟨by rfl, ?_⟩) ?_ ?_
       rotate_left
       ·intro w'
        go_simp
        with_reducible rfl
       rotate_left
       ·simp only [Act.put, List.setIfInBounds_toArray, List.set_cons_zero, List.set_cons_succ, i64_w, i32_w]
        rfl
       refine pure_ (i := 4) (N := some 89) (v := ?_) (a' := ?_) #[true, true, true, true, true, false, false, false, false] rfl rfl (any_of HT_.out (by kernel_rfl)) (fun _ _ _ h => h) (Or.inl ⟨by rfl, ?_⟩) ?_ ?_
       rotate_left
       ·intro w'
        go_simp
        with_reducible rfl
       rotate_left
       ·simp only [Act.put, List.setIfInBounds_toArray, List.set_cons_zero, List.set_cons_succ, i64_w, i32_w]
        rfl
       refine pure_ (i := 5) (N := some 90) (v := ?_) (a' := ?_) #[true, true, true, true, true, true, false, false, false] rfl rfl (any_of HT_.out (by kernel_rfl)) (fun _ _ _ h => h) (Or.inl ⟨by rfl, ?_⟩) ?_ ?_
       rotate_left
       ·intro w'
        go_simp
        with_reducible rfl
       rotate_left
       ·simp only [Act.put, List.setIfInBounds_toArray, List.set_cons_zero, List.set_cons_succ, i64_w, i32_w]
        rfl
       refine one_ (i := 6) (N := some 14) #[true, true, true, true, true, true, true, false, false] rfl rfl (one_of HT_.out (by kernel_rfl)) (by decide) (fun K hK => ?_)
       refine box_step ?hg (N := 14) ?hd (cs := #[.int .u64 0, .int .u64 0]) (t := 46) ?hr ?_; (case hd => rfl); (case hg => rfl); (case hr => first | (go_simp; done) | (go_simp; rfl))
       intro gb496 hg w112 hbox hb
       have BK496 := Aside0.mk (hbox)
       have GW496 := Aside0.mk ((by rw [hg]; exact (below_size (by repeat (first | (with_reducible first | exact HB.out | apply below_alloc | apply pw_below_drewN | apply below_drew1 | refine below_set ?_ (Aside0.out (by assumption))) | exact HB.out))) : w.heap.size ≤ gb496))
       have GE496 := GW496
       have NB469_496 := bn_ BK469 hg
       have NB496_469 := bm_ BK469 hg
       have NB474_496 := bn_ BK474 hg
       have NB496_474 := bm_ BK474 hg
       have NB478_496 := bn_ BK478 hg
       have NB496_478 := bm_ BK478 hg
       have NB483_496 := bn_ BK483 hg
       have NB496_483 := bm_ BK483 hg
       have NB489_496 := bn_ BK489 hg
       have NB496_489 := bm_ BK489 hg
       replace BK469 := bb_ BK469 hb
       replace BK474 := bb_ BK474 hb
       replace BK478 := bb_ BK478 hb
       replace BK483 := bb_ BK483 hb
       replace BK489 := bb_ BK489 hb
       replace HB := Aside0.mk (below_step (by repeat (first | (with_reducible first | exact HB.out | apply below_alloc | apply pw_below_drewN | apply below_drew1 | refine below_set ?_ (Aside0.out (by assumption))) | exact HB.out)) hb)
       clear hb hbox hg
       refine hK.out _ _ ⟨(blk_cell BK474.out 0).trans rfl, (blk_cell BK474.out 1).trans rfl⟩ (fun hHeld => ?_)
       clear hK K
       refine norm_ (a' := ?_) ?_ ?_
       rotate_left
       ·show Act.put _ (some 14) _ = _
        simp only [Act.put, List.setIfInBounds_toArray, List.set_cons_zero, List.set_cons_succ, i64_w, i32_w]
        rfl
       exact norm_ (by simp only [putAll, Act.put, List.setIfInBounds_toArray, List.set_cons_zero, List.set_cons_succ]) (hCont (gb496) _ ⟨hHeld, (bq_ BK469), (bq_ BK474), (bq_ BK478), (bq_ BK483), (bq_ BK489), (bq_ BK496), GW496.out, GE496.out, NB469_496.out, NB496_469.out, NB474_496.out, NB496_474.out, NB478_496.out, NB496_478.out, NB483_496.out, NB496_483.out, NB489_496.out, NB496_489.out, (by repeat (first | (with_reducible first | exact HB.out | apply below_alloc | apply pw_below_drewN | apply below_drew1 | refine below_set ?_ (Aside0.out (by assumption))) | exact HB.out))⟩)
      ·skip
       refine box_step ?hg (N := 14) ?hd (cs := #[.int .u64 0, .int .u64 0]) (t := 46) ?hr ?_; (case hd => rfl); (case hg => rfl); (case hr => first | (go_simp; done) | (go_simp; rfl))
       intro gb496 hg w111 hbox hb
       have BK496 := Aside0.mk (hbox)
       have GW496 := Aside0.mk ((by rw [hg]; exact (below_size (by repeat (first | (with_reducible first | exact HB.out | apply below_alloc | apply pw_below_drewN | apply below_drew1 | refine below_set ?_ (Aside0.out (by assumption))) | exact HB.out))) : w.heap.size ≤ gb496))
       have GE496 := GW496
       have NB469_496 := bn_ BK469 hg
       have NB496_469 := bm_ BK469 hg
       have NB474_496 := bn_ BK474 hg
       have NB496_474 := bm_ BK474 hg
       have NB478_496 := bn_ BK478 hg
       have NB496_478 := bm_ BK478 hg
       have NB483_496 := bn_ BK483 hg
       have NB496_483 := bm_ BK483 hg
       have NB489_496 := bn_ BK489 hg
       have NB496_489 := bm_ BK489 hg
       replace BK469 := bb_ BK469 hb
       replace BK474 := bb_ BK474 hb
       replace BK478 := bb_ BK478 hb
       replace BK483 := bb_ BK483 hb
       replace BK489 := bb_ BK489 hb
       replace HB := Aside0.mk (below_step (by repeat (first | (with_reducible first | exact HB.out | apply below_alloc | apply pw_below_drewN | apply below_drew1 | refine below_set ?_ (Aside0.out (by assumption))) | exact HB.out)) hb)
       clear hb hbox hg
       refine hK.out _ _ ⟨(blk_cell BK474.out 0).trans rfl, (blk_cell BK474.out 1).trans rfl⟩ (fun hHeld => ?_)
       clear hK K
       refine norm_ (a' := ?_) ?_ ?_
       rotate_left
       ·show Act.put _ (some 14) _ = _
        simp only [Act.put, List.setIfInBounds_toArray, List.set_cons_zero, List.set_cons_succ, i64_w, i32_w]
        rfl
       refine one_ (i := 2) (N := some 88) #[true, true, true, false, false, false, true, false, false] rfl rfl (one_of HT_.out (by kernel_rfl)) (by decide) (fun K hK => ?_)
       refine goes_ Try.func24 (by kernel_rfl) rfl #[.agg #[.int .u64 t470, .int .u64 t471], .agg #[.int .u64 t491, .int .u64 t492]] (by rfl) rfl rfl (by (try simp only [List.map_toArray, List.map_cons, List.map_nil]); first | done | rfl | (simp only [List.length_drop, List.length_take]; rfl)) ?_
       with_reducible refine (wide_Add.calls t470 t471 t491 t492 t493 t494 t495 _ A71.out).mono ?_
       rintro e w112 ⟨rfl, hb⟩
       refine ⟨_, rfl, ?_⟩
       replace BK469 := bb_ BK469 hb
       replace BK474 := bb_ BK474 hb
       replace BK478 := bb_ BK478 hb
       replace BK483 := bb_ BK483 hb
       replace BK489 := bb_ BK489 hb
       replace BK496 := bb_ BK496 hb
       replace HB := Aside0.mk (below_step (by repeat (first | (with_reducible first | exact HB.out | apply below_alloc | apply pw_below_drewN | apply below_drew1 | refine below_set ?_ (Aside0.out (by assumption))) | exact HB.out)) hb)
       (try clear hb)
       (try clear hb2)
       (try clear hk)
       (try clear hi)
       refine hK.out _ _ ⟨(blk_cell BK474.out 0).trans rfl, (blk_cell BK474.out 1).trans rfl⟩ (fun hHeld => ?_)
       clear hK K
       refine norm_ (a' := ?_) ?_ ?_
       rotate_left
       ·show Act.put _ (some 88) _ = _
        simp only [Act.put, List.setIfInBounds_toArray, List.set_cons_zero, List.set_cons_succ, i64_w, i32_w]
        rfl
       refine pure_ (i := 3) (N := some 85) (v := ?_) (a' := ?_) #[true, true, true, true, false, false, true, false, false] rfl rfl (any_of HT_.out (by kernel_rfl)) (fun _ _ _ h => h) (Or.inl ⟨by rfl, ?_⟩) ?_ ?_
       rotate_left
       ·intro w'
        go_simp
        with_reducible rfl
       rotate_left
       ·simp only [Act.put, List.setIfInBounds_toArray, List.set_cons_zero, List.set_cons_succ, i64_w, i32_w]
        rfl
       refine pure_ (i := 4) (N := some 89) (v := ?_) (a' := ?_) #[true, true, true, true, true, false, true, false, false] rfl rfl (any_of HT_.out (by kernel_rfl)) (fun _ _ _ h => h) (Or.inl ⟨by rfl, ?_⟩) ?_ ?_
       rotate_left
       ·intro w'
        go_simp
        with_reducible rfl
       rotate_left
       ·simp only [Act.put, List.setIfInBounds_toArray, List.set_cons_zero, List.set_cons_succ, i64_w, i32_w]
        rfl
       refine pure_ (i := 5) (N := some 90) (v := ?_) (a' := ?_) #[true, true, true, true, true, true, true, false, false] rfl rfl (any_of HT_.out (by kernel_rfl)) (fun _ _ _ h => h) (Or.inl ⟨by rfl, ?_⟩) ?_ ?_
       rotate_left
       ·intro w'
        go_simp
        with_reducible rfl
       rotate_left
       ·simp only [Act.put, List.setIfInBounds_toArray, List.set_cons_zero, List.set_cons_succ, i64_w, i32_w]
        rfl
       exact norm_ (by simp only [putAll, Act.put, List.setIfInBounds_toArray, List.set_cons_zero, List.set_cons_succ]) (hCont (gb496) _ ⟨hHeld, (bq_ BK469), (bq_ BK474), (bq_ BK478), (bq_ BK483), (bq_ BK489), (bq_ BK496), GW496.out, GE496.out, NB469_496.out, NB496_469.out, NB474_496.out, NB496_474.out, NB478_496.out, NB496_478.out, NB483_496.out, NB496_483.out, NB489_496.out, NB496_489.out, (by repeat (first | (with_reducible first | exact HB.out | apply below_alloc | apply pw_below_drewN | apply below_drew1 | refine below_set ?_ (Aside0.out (by assumption))) | exact HB.out))⟩)
     ·skip
      refine box_step ?hg (N := 14) ?hd (cs := #[.int .u64 0, .int .u64 0]) (t := 46) ?hr ?_; (case hd => rfl); (case hg => rfl); (case hr => first | (go_simp; done) | (go_simp; rfl))
      intro gb496 hg w110 hbox hb
      have BK496 := Aside0.mk (hbox)
      have GW496 := Aside0.mk ((by rw [hg]; exact (below_size (by repeat (first | (with_reducible first | exact HB.out | apply below_alloc | apply pw_below_drewN | apply below_drew1 | refine below_set ?_ (Aside0.out (by assumption))) | exact HB.out))) : w.heap.size ≤ gb496))
      have GE496 := GW496
      have NB469_496 := bn_ BK469 hg
      have NB496_469 := bm_ BK469 hg
      have NB474_496 := bn_ BK474 hg
      have NB496_474 := bm_ BK474 hg
      have NB478_496 := bn_ BK478 hg
      have NB496_478 := bm_ BK478 hg
      have NB483_496 := bn_ BK483 hg
      have NB496_483 := bm_ BK483 hg
      have NB489_496 := bn_ BK489 hg
      have NB496_489 := bm_ BK489 hg
      replace BK469 := bb_ BK469 hb
      replace BK474 := bb_ BK474 hb
      replace BK478 := bb_ BK478 hb
      replace BK483 := bb_ BK483 hb
      replace BK489 := bb_ BK489 hb
      replace HB := Aside0.mk (below_step (by repeat (first | (with_reducible first | exact HB.out | apply below_alloc | apply pw_below_drewN | apply below_drew1 | refine below_set ?_ (Aside0.out (by assumption))) | exact HB.out)) hb)
      clear hb hbox hg
      refine hK.out _ _ ⟨(blk_cell BK474.out 0).trans rfl, (blk_cell BK474.out 1).trans rfl⟩ (fun hHeld => ?_)
      clear hK K
      refine norm_ (a' := ?_) ?_ ?_
      rotate_left
      ·show Act.put _ (some 14) _ = _
       simp only [Act.put, List.setIfInBounds_toArray, List.set_cons_zero, List.set_cons_succ, i64_w, i32_w]
       rfl
      refine one_ (i := 1) (N := some 87) #[true, true, false, false, false, false, true, false, false] rfl rfl (one_of HT_.out (by kernel_rfl)) (by decide) (fun K hK => ?_)
      refine goes_ Try.func32 (by kernel_rfl) rfl #[.int .u64 1] (by rfl) rfl rfl (by (try simp only [List.map_toArray, List.map_cons, List.map_nil]); first | done | rfl | (simp only [List.length_drop, List.length_take]; rfl)) ?_
      with_reducible refine (wide_Of.calls 1 t491 t492 _ A70.out).mono ?_
      rintro e w111 ⟨rfl, hb⟩
      refine ⟨_, rfl, ?_⟩
      replace BK469 := bb_ BK469 hb
      replace BK474 := bb_ BK474 hb
      replace BK478 := bb_ BK478 hb
      replace BK483 := bb_ BK483 hb
      replace BK489 := bb_ BK489 hb
      replace BK496 := bb_ BK496 hb
      replace HB := Aside0.mk (below_step (by repeat (first | (with_reducible first | exact HB.out | apply below_alloc | apply pw_below_drewN | apply below_drew1 | refine below_set ?_ (Aside0.out (by assumption))) | exact HB.out)) hb)
      (try clear hb)
      (try clear hb2)
      (try clear hk)
      (try clear hi)
      refine hK.out _ _ ⟨(blk_cell BK474.out 0).trans rfl, (blk_cell BK474.out 1).trans rfl⟩ (fun hHeld => ?_)
      clear hK K
      refine norm_ (a' := ?_) ?_ ?_
      rotate_left
      ·show Act.put _ (some 87) _ = _
       simp only [Act.put, List.setIfInBounds_toArray, List.set_cons_zero, List.set_cons_succ, i64_w, i32_w]
       rfl
      refine one_ (i := 2) (N := some 88) #[true, true, true, false, false, false, true, false, false] rfl rfl (one_of HT_.out (by kernel_rfl)) (by decide) (fun K hK => ?_)
      refine goes_ Try.func24 (by kernel_rfl) rfl #[.agg #[.int .u64 t470, .int .u64 t471], .agg #[.int .u64 t491, .int .u64 t492]] (by rfl) rfl rfl (by (try simp only [List.map_toArray, List.map_cons, List.map_nil]); first | done | rfl | (simp only [List.length_drop, List.length_take]; rfl)) ?_
      with_reducible refine (wide_Add.calls t470 t471 t491 t492 t493 t494 t495 _ A71.out).mono ?_
      rintro e w112 ⟨rfl, hb⟩
      refine ⟨_, rfl, ?_⟩
      replace BK469 := bb_ BK469 hb
      replace BK474 := bb_ BK474 hb
      replace BK478 := bb_ BK478 hb
      replace BK483 := bb_ BK483 hb
      replace BK489 := bb_ BK489 hb
      replace BK496 := bb_ BK496 hb
      replace HB := Aside0.mk (below_step (by repeat (first | (with_reducible first | exact HB.out | apply below_alloc | apply pw_below_drewN | apply below_drew1 | refine below_set ?_ (Aside0.out (by assumption))) | exact HB.out)) hb)
      (try clear hb)
      (try clear hb2)
      (try clear hk)
      (try clear hi)
      refine hK.out _ _ ⟨(blk_cell BK474.out 0).trans rfl, (blk_cell BK474.out 1).trans rfl⟩ (fun hHeld => ?_)
      clear hK K
      refine norm_ (a' := ?_) ?_ ?_
      rotate_left
      ·show Act.put _ (some 88) _ = _
       simp only [Act.put, List.setIfInBounds_toArray, List.set_cons_zero, List.set_cons_succ, i64_w, i32_w]
       rfl
      refine pure_ (i := 3) (N := some 85) (v := ?_) (a' := ?_) #[true, true, true, true, false, false, true, false, false] rfl rfl (any_of HT_.out (by kernel_rfl)) (fun _ _ _ h => h) (Or.inl ⟨by rfl, ?_⟩) ?_ ?_
      rotate_left
      ·intro w'
       go_simp
       with_reducible rfl
      rotate_left
      ·simp only [Act.put, List.setIfInBounds_toArray, List.set_cons_zero, List.set_cons_succ, i64_w, i32_w]
       rfl
      refine pure_ (i := 4) (N := some 89) (v := ?_) (a' := ?_) #[true, true, true, true, true, false, true, false, false] rfl rfl (any_of HT_.out (by kernel_rfl)) (fun _ _ _ h => h) (Or.inl ⟨by rfl, ?_⟩) ?_ ?_
      rotate_left
      ·intro w'
       go_simp
       with_reducible rfl
      rotate_left
      ·simp only [Act.put, List.setIfInBounds_toArray, List.set_cons_zero, List.set_cons_succ, i64_w, i32_w]
       rfl
      refine pure_ (i := 5) (N := some 90) (v := ?_) (a' := ?_) #[true, true, true, true, true, true, true, false, false] rfl rfl (any_of HT_.out (by kernel_rfl)) (fun _ _ _ h => h) (Or.inl ⟨by rfl, ?_⟩) ?_ ?_
      rotate_left
      ·intro w'
       go_simp
       with_reducible rfl
      rotate_left
      ·simp only [Act.put, List.setIfInBounds_toArray, List.set_cons_zero, List.set_cons_succ, i64_w, i32_w]
       rfl
      exact norm_ (by simp only [putAll, Act.put, List.setIfInBounds_toArray, List.set_cons_zero, List.set_cons_succ]) (hCont (gb496) _ ⟨hHeld, (bq_ BK469), (bq_ BK474), (bq_ BK478), (bq_ BK483), (bq_ BK489), (bq_ BK496), GW496.out, GE496.out, NB469_496.out, NB496_469.out, NB474_496.out, NB496_474.out, NB478_496.out, NB496_478.out, NB483_496.out, NB496_483.out, NB489_496.out, NB496_489.out, (by repeat (first | (with_reducible first | exact HB.out | apply below_alloc | apply pw_below_drewN | apply below_drew1 | refine below_set ?_ (Aside0.out (by assumption))) | exact HB.out))⟩)
    rintro gb496 w113 ⟨hS_, h0_, h1_, h2_, h3_, h4_, h5_, h6_, h7_, h8_, h9_, h10_, h11_, h12_, h13_, h14_, h15_, h16_, h17_, h18_⟩
    have BK496 : Aside0 (w113.heap[gb496]? = some (.cells #[.int .u64 0, .int .u64 0] 46 (0, 0))) := ⟨h5_⟩
    have GW496 : Aside0 (w.heap.size ≤ gb496) := ⟨h6_⟩
    have GE496 : Aside0 (w.heap.size ≤ gb496) := ⟨h7_⟩
    have NB469_496 : Aside0 (gb469 ≠ gb496) := ⟨h8_⟩
    have NB496_469 : Aside0 (gb496 ≠ gb469) := ⟨h9_⟩
    have NB474_496 : Aside0 (gb474 ≠ gb496) := ⟨h10_⟩
    have NB496_474 : Aside0 (gb496 ≠ gb474) := ⟨h11_⟩
    have NB478_496 : Aside0 (gb478 ≠ gb496) := ⟨h12_⟩
    have NB496_478 : Aside0 (gb496 ≠ gb478) := ⟨h13_⟩
    have NB483_496 : Aside0 (gb483 ≠ gb496) := ⟨h14_⟩
    have NB496_483 : Aside0 (gb496 ≠ gb483) := ⟨h15_⟩
    have NB489_496 : Aside0 (gb489 ≠ gb496) := ⟨h16_⟩
    have NB496_489 : Aside0 (gb496 ≠ gb489) := ⟨h17_⟩
    replace BK469 : Aside0 (w113.heap[gb469]? = some (.cells #[.int .u64 a0_0, .int .u64 a0_1] 46 (0, 0))) := ⟨h0_⟩
    replace BK474 : Aside0 (w113.heap[gb474]? = some (.cells #[.int .u64 t470, .int .u64 t471] 46 (0, 0))) := ⟨h1_⟩
    replace BK478 : Aside0 (w113.heap[gb478]? = some (.cells #[.int .u64 t475, .int .u64 t476] 46 (0, 0))) := ⟨h2_⟩
    replace BK483 : Aside0 (w113.heap[gb483]? = some (.cells #[.int .u64 t480, .int .u64 t481] 46 (0, 0))) := ⟨h3_⟩
    replace BK489 : Aside0 (w113.heap[gb489]? = some (.cells #[.int .u64 t486, .int .u64 t487] 46 (0, 0))) := ⟨h4_⟩
    replace HB : Aside0 (Below w.heap.size w w113) := ⟨h18_⟩
    clear h0_ h1_ h2_ h3_ h4_ h5_ h6_ h7_ h8_ h9_ h10_ h11_ h12_ h13_ h14_ h15_ h16_ h17_ h18_
    have hHeld : w113.cell? ⟨gb474, 0, none⟩ = some (.int .u64 t470) ∧ w113.cell? ⟨gb474, 1, none⟩ = some (.int .u64 t471) := hS_
    refine norm_ (a' := ?_) ?_ ?_
    rotate_left
    ·simp only [putAll, Act.put, List.setIfInBounds_toArray, List.set_cons_zero, List.set_cons_succ]
     rfl
    refine one_ (i := 7) (N := none) #[true, true, true, true, true, true, true, true, false] rfl rfl (one_of HT_.out (by kernel_rfl)) (by decide) (fun K hK => ?_)
    have hs114 : w113.cell? ⟨gb496, 0, none⟩ = some (.int .u64 0) := (blk_cell BK496.out 0).trans rfl
    have hfs114 := blk_frozen BK496.out 0
    have hns114_0 := NB469_496.out
    have hns114_1 := NB474_496.out
    have hns114_2 := NB478_496.out
    have hns114_3 := NB483_496.out
    have hns114_4 := NB489_496.out
    have hms114_0 := NB496_469.out
    have hms114_1 := NB496_474.out
    have hms114_2 := NB496_478.out
    have hms114_3 := NB496_483.out
    have hms114_4 := NB496_489.out
    have hs115 : w113.cell? ⟨gb496, 1, none⟩ = some (.int .u64 0) := (blk_cell BK496.out 1).trans rfl
    have hfs115 := blk_frozen BK496.out 1
    have hns115_0 := NB469_496.out
    have hns115_1 := NB474_496.out
    have hns115_2 := NB478_496.out
    have hns115_3 := NB483_496.out
    have hns115_4 := NB489_496.out
    have hms115_0 := NB496_469.out
    have hms115_1 := NB496_474.out
    have hms115_2 := NB496_478.out
    have hms115_3 := NB496_483.out
    have hms115_4 := NB496_489.out
    refine skip_ (w1 := ?_) (by rfl) rfl ?_ ?_
    rotate_left
    ·go_simp
     rfl
    refine hK.out _ _ ⟨((cell_far (p := ⟨gb496, _, none⟩) NB474_496.out _).trans (((cell_far (p := ⟨gb496, _, none⟩) NB474_496.out _).trans (hHeld.1)))), ((cell_far (p := ⟨gb496, _, none⟩) NB474_496.out _).trans (((cell_far (p := ⟨gb496, _, none⟩) NB474_496.out _).trans (hHeld.2))))⟩ (fun hHeld => ?_)
    clear hK K
    refine pure_ (i := 8) (N := some 15) (v := ?_) (a' := ?_) #[true, true, true, true, true, true, true, true, true] rfl rfl (any_of HT_.out (by kernel_rfl)) (fun _ _ _ h => h) (Or.inl ⟨by rfl, ?_⟩) ?_ ?_
    rotate_left
    ·intro w'
     go_simp
     with_reducible rfl
    rotate_left
    ·simp only [Act.put, List.setIfInBounds_toArray, List.set_cons_zero, List.set_cons_succ, i64_w, i32_w]
     rfl
    refine done_ (done_of HT_.out (by kernel_rfl)) ?_
    have hnb116 := NB478_496.out
    have hnc116 := NB496_478.out
    have hcz117_0 : w113.cell? ⟨gb478, 0, none⟩ = some (.int .u64 t475) := (blk_cell BK478.out 0).trans rfl
    have hcz117_1 : w113.cell? ⟨gb478, 1, none⟩ = some (.int .u64 t476) := (blk_cell BK478.out 1).trans rfl
    have hfz117_0 := blk_frozen BK478.out 0
    have hfz117_1 := blk_frozen BK478.out 1
    have hnb118 := NB496_469.out
    have hnc118 := NB469_496.out
    have hnb119 := NB496_474.out
    have hnc119 := NB474_496.out
    have hnb120 := NB496_483.out
    have hnc120 := NB483_496.out
    have hnb121 := NB496_489.out
    have hnc121 := NB489_496.out
    have hcz122_0 : w113.cell? ⟨gb496, 0, none⟩ = some (.int .u64 0) := (blk_cell BK496.out 0).trans rfl
    have hcz122_1 : w113.cell? ⟨gb496, 1, none⟩ = some (.int .u64 0) := (blk_cell BK496.out 1).trans rfl
    have hfz122_0 := blk_frozen BK496.out 0
    have hfz122_1 := blk_frozen BK496.out 1
    try go_wp2_with (first | (go_at_call 39; (with_reducible refine (spigotlaw01_alive.calls k  t497 _ A74.out).mono ?_); rintro e w123 ⟨rfl, hb⟩; replace BK469 := Aside0.mk (blk_below (g := gb469) (o := .cells #[.int .u64 a0_0, .int .u64 a0_1] 46 (0, 0)) (by (with_reducible repeat (first | refine blk_drewN ?_ _ | refine blk_drew ?_ | refine blk_alloc ?_ _)); refine blk_far ?_ NB469_496.out _; (with_reducible repeat (first | refine blk_drewN ?_ _ | refine blk_drew ?_ | refine blk_alloc ?_ _)); refine blk_far ?_ NB469_496.out _; (with_reducible repeat (first | refine blk_drewN ?_ _ | refine blk_drew ?_ | refine blk_alloc ?_ _)); exact BK469.out) hb); replace BK474 := Aside0.mk (blk_below (g := gb474) (o := .cells #[.int .u64 t470, .int .u64 t471] 46 (0, 0)) (by (with_reducible repeat (first | refine blk_drewN ?_ _ | refine blk_drew ?_ | refine blk_alloc ?_ _)); refine blk_far ?_ NB474_496.out _; (with_reducible repeat (first | refine blk_drewN ?_ _ | refine blk_drew ?_ | refine blk_alloc ?_ _)); refine blk_far ?_ NB474_496.out _; (with_reducible repeat (first | refine blk_drewN ?_ _ | refine blk_drew ?_ | refine blk_alloc ?_ _)); exact BK474.out) hb); replace BK478 := Aside0.mk (blk_below (g := gb478) (o := .cells #[.int .u64 t475, .int .u64 t476] 46 (0, 0)) (by (with_reducible repeat (first | refine blk_drewN ?_ _ | refine blk_drew ?_ | refine blk_alloc ?_ _)); refine blk_far ?_ NB478_496.out _; (with_reducible repeat (first | refine blk_drewN ?_ _ | refine blk_drew ?_ | refine blk_alloc ?_ _)); refine blk_far ?_ NB478_496.out _; (with_reducible repeat (first | refine blk_drewN ?_ _ | refine blk_drew ?_ | refine blk_alloc ?_ _)); exact BK478.out) hb); replace BK483 := Aside0.mk (blk_below (g := gb483) (o := .cells #[.int .u64 t480, .int .u64 t481] 46 (0, 0)) (by (with_reducible repeat (first | refine blk_drewN ?_ _ | refine blk_drew ?_ | refine blk_alloc ?_ _)); refine blk_far ?_ NB483_496.out _; (with_reducible repeat (first | refine blk_drewN ?_ _ | refine blk_drew ?_ | refine blk_alloc ?_ _)); refine blk_far ?_ NB483_496.out _; (with_reducible repeat (first | refine blk_drewN ?_ _ | refine blk_drew ?_ | refine blk_alloc ?_ _)); exact BK483.out) hb); replace BK489 := Aside0.mk (blk_below (g := gb489) (o := .cells #[.int .u64 t486, .int .u64 t487] 46 (0, 0)) (by (with_reducible repeat (first | refine blk_drewN ?_ _ | refine blk_drew ?_ | refine blk_alloc ?_ _)); refine blk_far ?_ NB489_496.out _; (with_reducible repeat (first | refine blk_drewN ?_ _ | refine blk_drew ?_ | refine blk_alloc ?_ _)); refine blk_far ?_ NB489_496.out _; (with_reducible repeat (first | refine blk_drewN ?_ _ | refine blk_drew ?_ | refine blk_alloc ?_ _)); exact BK489.out) hb); replace BK496 := Aside0.mk (blk_below (g := gb496) (o := .cells #[.int .u64 t493, .int .u64 t494] 46 (0, 0)) (by (with_reducible repeat (first | refine blk_drewN ?_ _ | refine blk_drew ?_ | refine blk_alloc ?_ _)); refine blk_put (cs := #[.int .u64 t493, .int .u64 0]) ?_ 1 _ rfl; (with_reducible repeat (first | refine blk_drewN ?_ _ | refine blk_drew ?_ | refine blk_alloc ?_ _)); refine blk_put (cs := #[.int .u64 0, .int .u64 0]) ?_ 0 _ rfl; (with_reducible repeat (first | refine blk_drewN ?_ _ | refine blk_drew ?_ | refine blk_alloc ?_ _)); exact BK496.out) hb); replace HB := Aside0.mk (below_step (by repeat (first | (with_reducible first | exact HB.out | apply below_alloc | apply pw_below_drewN | apply below_drew1 | refine below_set ?_ (Aside0.out (by assumption))) | exact HB.out)) hb); (try clear hb); (try clear hb2); (try clear hk); (try clear hi)))
    go_ret
    exact ⟨by first | rfl | (simp [errW_none, errW_some] <;> rfl) | (simp [*, errW_none, errW_some] <;> rfl), by repeat (first | (with_reducible first | exact HB.out | apply below_alloc | apply pw_below_drewN | apply below_drew1 | refine below_set ?_ GE469.out | refine below_set ?_ GE474.out | refine below_set ?_ GE478.out | refine below_set ?_ GE483.out | refine below_set ?_ GE489.out | refine below_set ?_ GE496.out) | exact HB.out)⟩
  ·replace c28 := Bool.eq_false_iff.mpr c28
   subst c28
   have H1 : (none) = some r := by rw [if_neg (show ¬ (false = true) by decide)] at H; exact H
   clear H
   have H := H1
   clear H1
   exact absurd H (by simp)

end Go.Proofs.Ytcdmjdghmbdikaa.X
