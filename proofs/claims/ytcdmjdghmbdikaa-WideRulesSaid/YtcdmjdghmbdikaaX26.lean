-- written by xprint.py, a program of this session over the kit's print
import Derived.Test.YtcdmjdghmbdikaaX0
import Derived.Test.YtcdmjdghmbdikaaX2
import Derived.Test.YtcdmjdghmbdikaaX16
import Derived.Test.YtcdmjdghmbdikaaX22
import Derived.Test.YtcdmjdghmbdikaaX23
namespace Go.Proofs.Ytcdmjdghmbdikaa.X
open Go.RowKit Go.Proofs.YtcdmjdghmbdikaaW.PrintWords Go.Proofs.YtcdmjdghmbdikaaW.PrintLast Go.Proofs.YtcdmjdghmbdikaaW.PrintMore
attribute [local go_sem] max2_int min2_int max_two min_two max_three min_three max_four min_four   -- for this text's walks alone
set_option linter.unusedVariables false
set_option linter.unusedSimpArgs false

attribute [local go_sem high] eqA46
/-! ### spigotlaw01_WideRules: function 12 -/
def spigotlaw01_WideRules.j0 : Nat → Int → Int → Int → Bool → Option (Bool)
  | 0, _, _, _, _ => none
  | k + 1, x3, x4, x5, x90 => if x90 = true then (none) else ((wide_Mul.f x3 (IntKind.u64.wrap (Int.tdiv x4 2))).bind fun bt525 => ((wide_Mul.f x3 (IntKind.u64.wrap (Int.tdiv x5 2))).bind fun bt527 => ((wide_Add.f bt525.1 bt525.2 bt527.1 bt527.2).bind fun bt529 => (if bt529.2.2 = 0 then ((wide_Mul.f x3 (IntKind.u64.wrap ((IntKind.u64.wrap (Int.tdiv x4 2)) + (IntKind.u64.wrap (Int.tdiv x5 2))))).bind fun bt533 => (if (bt529.1 == bt533.1 && (bt529.2.1 == bt533.2)) = true then ((spigotlaw01_alive.f k).bind fun t535 => (some t535)) else (none))) else (none)))))
def spigotlaw01_WideRules.f (k : Nat) (a0_0 : Int) (a0_1 : Int) (a1_0 : Int) (a1_1 : Int) (a2_0 : Int) (a2_1 : Int) (a3 : Int) (a4 : Int) (a5 : Int) : Option (Bool) := (wide_Add.f a0_0 a0_1 a1_0 a1_1).bind fun bt501 => ((wide_Add.f a1_0 a1_1 a0_0 a0_1).bind fun bt505 => (if bt501.2.2 = bt505.2.2 then (if (!(bt501.1 == bt505.1) || (!(bt501.2.1 == bt505.2.1))) = true then (none) else ((wide_Mul.f a3 a4).bind fun bt509 => ((wide_Mul.f a4 a3).bind fun bt511 => (if (!(bt509.1 == bt511.1) || (!(bt509.2 == bt511.2))) = true then (none) else ((wide_Add.f bt501.1 bt501.2.1 a2_0 a2_1).bind fun bt513 => ((wide_Add.f a1_0 a1_1 a2_0 a2_1).bind fun bt517 => ((wide_Add.f a0_0 a0_1 bt517.1 bt517.2.1).bind fun bt521 => (if bt501.2.2 = 0 then (if bt513.2.2 = 0 then (if bt517.2.2 = 0 then (if bt521.2.2 = 0 then (spigotlaw01_WideRules.j0 k a3 a4 a5 (!(bt513.1 == bt521.1) || (!(bt513.2.1 == bt521.2.1)))) else (spigotlaw01_WideRules.j0 k a3 a4 a5 true)) else (spigotlaw01_WideRules.j0 k a3 a4 a5 true)) else (spigotlaw01_WideRules.j0 k a3 a4 a5 false)) else (spigotlaw01_WideRules.j0 k a3 a4 a5 false))))))))) else (none)))
theorem spigotlaw01_WideRules.mono_l : ∀ k, (∀ y0 y1 y2 y3, LeO (spigotlaw01_WideRules.j0 k y0 y1 y2 y3) (spigotlaw01_WideRules.j0 (k + 1) y0 y1 y2 y3))
  | 0 => fun _ _ _ _ r h => by simp [spigotlaw01_WideRules.j0] at h
  | k + 1 => by
    have ih0 := spigotlaw01_WideRules.mono_l k
    · intro y0 y1 y2 y3
      unfold spigotlaw01_WideRules.j0
      repeat' first
      | (with_reducible exact ih0 _ _ _ _)
      | (with_reducible exact spigotlaw01_alive.mono _)
      | (with_reducible exact LeO.refl _)
      | (with_reducible exact LeO.none _)
      | (with_reducible refine LeO.ite ?_ ?_)
      | (with_reducible refine LeO.bind ?_ (fun _ => ?_))
      | exact ih0 _ _ _ _
      | exact spigotlaw01_alive.mono _
      | exact LeO.none _
      | refine LeO.ite ?_ ?_
      | refine LeO.bind ?_ (fun _ => ?_)
theorem spigotlaw01_WideRules.mono : ∀ a0 a1 a2 a3 a4 a5 a6 a7 a8 k, LeO (spigotlaw01_WideRules.f k a0 a1 a2 a3 a4 a5 a6 a7 a8) (spigotlaw01_WideRules.f (k + 1) a0 a1 a2 a3 a4 a5 a6 a7 a8) := by
  intro a0 a1 a2 a3 a4 a5 a6 a7 a8 k
  have ih0 := spigotlaw01_WideRules.mono_l k
  unfold spigotlaw01_WideRules.f
  repeat' first
      | (with_reducible exact ih0 _ _ _ _)
      | (with_reducible exact spigotlaw01_alive.mono _)
      | (with_reducible exact LeO.refl _)
      | (with_reducible exact LeO.none _)
      | (with_reducible refine LeO.ite ?_ ?_)
      | (with_reducible refine LeO.bind ?_ (fun _ => ?_))
      | exact ih0 _ _ _ _
      | exact spigotlaw01_alive.mono _
      | exact LeO.none _
      | refine LeO.ite ?_ ?_
      | refine LeO.bind ?_ (fun _ => ?_)
def spigotlaw01_WideRules.T12 : Bool × List (List Nat × List Nat) := (true, [([], []), ([0], [0]), ([1], [1]), ([2], [2]), ([2], [2]), ([2], [2]), ([2], [2]), ([5, 6, 2], [2, 5, 6]), ([4, 7, 2, 2], [2, 4, 7]), ([3, 8, 2], [2, 3, 8]), ([2, 9], [2, 9]), ([10, 8], [10]), ([11, 11], [11]), ([11, 12], [11, 12]), ([13, 12, 0, 1, 2, 3, 4, 5, 6, 7, 8, 9, 10, 11, 12, 13], [13])])
def spigotlaw01_WideRules.B12 : List Nat := [0, 1, 3, 7, 7, 7, 7, 103, 247, 511, 1023, 2047, 4095, 8191, 16383]
theorem spigotlaw01_WideRules.tab12 : rtab .any (opsOf Try.f12 12) = spigotlaw01_WideRules.T12 := by kernel_rfl
theorem spigotlaw01_WideRules.bits12 : waitsOk spigotlaw01_WideRules.T12.2 spigotlaw01_WideRules.B12 = true := by kernel_rfl
set_option maxHeartbeats 8000000 in
set_option maxRecDepth 100000 in
theorem spigotlaw01_WideRules.calls (k : Nat) (a0_0 : Int) (a0_1 : Int) (a1_0 : Int) (a1_1 : Int) (a2_0 : Int) (a2_1 : Int) (a3 : Int) (a4 : Int) (a5 : Int) (r : Bool) (w : World) (h : spigotlaw01_WideRules.f k a0_0 a0_1 a1_0 a1_1 a2_0 a2_1 a3 a4 a5 = some r) :
  Calls Try.prog 12 #[.agg #[.int .u64 a0_0, .int .u64 a0_1], .agg #[.int .u64 a1_0, .int .u64 a1_1], .agg #[.int .u64 a2_0, .int .u64 a2_1], .int .u64 a3, .int .u64 a4, .int .u64 a5] w fun e w' => e = .returned (.bool r) ∧ Below w.heap.size w w' := by
 have hu46 := Try.underlying46
 have HB := Aside0.mk (Below.refl w.heap.size w)
 have H : ((wide_Add.f a0_0 a0_1 a1_0 a1_1).bind fun bt501 => ((wide_Add.f a1_0 a1_1 a0_0 a0_1).bind fun bt505 => (if bt501.2.2 = bt505.2.2 then (if (!(bt501.1 == bt505.1) || (!(bt501.2.1 == bt505.2.1))) = true then (none) else ((wide_Mul.f a3 a4).bind fun bt509 => ((wide_Mul.f a4 a3).bind fun bt511 => (if (!(bt509.1 == bt511.1) || (!(bt509.2 == bt511.2))) = true then (none) else ((wide_Add.f bt501.1 bt501.2.1 a2_0 a2_1).bind fun bt513 => ((wide_Add.f a1_0 a1_1 a2_0 a2_1).bind fun bt517 => ((wide_Add.f a0_0 a0_1 bt517.1 bt517.2.1).bind fun bt521 => (if bt501.2.2 = 0 then (if bt513.2.2 = 0 then (if bt517.2.2 = 0 then (if bt521.2.2 = 0 then (spigotlaw01_WideRules.j0 k a3 a4 a5 (!(bt513.1 == bt521.1) || (!(bt513.2.1 == bt521.2.1)))) else (spigotlaw01_WideRules.j0 k a3 a4 a5 true)) else (spigotlaw01_WideRules.j0 k a3 a4 a5 true)) else (spigotlaw01_WideRules.j0 k a3 a4 a5 false)) else (spigotlaw01_WideRules.j0 k a3 a4 a5 false))))))))) else (none)))) = some r := h
 clear h
 replace H := Option.bind_eq_some_iff.mp H
 obtain ⟨⟨t501, t502, t503⟩, A70, H⟩ := H
 try dsimp only at H
 have A7 := Aside0.mk A70
 clear A70
 replace H := Option.bind_eq_some_iff.mp H
 obtain ⟨⟨t505, t506, t507⟩, A80, H⟩ := H
 try dsimp only at H
 have A8 := Aside0.mk A80
 clear A80
 by_cases c9 : t503 = t507
 rotate_left
 ·rw [if_neg c9] at H; exact absurd H (by simp)
 rw [if_pos c9] at H
 have c9b0 : (t503 == t507) = true := beq_iff_eq.mpr c9
 have c9b1 : (t503 != t507) = false := bne_eq_false_iff_eq.mpr c9
 clear c9
 by_cases c10 : (!(t501 == t505) || (!(t502 == t506))) = true
 ·rw [if_pos c10] at H; exact absurd H (by simp)
 rw [if_neg c10] at H
 have c10b0 : (!(t501 == t505) || (!(t502 == t506))) = false := by simpa using c10
 clear c10
 replace H := Option.bind_eq_some_iff.mp H
 obtain ⟨⟨t509, t510⟩, A110, H⟩ := H
 try dsimp only at H
 have A11 := Aside0.mk A110
 clear A110
 replace H := Option.bind_eq_some_iff.mp H
 obtain ⟨⟨t511, t512⟩, A120, H⟩ := H
 try dsimp only at H
 have A12 := Aside0.mk A120
 clear A120
 by_cases c13 : (!(t509 == t511) || (!(t510 == t512))) = true
 ·rw [if_pos c13] at H; exact absurd H (by simp)
 rw [if_neg c13] at H
 have c13b0 : (!(t509 == t511) || (!(t510 == t512))) = false := by simpa using c13
 clear c13
 replace H := Option.bind_eq_some_iff.mp H
 obtain ⟨⟨t513, t514, t515⟩, A140, H⟩ := H
 try dsimp only at H
 have A14 := Aside0.mk A140
 clear A140
 replace H := Option.bind_eq_some_iff.mp H
 obtain ⟨⟨t517, t518, t519⟩, A150, H⟩ := H
 try dsimp only at H
 have A15 := Aside0.mk A150
 clear A150
 replace H := Option.bind_eq_some_iff.mp H
 obtain ⟨⟨t521, t522, t523⟩, A160, H⟩ := H
 try dsimp only at H
 have A16 := Aside0.mk A160
 clear A160
 have HC17 := Aside0.mk H
 clear H
 go_enter Try.func12, Try.ntmps12
 go_upto_region 8 with (first | ((with_reducible refine gate_dst (N := 6) rfl ?_); refine box_event ?hg (N := 6) ?hd (cs := #[.int .u64 a0_0, .int .u64 a0_1]) (t := 46) ?hr ?_; (case hd => rfl); (case hg => rfl); (case hr => first | (go_simp; done) | (go_simp; rfl)); intro gb498 hg w18 hbox hb; have BK498 := Aside0.mk (hbox); have GW498 := Aside0.mk ((by rw [hg]; exact (below_size (hq_ HB)) : w.heap.size ≤ gb498)); have GE498 := GW498; replace HB := Aside0.mk (below_step (hq_ HB) hb); clear hb hbox hg) | ((with_reducible refine gate_dst (N := 7) rfl ?_); refine box_event ?hg (N := 7) ?hd (cs := #[.int .u64 a1_0, .int .u64 a1_1]) (t := 46) ?hr ?_; (case hd => rfl); (case hg => rfl); (case hr => first | (go_simp; done) | (go_simp; rfl)); intro gb499 hg w19 hbox hb; have BK499 := Aside0.mk (hbox); have GW499 := Aside0.mk ((by rw [hg]; exact (below_size (by repeat (first | (with_reducible first | exact HB.out | apply below_alloc | apply pw_below_drewN | apply below_drew1 | refine below_set ?_ (Aside0.out (by assumption))) | exact HB.out))) : w.heap.size ≤ gb499)); have GE499 := GW499; have NB498_499 := bn_ BK498 hg; have NB499_498 := bm_ BK498 hg; replace BK498 := bb_ BK498 hb; replace HB := Aside0.mk (below_step (by repeat (first | (with_reducible first | exact HB.out | apply below_alloc | apply pw_below_drewN | apply below_drew1 | refine below_set ?_ (Aside0.out (by assumption))) | exact HB.out)) hb); clear hb hbox hg) | ((with_reducible refine gate_dst (N := 8) rfl ?_); refine box_event ?hg (N := 8) ?hd (cs := #[.int .u64 a2_0, .int .u64 a2_1]) (t := 46) ?hr ?_; (case hd => rfl); (case hg => rfl); (case hr => first | (go_simp; done) | (go_simp; rfl)); intro gb500 hg w20 hbox hb; have BK500 := Aside0.mk (hbox); have GW500 := Aside0.mk ((by rw [hg]; exact (below_size (by repeat (first | (with_reducible first | exact HB.out | apply below_alloc | apply pw_below_drewN | apply below_drew1 | refine below_set ?_ (Aside0.out (by assumption))) | exact HB.out))) : w.heap.size ≤ gb500)); have GE500 := GW500; have NB498_500 := bn_ BK498 hg; have NB500_498 := bm_ BK498 hg; have NB499_500 := bn_ BK499 hg; have NB500_499 := bm_ BK499 hg; replace BK498 := bb_ BK498 hb; replace BK499 := bb_ BK499 hb; replace HB := Aside0.mk (below_step (by repeat (first | (with_reducible first | exact HB.out | apply below_alloc | apply pw_below_drewN | apply below_drew1 | refine below_set ?_ (Aside0.out (by assumption))) | exact HB.out)) hb); clear hb hbox hg; have hnb21 := NB498_499.out; have hnc21 := NB499_498.out; have hnb22 := NB498_500.out; have hnc22 := NB500_498.out; have hcz23_0 : w20.cell? ⟨gb498, 0, none⟩ = some (.int .u64 a0_0) := (blk_cell BK498.out 0).trans rfl; have hcz23_1 : w20.cell? ⟨gb498, 1, none⟩ = some (.int .u64 a0_1) := (blk_cell BK498.out 1).trans rfl; have hfz23_0 := blk_frozen BK498.out 0; have hfz23_1 := blk_frozen BK498.out 1; have hnb24 := NB499_500.out; have hnc24 := NB500_499.out; have hcz25_0 : w20.cell? ⟨gb499, 0, none⟩ = some (.int .u64 a1_0) := (blk_cell BK499.out 0).trans rfl; have hcz25_1 : w20.cell? ⟨gb499, 1, none⟩ = some (.int .u64 a1_1) := (blk_cell BK499.out 1).trans rfl; have hfz25_0 := blk_frozen BK499.out 0; have hfz25_1 := blk_frozen BK499.out 1) | ((with_reducible refine gate_callee (f := 24) rfl ?_); refine goesL_ (some 28) rfl rfl Try.func24 (by kernel_rfl) rfl #[.agg #[.int .u64 a0_0, .int .u64 a0_1], .agg #[.int .u64 a1_0, .int .u64 a1_1]] rfl (by (try simp only [List.map_toArray, List.map_cons, List.map_nil]); first | done | rfl | (simp only [List.length_drop, List.length_take]; rfl)) ?_; (with_reducible refine (wide_Add.calls a0_0 a0_1 a1_0 a1_1 t501 t502 t503 _ A7.out).mono ?_); rintro e w26 ⟨rfl, hb⟩; refine ⟨_, rfl, ?_⟩; replace BK498 := bb_ BK498 hb; replace BK499 := bb_ BK499 hb; replace BK500 := bb_ BK500 hb; replace HB := Aside0.mk (below_step (by repeat (first | (with_reducible first | exact HB.out | apply below_alloc | apply pw_below_drewN | apply below_drew1 | refine below_set ?_ (Aside0.out (by assumption))) | exact HB.out)) hb); (try clear hb); (try clear hb2); (try clear hk); (try clear hi)) | ((with_reducible refine gate_dst (N := 13) rfl ?_); refine box_event ?hg (N := 13) ?hd (cs := #[.int .u64 0, .int .u64 0]) (t := 46) ?hr ?_; (case hd => rfl); (case hg => rfl); (case hr => first | (go_simp; done) | (go_simp; rfl)); intro gb504 hg w27 hbox hb; have BK504 := Aside0.mk (hbox); have GW504 := Aside0.mk ((by rw [hg]; exact (below_size (by repeat (first | (with_reducible first | exact HB.out | apply below_alloc | apply pw_below_drewN | apply below_drew1 | refine below_set ?_ (Aside0.out (by assumption))) | exact HB.out))) : w.heap.size ≤ gb504)); have GE504 := GW504; have NB498_504 := bn_ BK498 hg; have NB504_498 := bm_ BK498 hg; have NB499_504 := bn_ BK499 hg; have NB504_499 := bm_ BK499 hg; have NB500_504 := bn_ BK500 hg; have NB504_500 := bm_ BK500 hg; replace BK498 := bb_ BK498 hb; replace BK499 := bb_ BK499 hb; replace BK500 := bb_ BK500 hb; replace HB := Aside0.mk (below_step (by repeat (first | (with_reducible first | exact HB.out | apply below_alloc | apply pw_below_drewN | apply below_drew1 | refine below_set ?_ (Aside0.out (by assumption))) | exact HB.out)) hb); clear hb hbox hg; have hnb28 := NB504_498.out; have hnc28 := NB498_504.out; have hnb29 := NB504_499.out; have hnc29 := NB499_504.out; have hnb30 := NB504_500.out; have hnc30 := NB500_504.out; have hcz31_0 : w27.cell? ⟨gb504, 0, none⟩ = some (.int .u64 0) := (blk_cell BK504.out 0).trans rfl; have hcz31_1 : w27.cell? ⟨gb504, 1, none⟩ = some (.int .u64 0) := (blk_cell BK504.out 1).trans rfl; have hfz31_0 := blk_frozen BK504.out 0; have hfz31_1 := blk_frozen BK504.out 1; have hcz32_0 : w27.cell? ⟨gb499, 0, none⟩ = some (.int .u64 a1_0) := (blk_cell BK499.out 0).trans rfl; have hcz32_1 : w27.cell? ⟨gb499, 1, none⟩ = some (.int .u64 a1_1) := (blk_cell BK499.out 1).trans rfl; have hfz32_0 := blk_frozen BK499.out 0; have hfz32_1 := blk_frozen BK499.out 1; have hcz33_0 : w27.cell? ⟨gb498, 0, none⟩ = some (.int .u64 a0_0) := (blk_cell BK498.out 0).trans rfl; have hcz33_1 : w27.cell? ⟨gb498, 1, none⟩ = some (.int .u64 a0_1) := (blk_cell BK498.out 1).trans rfl; have hfz33_0 := blk_frozen BK498.out 0; have hfz33_1 := blk_frozen BK498.out 1) | ((with_reducible refine gate_callee (f := 24) rfl ?_); refine goesL_ (some 34) rfl rfl Try.func24 (by kernel_rfl) rfl #[.agg #[.int .u64 a1_0, .int .u64 a1_1], .agg #[.int .u64 a0_0, .int .u64 a0_1]] rfl (by (try simp only [List.map_toArray, List.map_cons, List.map_nil]); first | done | rfl | (simp only [List.length_drop, List.length_take]; rfl)) ?_; (with_reducible refine (wide_Add.calls a1_0 a1_1 a0_0 a0_1 t505 t506 t507 _ A8.out).mono ?_); rintro e w34 ⟨rfl, hb⟩; refine ⟨_, rfl, ?_⟩; replace BK498 := Aside0.mk (blk_below (g := gb498) (o := .cells #[.int .u64 a0_0, .int .u64 a0_1] 46 (0, 0)) (by (with_reducible repeat (first | refine blk_drewN ?_ _ | refine blk_drew ?_ | refine blk_alloc ?_ _)); refine blk_far ?_ NB498_504.out _; (with_reducible repeat (first | refine blk_drewN ?_ _ | refine blk_drew ?_ | refine blk_alloc ?_ _)); refine blk_far ?_ NB498_504.out _; (with_reducible repeat (first | refine blk_drewN ?_ _ | refine blk_drew ?_ | refine blk_alloc ?_ _)); exact BK498.out) hb); replace BK499 := Aside0.mk (blk_below (g := gb499) (o := .cells #[.int .u64 a1_0, .int .u64 a1_1] 46 (0, 0)) (by (with_reducible repeat (first | refine blk_drewN ?_ _ | refine blk_drew ?_ | refine blk_alloc ?_ _)); refine blk_far ?_ NB499_504.out _; (with_reducible repeat (first | refine blk_drewN ?_ _ | refine blk_drew ?_ | refine blk_alloc ?_ _)); refine blk_far ?_ NB499_504.out _; (with_reducible repeat (first | refine blk_drewN ?_ _ | refine blk_drew ?_ | refine blk_alloc ?_ _)); exact BK499.out) hb); replace BK500 := Aside0.mk (blk_below (g := gb500) (o := .cells #[.int .u64 a2_0, .int .u64 a2_1] 46 (0, 0)) (by (with_reducible repeat (first | refine blk_drewN ?_ _ | refine blk_drew ?_ | refine blk_alloc ?_ _)); refine blk_far ?_ NB500_504.out _; (with_reducible repeat (first | refine blk_drewN ?_ _ | refine blk_drew ?_ | refine blk_alloc ?_ _)); refine blk_far ?_ NB500_504.out _; (with_reducible repeat (first | refine blk_drewN ?_ _ | refine blk_drew ?_ | refine blk_alloc ?_ _)); exact BK500.out) hb); replace BK504 := Aside0.mk (blk_below (g := gb504) (o := .cells #[.int .u64 t501, .int .u64 t502] 46 (0, 0)) (by (with_reducible repeat (first | refine blk_drewN ?_ _ | refine blk_drew ?_ | refine blk_alloc ?_ _)); refine blk_put (cs := #[.int .u64 t501, .int .u64 0]) ?_ 1 _ rfl; (with_reducible repeat (first | refine blk_drewN ?_ _ | refine blk_drew ?_ | refine blk_alloc ?_ _)); refine blk_put (cs := #[.int .u64 0, .int .u64 0]) ?_ 0 _ rfl; (with_reducible repeat (first | refine blk_drewN ?_ _ | refine blk_drew ?_ | refine blk_alloc ?_ _)); exact BK504.out) hb); replace HB := Aside0.mk (below_step (by repeat (first | (with_reducible first | exact HB.out | apply below_alloc | apply pw_below_drewN | apply below_drew1 | refine below_set ?_ (Aside0.out (by assumption))) | exact HB.out)) hb); (try clear hb); (try clear hb2); (try clear hk); (try clear hi)) | ((with_reducible refine gate_dst (N := 15) rfl ?_); refine box_event ?hg (N := 15) ?hd (cs := #[.int .u64 0, .int .u64 0]) (t := 46) ?hr ?_; (case hd => rfl); (case hg => rfl); (case hr => first | (go_simp; done) | (go_simp; rfl)); intro gb508 hg w35 hbox hb; have BK508 := Aside0.mk (hbox); have GW508 := Aside0.mk ((by rw [hg]; exact (below_size (by repeat (first | (with_reducible first | exact HB.out | apply below_alloc | apply pw_below_drewN | apply below_drew1 | refine below_set ?_ (Aside0.out (by assumption))) | exact HB.out))) : w.heap.size ≤ gb508)); have GE508 := GW508; have NB498_508 := bn_ BK498 hg; have NB508_498 := bm_ BK498 hg; have NB499_508 := bn_ BK499 hg; have NB508_499 := bm_ BK499 hg; have NB500_508 := bn_ BK500 hg; have NB508_500 := bm_ BK500 hg; have NB504_508 := bn_ BK504 hg; have NB508_504 := bm_ BK504 hg; replace BK498 := bb_ BK498 hb; replace BK499 := bb_ BK499 hb; replace BK500 := bb_ BK500 hb; replace BK504 := bb_ BK504 hb; replace HB := Aside0.mk (below_step (by repeat (first | (with_reducible first | exact HB.out | apply below_alloc | apply pw_below_drewN | apply below_drew1 | refine below_set ?_ (Aside0.out (by assumption))) | exact HB.out)) hb); clear hb hbox hg; have hnb36 := NB508_498.out; have hnc36 := NB498_508.out; have hnb37 := NB508_499.out; have hnc37 := NB499_508.out; have hnb38 := NB508_500.out; have hnc38 := NB500_508.out; have hnb39 := NB508_504.out; have hnc39 := NB504_508.out; have hcz40_0 : w35.cell? ⟨gb508, 0, none⟩ = some (.int .u64 0) := (blk_cell BK508.out 0).trans rfl; have hcz40_1 : w35.cell? ⟨gb508, 1, none⟩ = some (.int .u64 0) := (blk_cell BK508.out 1).trans rfl; have hfz40_0 := blk_frozen BK508.out 0; have hfz40_1 := blk_frozen BK508.out 1; have hcz41_0 : w35.cell? ⟨gb504, 0, none⟩ = some (.int .u64 t501) := (blk_cell BK504.out 0).trans rfl; have hcz41_1 : w35.cell? ⟨gb504, 1, none⟩ = some (.int .u64 t502) := (blk_cell BK504.out 1).trans rfl; have hfz41_0 := blk_frozen BK504.out 0; have hfz41_1 := blk_frozen BK504.out 1) | (go_at_call 37; (with_reducible refine (wide_Mul.calls a3 a4 t509 t510 _ A11.out).mono ?_); rintro e w42 ⟨rfl, hb⟩; replace BK498 := Aside0.mk (blk_below (g := gb498) (o := .cells #[.int .u64 a0_0, .int .u64 a0_1] 46 (0, 0)) (by (with_reducible repeat (first | refine blk_drewN ?_ _ | refine blk_drew ?_ | refine blk_alloc ?_ _)); refine blk_far ?_ NB498_508.out _; (with_reducible repeat (first | refine blk_drewN ?_ _ | refine blk_drew ?_ | refine blk_alloc ?_ _)); refine blk_far ?_ NB498_508.out _; (with_reducible repeat (first | refine blk_drewN ?_ _ | refine blk_drew ?_ | refine blk_alloc ?_ _)); exact BK498.out) hb); replace BK499 := Aside0.mk (blk_below (g := gb499) (o := .cells #[.int .u64 a1_0, .int .u64 a1_1] 46 (0, 0)) (by (with_reducible repeat (first | refine blk_drewN ?_ _ | refine blk_drew ?_ | refine blk_alloc ?_ _)); refine blk_far ?_ NB499_508.out _; (with_reducible repeat (first | refine blk_drewN ?_ _ | refine blk_drew ?_ | refine blk_alloc ?_ _)); refine blk_far ?_ NB499_508.out _; (with_reducible repeat (first | refine blk_drewN ?_ _ | refine blk_drew ?_ | refine blk_alloc ?_ _)); exact BK499.out) hb); replace BK500 := Aside0.mk (blk_below (g := gb500) (o := .cells #[.int .u64 a2_0, .int .u64 a2_1] 46 (0, 0)) (by (with_reducible repeat (first | refine blk_drewN ?_ _ | refine blk_drew ?_ | refine blk_alloc ?_ _)); refine blk_far ?_ NB500_508.out _; (with_reducible repeat (first | refine blk_drewN ?_ _ | refine blk_drew ?_ | refine blk_alloc ?_ _)); refine blk_far ?_ NB500_508.out _; (with_reducible repeat (first | refine blk_drewN ?_ _ | refine blk_drew ?_ | refine blk_alloc ?_ _)); exact BK500.out) hb); replace BK504 := Aside0.mk (blk_below (g := gb504) (o := .cells #[.int .u64 t501, .int .u64 t502] 46 (0, 0)) (by (with_reducible repeat (first | refine blk_drewN ?_ _ | refine blk_drew ?_ | refine blk_alloc ?_ _)); refine blk_far ?_ NB504_508.out _; (with_reducible repeat (first | refine blk_drewN ?_ _ | refine blk_drew ?_ | refine blk_alloc ?_ _)); refine blk_far ?_ NB504_508.out _; (with_reducible repeat (first | refine blk_drewN ?_ _ | refine blk_drew ?_ | refine blk_alloc ?_ _)); exact BK504.out) hb); replace BK508 := Aside0.mk (blk_below (g := gb508) (o := .cells #[.int .u64 t505, .int .u64 t506] 46 (0, 0)) (by (with_reducible repeat (first | refine blk_drewN ?_ _ | refine blk_drew ?_ | refine blk_alloc ?_ _)); refine blk_put (cs := #[.int .u64 t505, .int .u64 0]) ?_ 1 _ rfl; (with_reducible repeat (first | refine blk_drewN ?_ _ | refine blk_drew ?_ | refine blk_alloc ?_ _)); refine blk_put (cs := #[.int .u64 0, .int .u64 0]) ?_ 0 _ rfl; (with_reducible repeat (first | refine blk_drewN ?_ _ | refine blk_drew ?_ | refine blk_alloc ?_ _)); exact BK508.out) hb); replace HB := Aside0.mk (below_step (by repeat (first | (with_reducible first | exact HB.out | apply below_alloc | apply pw_below_drewN | apply below_drew1 | refine below_set ?_ (Aside0.out (by assumption))) | exact HB.out)) hb); (try clear hb); (try clear hb2); (try clear hk); (try clear hi)) | (go_at_call 37; (with_reducible refine (wide_Mul.calls a4 a3 t511 t512 _ A12.out).mono ?_); rintro e w43 ⟨rfl, hb⟩; replace BK498 := bb_ BK498 hb; replace BK499 := bb_ BK499 hb; replace BK500 := bb_ BK500 hb; replace BK504 := bb_ BK504 hb; replace BK508 := bb_ BK508 hb; replace HB := Aside0.mk (below_step (by repeat (first | (with_reducible first | exact HB.out | apply below_alloc | apply pw_below_drewN | apply below_drew1 | refine below_set ?_ (Aside0.out (by assumption))) | exact HB.out)) hb); (try clear hb); (try clear hb2); (try clear hk); (try clear hi); have hcz44_0 : w43.cell? ⟨gb504, 0, none⟩ = some (.int .u64 t501) := (blk_cell BK504.out 0).trans rfl; have hcz44_1 : w43.cell? ⟨gb504, 1, none⟩ = some (.int .u64 t502) := (blk_cell BK504.out 1).trans rfl; have hfz44_0 := blk_frozen BK504.out 0; have hfz44_1 := blk_frozen BK504.out 1; have hcz45_0 : w43.cell? ⟨gb500, 0, none⟩ = some (.int .u64 a2_0) := (blk_cell BK500.out 0).trans rfl; have hcz45_1 : w43.cell? ⟨gb500, 1, none⟩ = some (.int .u64 a2_1) := (blk_cell BK500.out 1).trans rfl; have hfz45_0 := blk_frozen BK500.out 0; have hfz45_1 := blk_frozen BK500.out 1) | ((with_reducible refine gate_callee (f := 24) rfl ?_); refine goesL_ (some 57) rfl rfl Try.func24 (by kernel_rfl) rfl #[.agg #[.int .u64 t501, .int .u64 t502], .agg #[.int .u64 a2_0, .int .u64 a2_1]] rfl (by (try simp only [List.map_toArray, List.map_cons, List.map_nil]); first | done | rfl | (simp only [List.length_drop, List.length_take]; rfl)) ?_; (with_reducible refine (wide_Add.calls t501 t502 a2_0 a2_1 t513 t514 t515 _ A14.out).mono ?_); rintro e w46 ⟨rfl, hb⟩; refine ⟨_, rfl, ?_⟩; replace BK498 := bb_ BK498 hb; replace BK499 := bb_ BK499 hb; replace BK500 := bb_ BK500 hb; replace BK504 := bb_ BK504 hb; replace BK508 := bb_ BK508 hb; replace HB := Aside0.mk (below_step (by repeat (first | (with_reducible first | exact HB.out | apply below_alloc | apply pw_below_drewN | apply below_drew1 | refine below_set ?_ (Aside0.out (by assumption))) | exact HB.out)) hb); (try clear hb); (try clear hb2); (try clear hk); (try clear hi)) | ((with_reducible refine gate_dst (N := 17) rfl ?_); refine box_event ?hg (N := 17) ?hd (cs := #[.int .u64 0, .int .u64 0]) (t := 46) ?hr ?_; (case hd => rfl); (case hg => rfl); (case hr => first | (go_simp; done) | (go_simp; rfl)); intro gb516 hg w47 hbox hb; have BK516 := Aside0.mk (hbox); have GW516 := Aside0.mk ((by rw [hg]; exact (below_size (by repeat (first | (with_reducible first | exact HB.out | apply below_alloc | apply pw_below_drewN | apply below_drew1 | refine below_set ?_ (Aside0.out (by assumption))) | exact HB.out))) : w.heap.size ≤ gb516)); have GE516 := GW516; have NB498_516 := bn_ BK498 hg; have NB516_498 := bm_ BK498 hg; have NB499_516 := bn_ BK499 hg; have NB516_499 := bm_ BK499 hg; have NB500_516 := bn_ BK500 hg; have NB516_500 := bm_ BK500 hg; have NB504_516 := bn_ BK504 hg; have NB516_504 := bm_ BK504 hg; have NB508_516 := bn_ BK508 hg; have NB516_508 := bm_ BK508 hg; replace BK498 := bb_ BK498 hb; replace BK499 := bb_ BK499 hb; replace BK500 := bb_ BK500 hb; replace BK504 := bb_ BK504 hb; replace BK508 := bb_ BK508 hb; replace HB := Aside0.mk (below_step (by repeat (first | (with_reducible first | exact HB.out | apply below_alloc | apply pw_below_drewN | apply below_drew1 | refine below_set ?_ (Aside0.out (by assumption))) | exact HB.out)) hb); clear hb hbox hg; have hnb48 := NB516_498.out; have hnc48 := NB498_516.out; have hnb49 := NB516_499.out; have hnc49 := NB499_516.out; have hnb50 := NB516_500.out; have hnc50 := NB500_516.out; have hnb51 := NB516_504.out; have hnc51 := NB504_516.out; have hnb52 := NB516_508.out; have hnc52 := NB508_516.out; have hcz53_0 : w47.cell? ⟨gb516, 0, none⟩ = some (.int .u64 0) := (blk_cell BK516.out 0).trans rfl; have hcz53_1 : w47.cell? ⟨gb516, 1, none⟩ = some (.int .u64 0) := (blk_cell BK516.out 1).trans rfl; have hfz53_0 := blk_frozen BK516.out 0; have hfz53_1 := blk_frozen BK516.out 1; have hcz54_0 : w47.cell? ⟨gb499, 0, none⟩ = some (.int .u64 a1_0) := (blk_cell BK499.out 0).trans rfl; have hcz54_1 : w47.cell? ⟨gb499, 1, none⟩ = some (.int .u64 a1_1) := (blk_cell BK499.out 1).trans rfl; have hfz54_0 := blk_frozen BK499.out 0; have hfz54_1 := blk_frozen BK499.out 1; have hcz55_0 : w47.cell? ⟨gb500, 0, none⟩ = some (.int .u64 a2_0) := (blk_cell BK500.out 0).trans rfl; have hcz55_1 : w47.cell? ⟨gb500, 1, none⟩ = some (.int .u64 a2_1) := (blk_cell BK500.out 1).trans rfl; have hfz55_0 := blk_frozen BK500.out 0; have hfz55_1 := blk_frozen BK500.out 1) | ((with_reducible refine gate_callee (f := 24) rfl ?_); refine goesL_ (some 63) rfl rfl Try.func24 (by kernel_rfl) rfl #[.agg #[.int .u64 a1_0, .int .u64 a1_1], .agg #[.int .u64 a2_0, .int .u64 a2_1]] rfl (by (try simp only [List.map_toArray, List.map_cons, List.map_nil]); first | done | rfl | (simp only [List.length_drop, List.length_take]; rfl)) ?_; (with_reducible refine (wide_Add.calls a1_0 a1_1 a2_0 a2_1 t517 t518 t519 _ A15.out).mono ?_); rintro e w56 ⟨rfl, hb⟩; refine ⟨_, rfl, ?_⟩; replace BK498 := Aside0.mk (blk_below (g := gb498) (o := .cells #[.int .u64 a0_0, .int .u64 a0_1] 46 (0, 0)) (by (with_reducible repeat (first | refine blk_drewN ?_ _ | refine blk_drew ?_ | refine blk_alloc ?_ _)); refine blk_far ?_ NB498_516.out _; (with_reducible repeat (first | refine blk_drewN ?_ _ | refine blk_drew ?_ | refine blk_alloc ?_ _)); refine blk_far ?_ NB498_516.out _; (with_reducible repeat (first | refine blk_drewN ?_ _ | refine blk_drew ?_ | refine blk_alloc ?_ _)); exact BK498.out) hb); replace BK499 := Aside0.mk (blk_below (g := gb499) (o := .cells #[.int .u64 a1_0, .int .u64 a1_1] 46 (0, 0)) (by (with_reducible repeat (first | refine blk_drewN ?_ _ | refine blk_drew ?_ | refine blk_alloc ?_ _)); refine blk_far ?_ NB499_516.out _; (with_reducible repeat (first | refine blk_drewN ?_ _ | refine blk_drew ?_ | refine blk_alloc ?_ _)); refine blk_far ?_ NB499_516.out _; (with_reducible repeat (first | refine blk_drewN ?_ _ | refine blk_drew ?_ | refine blk_alloc ?_ _)); exact BK499.out) hb); replace BK500 := Aside0.mk (blk_below (g := gb500) (o := .cells #[.int .u64 a2_0, .int .u64 a2_1] 46 (0, 0)) (by (with_reducible repeat (first | refine blk_drewN ?_ _ | refine blk_drew ?_ | refine blk_alloc ?_ _)); refine blk_far ?_ NB500_516.out _; (with_reducible repeat (first | refine blk_drewN ?_ _ | refine blk_drew ?_ | refine blk_alloc ?_ _)); refine blk_far ?_ NB500_516.out _; (with_reducible repeat (first | refine blk_drewN ?_ _ | refine blk_drew ?_ | refine blk_alloc ?_ _)); exact BK500.out) hb); replace BK504 := Aside0.mk (blk_below (g := gb504) (o := .cells #[.int .u64 t501, .int .u64 t502] 46 (0, 0)) (by (with_reducible repeat (first | refine blk_drewN ?_ _ | refine blk_drew ?_ | refine blk_alloc ?_ _)); refine blk_far ?_ NB504_516.out _; (with_reducible repeat (first | refine blk_drewN ?_ _ | refine blk_drew ?_ | refine blk_alloc ?_ _)); refine blk_far ?_ NB504_516.out _; (with_reducible repeat (first | refine blk_drewN ?_ _ | refine blk_drew ?_ | refine blk_alloc ?_ _)); exact BK504.out) hb); replace BK508 := Aside0.mk (blk_below (g := gb508) (o := .cells #[.int .u64 t505, .int .u64 t506] 46 (0, 0)) (by (with_reducible repeat (first | refine blk_drewN ?_ _ | refine blk_drew ?_ | refine blk_alloc ?_ _)); refine blk_far ?_ NB508_516.out _; (with_reducible repeat (first | refine blk_drewN ?_ _ | refine blk_drew ?_ | refine blk_alloc ?_ _)); refine blk_far ?_ NB508_516.out _; (with_reducible repeat (first | refine blk_drewN ?_ _ | refine blk_drew ?_ | refine blk_alloc ?_ _)); exact BK508.out) hb); replace BK516 := Aside0.mk (blk_below (g := gb516) (o := .cells #[.int .u64 t513, .int .u64 t514] 46 (0, 0)) (by (with_reducible repeat (first | refine blk_drewN ?_ _ | refine blk_drew ?_ | refine blk_alloc ?_ _)); refine blk_put (cs := #[.int .u64 t513, .int .u64 0]) ?_ 1 _ rfl; (with_reducible repeat (first | refine blk_drewN ?_ _ | refine blk_drew ?_ | refine blk_alloc ?_ _)); refine blk_put (cs := #[.int .u64 0, .int .u64 0]) ?_ 0 _ rfl; (with_reducible repeat (first | refine blk_drewN ?_ _ | refine blk_drew ?_ | refine blk_alloc ?_ _)); exact BK516.out) hb); replace HB := Aside0.mk (below_step (by repeat (first | (with_reducible first | exact HB.out | apply below_alloc | apply pw_below_drewN | apply below_drew1 | refine below_set ?_ (Aside0.out (by assumption))) | exact HB.out)) hb); (try clear hb); (try clear hb2); (try clear hk); (try clear hi)) | ((with_reducible refine gate_dst (N := 19) rfl ?_); refine box_event ?hg (N := 19) ?hd (cs := #[.int .u64 0, .int .u64 0]) (t := 46) ?hr ?_; (case hd => rfl); (case hg => rfl); (case hr => first | (go_simp; done) | (go_simp; rfl)); intro gb520 hg w57 hbox hb; have BK520 := Aside0.mk (hbox); have GW520 := Aside0.mk ((by rw [hg]; exact (below_size (by repeat (first | (with_reducible first | exact HB.out | apply below_alloc | apply pw_below_drewN | apply below_drew1 | refine below_set ?_ (Aside0.out (by assumption))) | exact HB.out))) : w.heap.size ≤ gb520)); have GE520 := GW520; have NB498_520 := bn_ BK498 hg; have NB520_498 := bm_ BK498 hg; have NB499_520 := bn_ BK499 hg; have NB520_499 := bm_ BK499 hg; have NB500_520 := bn_ BK500 hg; have NB520_500 := bm_ BK500 hg; have NB504_520 := bn_ BK504 hg; have NB520_504 := bm_ BK504 hg; have NB508_520 := bn_ BK508 hg; have NB520_508 := bm_ BK508 hg; have NB516_520 := bn_ BK516 hg; have NB520_516 := bm_ BK516 hg; replace BK498 := bb_ BK498 hb; replace BK499 := bb_ BK499 hb; replace BK500 := bb_ BK500 hb; replace BK504 := bb_ BK504 hb; replace BK508 := bb_ BK508 hb; replace BK516 := bb_ BK516 hb; replace HB := Aside0.mk (below_step (by repeat (first | (with_reducible first | exact HB.out | apply below_alloc | apply pw_below_drewN | apply below_drew1 | refine below_set ?_ (Aside0.out (by assumption))) | exact HB.out)) hb); clear hb hbox hg; have hnb58 := NB520_498.out; have hnc58 := NB498_520.out; have hnb59 := NB520_499.out; have hnc59 := NB499_520.out; have hnb60 := NB520_500.out; have hnc60 := NB500_520.out; have hnb61 := NB520_504.out; have hnc61 := NB504_520.out; have hnb62 := NB520_508.out; have hnc62 := NB508_520.out; have hnb63 := NB520_516.out; have hnc63 := NB516_520.out; have hcz64_0 : w57.cell? ⟨gb520, 0, none⟩ = some (.int .u64 0) := (blk_cell BK520.out 0).trans rfl; have hcz64_1 : w57.cell? ⟨gb520, 1, none⟩ = some (.int .u64 0) := (blk_cell BK520.out 1).trans rfl; have hfz64_0 := blk_frozen BK520.out 0; have hfz64_1 := blk_frozen BK520.out 1; have hcz65_0 : w57.cell? ⟨gb498, 0, none⟩ = some (.int .u64 a0_0) := (blk_cell BK498.out 0).trans rfl; have hcz65_1 : w57.cell? ⟨gb498, 1, none⟩ = some (.int .u64 a0_1) := (blk_cell BK498.out 1).trans rfl; have hfz65_0 := blk_frozen BK498.out 0; have hfz65_1 := blk_frozen BK498.out 1) | ((with_reducible refine gate_callee (f := 24) rfl ?_); refine goesL_ (some 69) rfl rfl Try.func24 (by kernel_rfl) rfl #[.agg #[.int .u64 a0_0, .int .u64 a0_1], .agg #[.int .u64 t517, .int .u64 t518]] rfl (by (try simp only [List.map_toArray, List.map_cons, List.map_nil]); first | done | rfl | (simp only [List.length_drop, List.length_take]; rfl)) ?_; (with_reducible refine (wide_Add.calls a0_0 a0_1 t517 t518 t521 t522 t523 _ A16.out).mono ?_); rintro e w66 ⟨rfl, hb⟩; refine ⟨_, rfl, ?_⟩; replace BK498 := Aside0.mk (blk_below (g := gb498) (o := .cells #[.int .u64 a0_0, .int .u64 a0_1] 46 (0, 0)) (by (with_reducible repeat (first | refine blk_drewN ?_ _ | refine blk_drew ?_ | refine blk_alloc ?_ _)); refine blk_far ?_ NB498_520.out _; (with_reducible repeat (first | refine blk_drewN ?_ _ | refine blk_drew ?_ | refine blk_alloc ?_ _)); refine blk_far ?_ NB498_520.out _; (with_reducible repeat (first | refine blk_drewN ?_ _ | refine blk_drew ?_ | refine blk_alloc ?_ _)); exact BK498.out) hb); replace BK499 := Aside0.mk (blk_below (g := gb499) (o := .cells #[.int .u64 a1_0, .int .u64 a1_1] 46 (0, 0)) (by (with_reducible repeat (first | refine blk_drewN ?_ _ | refine blk_drew ?_ | refine blk_alloc ?_ _)); refine blk_far ?_ NB499_520.out _; (with_reducible repeat (first | refine blk_drewN ?_ _ | refine blk_drew ?_ | refine blk_alloc ?_ _)); refine blk_far ?_ NB499_520.out _; (with_reducible repeat (first | refine blk_drewN ?_ _ | refine blk_drew ?_ | refine blk_alloc ?_ _)); exact BK499.out) hb); replace BK500 := Aside0.mk (blk_below (g := gb500) (o := .cells #[.int .u64 a2_0, .int .u64 a2_1] 46 (0, 0)) (by (with_reducible repeat (first | refine blk_drewN ?_ _ | refine blk_drew ?_ | refine blk_alloc ?_ _)); refine blk_far ?_ NB500_520.out _; (with_reducible repeat (first | refine blk_drewN ?_ _ | refine blk_drew ?_ | refine blk_alloc ?_ _)); refine blk_far ?_ NB500_520.out _; (with_reducible repeat (first | refine blk_drewN ?_ _ | refine blk_drew ?_ | refine blk_alloc ?_ _)); exact BK500.out) hb); replace BK504 := Aside0.mk (blk_below (g := gb504) (o := .cells #[.int .u64 t501, .int .u64 t502] 46 (0, 0)) (by (with_reducible repeat (first | refine blk_drewN ?_ _ | refine blk_drew ?_ | refine blk_alloc ?_ _)); refine blk_far ?_ NB504_520.out _; (with_reducible repeat (first | refine blk_drewN ?_ _ | refine blk_drew ?_ | refine blk_alloc ?_ _)); refine blk_far ?_ NB504_520.out _; (with_reducible repeat (first | refine blk_drewN ?_ _ | refine blk_drew ?_ | refine blk_alloc ?_ _)); exact BK504.out) hb); replace BK508 := Aside0.mk (blk_below (g := gb508) (o := .cells #[.int .u64 t505, .int .u64 t506] 46 (0, 0)) (by (with_reducible repeat (first | refine blk_drewN ?_ _ | refine blk_drew ?_ | refine blk_alloc ?_ _)); refine blk_far ?_ NB508_520.out _; (with_reducible repeat (first | refine blk_drewN ?_ _ | refine blk_drew ?_ | refine blk_alloc ?_ _)); refine blk_far ?_ NB508_520.out _; (with_reducible repeat (first | refine blk_drewN ?_ _ | refine blk_drew ?_ | refine blk_alloc ?_ _)); exact BK508.out) hb); replace BK516 := Aside0.mk (blk_below (g := gb516) (o := .cells #[.int .u64 t513, .int .u64 t514] 46 (0, 0)) (by (with_reducible repeat (first | refine blk_drewN ?_ _ | refine blk_drew ?_ | refine blk_alloc ?_ _)); refine blk_far ?_ NB516_520.out _; (with_reducible repeat (first | refine blk_drewN ?_ _ | refine blk_drew ?_ | refine blk_alloc ?_ _)); refine blk_far ?_ NB516_520.out _; (with_reducible repeat (first | refine blk_drewN ?_ _ | refine blk_drew ?_ | refine blk_alloc ?_ _)); exact BK516.out) hb); replace BK520 := Aside0.mk (blk_below (g := gb520) (o := .cells #[.int .u64 t517, .int .u64 t518] 46 (0, 0)) (by (with_reducible repeat (first | refine blk_drewN ?_ _ | refine blk_drew ?_ | refine blk_alloc ?_ _)); refine blk_put (cs := #[.int .u64 t517, .int .u64 0]) ?_ 1 _ rfl; (with_reducible repeat (first | refine blk_drewN ?_ _ | refine blk_drew ?_ | refine blk_alloc ?_ _)); refine blk_put (cs := #[.int .u64 0, .int .u64 0]) ?_ 0 _ rfl; (with_reducible repeat (first | refine blk_drewN ?_ _ | refine blk_drew ?_ | refine blk_alloc ?_ _)); exact BK520.out) hb); replace HB := Aside0.mk (below_step (by repeat (first | (with_reducible first | exact HB.out | apply below_alloc | apply pw_below_drewN | apply below_drew1 | refine below_set ?_ (Aside0.out (by assumption))) | exact HB.out)) hb); (try clear hb); (try clear hb2); (try clear hk); (try clear hi)) | ((with_reducible refine gate_dst (N := 21) rfl ?_); refine box_event ?hg (N := 21) ?hd (cs := #[.int .u64 0, .int .u64 0]) (t := 46) ?hr ?_; (case hd => rfl); (case hg => rfl); (case hr => first | (go_simp; done) | (go_simp; rfl)); intro gb524 hg w67 hbox hb; have BK524 := Aside0.mk (hbox); have GW524 := Aside0.mk ((by rw [hg]; exact (below_size (by repeat (first | (with_reducible first | exact HB.out | apply below_alloc | apply pw_below_drewN | apply below_drew1 | refine below_set ?_ (Aside0.out (by assumption))) | exact HB.out))) : w.heap.size ≤ gb524)); have GE524 := GW524; have NB498_524 := bn_ BK498 hg; have NB524_498 := bm_ BK498 hg; have NB499_524 := bn_ BK499 hg; have NB524_499 := bm_ BK499 hg; have NB500_524 := bn_ BK500 hg; have NB524_500 := bm_ BK500 hg; have NB504_524 := bn_ BK504 hg; have NB524_504 := bm_ BK504 hg; have NB508_524 := bn_ BK508 hg; have NB524_508 := bm_ BK508 hg; have NB516_524 := bn_ BK516 hg; have NB524_516 := bm_ BK516 hg; have NB520_524 := bn_ BK520 hg; have NB524_520 := bm_ BK520 hg; replace BK498 := bb_ BK498 hb; replace BK499 := bb_ BK499 hb; replace BK500 := bb_ BK500 hb; replace BK504 := bb_ BK504 hb; replace BK508 := bb_ BK508 hb; replace BK516 := bb_ BK516 hb; replace BK520 := bb_ BK520 hb; replace HB := Aside0.mk (below_step (by repeat (first | (with_reducible first | exact HB.out | apply below_alloc | apply pw_below_drewN | apply below_drew1 | refine below_set ?_ (Aside0.out (by assumption))) | exact HB.out)) hb); clear hb hbox hg; have hnb68 := NB524_498.out; have hnc68 := NB498_524.out; have hnb69 := NB524_499.out; have hnc69 := NB499_524.out; have hnb70 := NB524_500.out; have hnc70 := NB500_524.out; have hnb71 := NB524_504.out; have hnc71 := NB504_524.out; have hnb72 := NB524_508.out; have hnc72 := NB508_524.out; have hnb73 := NB524_516.out; have hnc73 := NB516_524.out; have hnb74 := NB524_520.out; have hnc74 := NB520_524.out; have hcz75_0 : w67.cell? ⟨gb524, 0, none⟩ = some (.int .u64 0) := (blk_cell BK524.out 0).trans rfl; have hcz75_1 : w67.cell? ⟨gb524, 1, none⟩ = some (.int .u64 0) := (blk_cell BK524.out 1).trans rfl; have hfz75_0 := blk_frozen BK524.out 0; have hfz75_1 := blk_frozen BK524.out 1))
 (try simp only [Act.put, List.setIfInBounds_toArray, List.set_cons_zero, List.set_cons_succ])
 go_cut [90] (fun v90 wc => ∃ (kq : Nat) (x90_16 : Bool), v90 = .bool x90_16 ∧ Aside0 (spigotlaw01_WideRules.j0 kq a3 a4 a5 x90_16 = some r) ∧ Aside0 (kq ≤ k) ∧ Aside0 (wc.heap[gb498]? = some (.cells #[.int .u64 a0_0, .int .u64 a0_1] 46 (0, 0))) ∧ Aside0 (wc.heap[gb499]? = some (.cells #[.int .u64 a1_0, .int .u64 a1_1] 46 (0, 0))) ∧ Aside0 (wc.heap[gb500]? = some (.cells #[.int .u64 a2_0, .int .u64 a2_1] 46 (0, 0))) ∧ Aside0 (wc.heap[gb504]? = some (.cells #[.int .u64 t501, .int .u64 t502] 46 (0, 0))) ∧ Aside0 (wc.heap[gb508]? = some (.cells #[.int .u64 t505, .int .u64 t506] 46 (0, 0))) ∧ Aside0 (wc.heap[gb516]? = some (.cells #[.int .u64 t513, .int .u64 t514] 46 (0, 0))) ∧ Aside0 (wc.heap[gb520]? = some (.cells #[.int .u64 t517, .int .u64 t518] 46 (0, 0))) ∧ Aside0 (wc.heap[gb524]? = some (.cells #[.int .u64 t521, .int .u64 t522] 46 (0, 0))) ∧ Aside0 (Below w.heap.size w wc))
 case first =>
  have H := HC17.out
  clear HC17
  by_cases c76 : t503 = 0
  ·rw [if_pos c76] at H
   have c76b0 : (t503 == 0) = true := beq_iff_eq.mpr c76
   have c76b1 : (t503 != 0) = false := bne_eq_false_iff_eq.mpr c76
   clear c76
   (first | rw [c76b0] | (simp only [i64_w, i32_w]; rw [c76b0]) | skip)
   by_cases c77 : t515 = 0
   ·rw [if_pos c77] at H
    have c77b0 : (t515 == 0) = true := beq_iff_eq.mpr c77
    have c77b1 : (t515 != 0) = false := bne_eq_false_iff_eq.mpr c77
    clear c77
    by_cases c78 : t519 = 0
    ·rw [if_pos c78] at H
     have c78b0 : (t519 == 0) = true := beq_iff_eq.mpr c78
     have c78b1 : (t519 != 0) = false := bne_eq_false_iff_eq.mpr c78
     clear c78
     by_cases c79 : t523 = 0
     ·rw [if_pos c79] at H
      have c79b0 : (t523 == 0) = true := beq_iff_eq.mpr c79
      have c79b1 : (t523 != 0) = false := bne_eq_false_iff_eq.mpr c79
      clear c79
      have H' := Aside0.mk H
      clear H
      have hnb80 := NB516_498.out
      have hnc80 := NB498_516.out
      have hnb81 := NB516_499.out
      have hnc81 := NB499_516.out
      have hnb82 := NB516_500.out
      have hnc82 := NB500_516.out
      have hnb83 := NB516_504.out
      have hnc83 := NB504_516.out
      have hnb84 := NB516_508.out
      have hnc84 := NB508_516.out
      have hnb85 := NB516_520.out
      have hnc85 := NB520_516.out
      have hnb86 := NB516_524.out
      have hnc86 := NB524_516.out
      have hcz87_0 : w67.cell? ⟨gb516, 0, none⟩ = some (.int .u64 t513) := (blk_cell BK516.out 0).trans rfl
      have hcz87_1 : w67.cell? ⟨gb516, 1, none⟩ = some (.int .u64 t514) := (blk_cell BK516.out 1).trans rfl
      have hfz87_0 := blk_frozen BK516.out 0
      have hfz87_1 := blk_frozen BK516.out 1
      have hnb88 := NB524_498.out
      have hnc88 := NB498_524.out
      have hnb89 := NB524_499.out
      have hnc89 := NB499_524.out
      have hnb90 := NB524_500.out
      have hnc90 := NB500_524.out
      have hnb91 := NB524_504.out
      have hnc91 := NB504_524.out
      have hnb92 := NB524_508.out
      have hnc92 := NB508_524.out
      have hnb93 := NB524_520.out
      have hnc93 := NB520_524.out
      have hcz94_0 : w67.cell? ⟨gb524, 0, none⟩ = some (.int .u64 0) := (blk_cell BK524.out 0).trans rfl
      have hcz94_1 : w67.cell? ⟨gb524, 1, none⟩ = some (.int .u64 0) := (blk_cell BK524.out 1).trans rfl
      have hfz94_0 := blk_frozen BK524.out 0
      have hfz94_1 := blk_frozen BK524.out 1
      go_wp2
      go_meet
      case rel => exact ⟨_, ((!(t513 == t521) || (!(t514 == t522)))), (by first | rfl | (simp; done) | (simp [*]; done)), H', ⟨by first | omega | exact Nat.le_refl _⟩, ⟨by (with_reducible repeat (first | refine blk_drewN ?_ _ | refine blk_drew ?_ | refine blk_alloc ?_ _)); refine blk_far ?_ NB498_524.out _; (with_reducible repeat (first | refine blk_drewN ?_ _ | refine blk_drew ?_ | refine blk_alloc ?_ _)); refine blk_far ?_ NB498_524.out _; (with_reducible repeat (first | refine blk_drewN ?_ _ | refine blk_drew ?_ | refine blk_alloc ?_ _)); exact BK498.out⟩, ⟨by (with_reducible repeat (first | refine blk_drewN ?_ _ | refine blk_drew ?_ | refine blk_alloc ?_ _)); refine blk_far ?_ NB499_524.out _; (with_reducible repeat (first | refine blk_drewN ?_ _ | refine blk_drew ?_ | refine blk_alloc ?_ _)); refine blk_far ?_ NB499_524.out _; (with_reducible repeat (first | refine blk_drewN ?_ _ | refine blk_drew ?_ | refine blk_alloc ?_ _)); exact BK499.out⟩, ⟨by (with_reducible repeat (first | refine blk_drewN ?_ _ | refine blk_drew ?_ | refine blk_alloc ?_ _)); refine blk_far ?_ NB500_524.out _; (with_reducible repeat (first | refine blk_drewN ?_ _ | refine blk_drew ?_ | refine blk_alloc ?_ _)); refine blk_far ?_ NB500_524.out _; (with_reducible repeat (first | refine blk_drewN ?_ _ | refine blk_drew ?_ | refine blk_alloc ?_ _)); exact BK500.out⟩, ⟨by (with_reducible repeat (first | refine blk_drewN ?_ _ | refine blk_drew ?_ | refine blk_alloc ?_ _)); refine blk_far ?_ NB504_524.out _; (with_reducible repeat (first | refine blk_drewN ?_ _ | refine blk_drew ?_ | refine blk_alloc ?_ _)); refine blk_far ?_ NB504_524.out _; (with_reducible repeat (first | refine blk_drewN ?_ _ | refine blk_drew ?_ | refine blk_alloc ?_ _)); exact BK504.out⟩, ⟨by (with_reducible repeat (first | refine blk_drewN ?_ _ | refine blk_drew ?_ | refine blk_alloc ?_ _)); refine blk_far ?_ NB508_524.out _; (with_reducible repeat (first | refine blk_drewN ?_ _ | refine blk_drew ?_ | refine blk_alloc ?_ _)); refine blk_far ?_ NB508_524.out _; (with_reducible repeat (first | refine blk_drewN ?_ _ | refine blk_drew ?_ | refine blk_alloc ?_ _)); exact BK508.out⟩, ⟨by (with_reducible repeat (first | refine blk_drewN ?_ _ | refine blk_drew ?_ | refine blk_alloc ?_ _)); refine blk_far ?_ NB516_524.out _; (with_reducible repeat (first | refine blk_drewN ?_ _ | refine blk_drew ?_ | refine blk_alloc ?_ _)); refine blk_far ?_ NB516_524.out _; (with_reducible repeat (first | refine blk_drewN ?_ _ | refine blk_drew ?_ | refine blk_alloc ?_ _)); exact BK516.out⟩, ⟨by (with_reducible repeat (first | refine blk_drewN ?_ _ | refine blk_drew ?_ | refine blk_alloc ?_ _)); refine blk_far ?_ NB520_524.out _; (with_reducible repeat (first | refine blk_drewN ?_ _ | refine blk_drew ?_ | refine blk_alloc ?_ _)); refine blk_far ?_ NB520_524.out _; (with_reducible repeat (first | refine blk_drewN ?_ _ | refine blk_drew ?_ | refine blk_alloc ?_ _)); exact BK520.out⟩, ⟨by (with_reducible repeat (first | refine blk_drewN ?_ _ | refine blk_drew ?_ | refine blk_alloc ?_ _)); refine blk_put (cs := #[.int .u64 t521, .int .u64 0]) ?_ 1 _ rfl; (with_reducible repeat (first | refine blk_drewN ?_ _ | refine blk_drew ?_ | refine blk_alloc ?_ _)); refine blk_put (cs := #[.int .u64 0, .int .u64 0]) ?_ 0 _ rfl; (with_reducible repeat (first | refine blk_drewN ?_ _ | refine blk_drew ?_ | refine blk_alloc ?_ _)); exact BK524.out⟩, ⟨by repeat (first | (with_reducible first | exact HB.out | apply below_alloc | apply pw_below_drewN | apply below_drew1 | refine below_set ?_ GE498.out | refine below_set ?_ GE499.out | refine below_set ?_ GE500.out | refine below_set ?_ GE504.out | refine below_set ?_ GE508.out | refine below_set ?_ GE516.out | refine below_set ?_ GE520.out | refine below_set ?_ GE524.out) | exact HB.out)⟩⟩
     ·rw [if_neg c79] at H
      have c79b0 : (t523 == 0) = false := beq_eq_false_iff_ne.mpr c79
      have c79b1 : (t523 != 0) = true := bne_iff_ne.mpr c79
      have H' := Aside0.mk H
      clear H
      go_wp2
      go_meet
      case rel => exact ⟨_, (true), (by first | rfl | (simp; done) | (simp [*]; done)), H', ⟨by first | omega | exact Nat.le_refl _⟩, ⟨by (with_reducible repeat (first | refine blk_drewN ?_ _ | refine blk_drew ?_ | refine blk_alloc ?_ _)); refine blk_far ?_ NB498_524.out _; (with_reducible repeat (first | refine blk_drewN ?_ _ | refine blk_drew ?_ | refine blk_alloc ?_ _)); refine blk_far ?_ NB498_524.out _; (with_reducible repeat (first | refine blk_drewN ?_ _ | refine blk_drew ?_ | refine blk_alloc ?_ _)); exact BK498.out⟩, ⟨by (with_reducible repeat (first | refine blk_drewN ?_ _ | refine blk_drew ?_ | refine blk_alloc ?_ _)); refine blk_far ?_ NB499_524.out _; (with_reducible repeat (first | refine blk_drewN ?_ _ | refine blk_drew ?_ | refine blk_alloc ?_ _)); refine blk_far ?_ NB499_524.out _; (with_reducible repeat (first | refine blk_drewN ?_ _ | refine blk_drew ?_ | refine blk_alloc ?_ _)); exact BK499.out⟩, ⟨by (with_reducible repeat (first | refine blk_drewN ?_ _ | refine blk_drew ?_ | refine blk_alloc ?_ _)); refine blk_far ?_ NB500_524.out _; (with_reducible repeat (first | refine blk_drewN ?_ _ | refine blk_drew ?_ | refine blk_alloc ?_ _)); refine blk_far ?_ NB500_524.out _; (with_reducible repeat (first | refine blk_drewN ?_ _ | refine blk_drew ?_ | refine blk_alloc ?_ _)); exact BK500.out⟩, ⟨by (with_reducible repeat (first | refine blk_drewN ?_ _ | refine blk_drew ?_ | refine blk_alloc ?_ _)); refine blk_far ?_ NB504_524.out _; (with_reducible repeat (first | refine blk_drewN ?_ _ | refine blk_drew ?_ | refine blk_alloc ?_ _)); refine blk_far ?_ NB504_524.out _; (with_reducible repeat (first | refine blk_drewN ?_ _ | refine blk_drew ?_ | refine blk_alloc ?_ _)); exact BK504.out⟩, ⟨by (with_reducible repeat (first | refine blk_drewN ?_ _ | refine blk_drew ?_ | refine blk_alloc ?_ _)); refine blk_far ?_ NB508_524.out _; (with_reducible repeat (first | refine blk_drewN ?_ _ | refine blk_drew ?_ | refine blk_alloc ?_ _)); refine blk_far ?_ NB508_524.out _; (with_reducible repeat (first | refine blk_drewN ?_ _ | refine blk_drew ?_ | refine blk_alloc ?_ _)); exact BK508.out⟩, ⟨by (with_reducible repeat (first | refine blk_drewN ?_ _ | refine blk_drew ?_ | refine blk_alloc ?_ _)); refine blk_far ?_ NB516_524.out _; (with_reducible repeat (first | refine blk_drewN ?_ _ | refine blk_drew ?_ | refine blk_alloc ?_ _)); refine blk_far ?_ NB516_524.out _; (with_reducible repeat (first | refine blk_drewN ?_ _ | refine blk_drew ?_ | refine blk_alloc ?_ _)); exact BK516.out⟩, ⟨by (with_reducible repeat (first | refine blk_drewN ?_ _ | refine blk_drew ?_ | refine blk_alloc ?_ _)); refine blk_far ?_ NB520_524.out _; (with_reducible repeat (first | refine blk_drewN ?_ _ | refine blk_drew ?_ | refine blk_alloc ?_ _)); refine blk_far ?_ NB520_524.out _; (with_reducible repeat (first | refine blk_drewN ?_ _ | refine blk_drew ?_ | refine blk_alloc ?_ _)); exact BK520.out⟩, ⟨by (with_reducible repeat (first | refine blk_drewN ?_ _ | refine blk_drew ?_ | refine blk_alloc ?_ _)); refine blk_put (cs := #[.int .u64 t521, .int .u64 0]) ?_ 1 _ rfl; (with_reducible repeat (first | refine blk_drewN ?_ _ | refine blk_drew ?_ | refine blk_alloc ?_ _)); refine blk_put (cs := #[.int .u64 0, .int .u64 0]) ?_ 0 _ rfl; (with_reducible repeat (first | refine blk_drewN ?_ _ | refine blk_drew ?_ | refine blk_alloc ?_ _)); exact BK524.out⟩, ⟨by repeat (first | (with_reducible first | exact HB.out | apply below_alloc | apply pw_below_drewN | apply below_drew1 | refine below_set ?_ GE498.out | refine below_set ?_ GE499.out | refine below_set ?_ GE500.out | refine below_set ?_ GE504.out | refine below_set ?_ GE508.out | refine below_set ?_ GE516.out | refine below_set ?_ GE520.out | refine below_set ?_ GE524.out) | exact HB.out)⟩⟩
    ·rw [if_neg c78] at H
     have c78b0 : (t519 == 0) = false := beq_eq_false_iff_ne.mpr c78
     have c78b1 : (t519 != 0) = true := bne_iff_ne.mpr c78
     have H' := Aside0.mk H
     clear H
     go_wp2
     go_meet
     case rel => exact ⟨_, (true), (by first | rfl | (simp; done) | (simp [*]; done)), H', ⟨by first | omega | exact Nat.le_refl _⟩, ⟨by (with_reducible repeat (first | refine blk_drewN ?_ _ | refine blk_drew ?_ | refine blk_alloc ?_ _)); refine blk_far ?_ NB498_524.out _; (with_reducible repeat (first | refine blk_drewN ?_ _ | refine blk_drew ?_ | refine blk_alloc ?_ _)); refine blk_far ?_ NB498_524.out _; (with_reducible repeat (first | refine blk_drewN ?_ _ | refine blk_drew ?_ | refine blk_alloc ?_ _)); exact BK498.out⟩, ⟨by (with_reducible repeat (first | refine blk_drewN ?_ _ | refine blk_drew ?_ | refine blk_alloc ?_ _)); refine blk_far ?_ NB499_524.out _; (with_reducible repeat (first | refine blk_drewN ?_ _ | refine blk_drew ?_ | refine blk_alloc ?_ _)); refine blk_far ?_ NB499_524.out _; (with_reducible repeat (first | refine blk_drewN ?_ _ | refine blk_drew ?_ | refine blk_alloc ?_ _)); exact BK499.out⟩, ⟨by (with_reducible repeat (first | refine blk_drewN ?_ _ | refine blk_drew ?_ | refine blk_alloc ?_ _)); refine blk_far ?_ NB500_524.out _; (with_reducible repeat (first | refine blk_drewN ?_ _ | refine blk_drew ?_ | refine blk_alloc ?_ _)); refine blk_far ?_ NB500_524.out _; (with_reducible repeat (first | refine blk_drewN ?_ _ | refine blk_drew ?_ | refine blk_alloc ?_ _)); exact BK500.out⟩, ⟨by (with_reducible repeat (first | refine blk_drewN ?_ _ | refine blk_drew ?_ | refine blk_alloc ?_ _)); refine blk_far ?_ NB504_524.out _; (with_reducible repeat (first | refine blk_drewN ?_ _ | refine blk_drew ?_ | refine blk_alloc ?_ _)); refine blk_far ?_ NB504_524.out _; (with_reducible repeat (first | refine blk_drewN ?_ _ | refine blk_drew ?_ | refine blk_alloc ?_ _)); exact BK504.out⟩, ⟨by (with_reducible repeat (first | refine blk_drewN ?_ _ | refine blk_drew ?_ | refine blk_alloc ?_ _)); refine blk_far ?_ NB508_524.out _; (with_reducible repeat (first | refine blk_drewN ?_ _ | refine blk_drew ?_ | refine blk_alloc ?_ _)); refine blk_far ?_ NB508_524.out _; (with_reducible repeat (first | refine blk_drewN ?_ _ | refine blk_drew ?_ | refine blk_alloc ?_ _)); exact BK508.out⟩, ⟨by (with_reducible repeat (first | refine blk_drewN ?_ _ | refine blk_drew ?_ | refine blk_alloc ?_ _)); refine blk_far ?_ NB516_524.out _; (with_reducible repeat (first | refine blk_drewN ?_ _ | refine blk_drew ?_ | refine blk_alloc ?_ _)); refine blk_far ?_ NB516_524.out _; (with_reducible repeat (first | refine blk_drewN ?_ _ | refine blk_drew ?_ | refine blk_alloc ?_ _)); exact BK516.out⟩, ⟨by (with_reducible repeat (first | refine blk_drewN ?_ _ | refine blk_drew ?_ | refine blk_alloc ?_ _)); refine blk_far ?_ NB520_524.out _; (with_reducible repeat (first | refine blk_drewN ?_ _ | refine blk_drew ?_ | refine blk_alloc ?_ _)); refine blk_far ?_ NB520_524.out _; (with_reducible repeat (first | refine blk_drewN ?_ _ | refine blk_drew ?_ | refine blk_alloc ?_ _)); exact BK520.out⟩, ⟨by (with_reducible repeat (first | refine blk_drewN ?_ _ | refine blk_drew ?_ | refine blk_alloc ?_ _)); refine blk_put (cs := #[.int .u64 t521, .int .u64 0]) ?_ 1 _ rfl; (with_reducible repeat (first | refine blk_drewN ?_ _ | refine blk_drew ?_ | refine blk_alloc ?_ _)); refine blk_put (cs := #[.int .u64 0, .int .u64 0]) ?_ 0 _ rfl; (with_reducible repeat (first | refine blk_drewN ?_ _ | refine blk_drew ?_ | refine blk_alloc ?_ _)); exact BK524.out⟩, ⟨by repeat (first | (with_reducible first | exact HB.out | apply below_alloc | apply pw_below_drewN | apply below_drew1 | refine below_set ?_ GE498.out | refine below_set ?_ GE499.out | refine below_set ?_ GE500.out | refine below_set ?_ GE504.out | refine below_set ?_ GE508.out | refine below_set ?_ GE516.out | refine below_set ?_ GE520.out | refine below_set ?_ GE524.out) | exact HB.out)⟩⟩
   ·rw [if_neg c77] at H
    have c77b0 : (t515 == 0) = false := beq_eq_false_iff_ne.mpr c77
    have c77b1 : (t515 != 0) = true := bne_iff_ne.mpr c77
    have H' := Aside0.mk H
    clear H
    go_wp2
    go_meet
    case rel => exact ⟨_, (false), (by first | rfl | (simp; done) | (simp [*]; done)), H', ⟨by first | omega | exact Nat.le_refl _⟩, ⟨by (with_reducible repeat (first | refine blk_drewN ?_ _ | refine blk_drew ?_ | refine blk_alloc ?_ _)); refine blk_far ?_ NB498_524.out _; (with_reducible repeat (first | refine blk_drewN ?_ _ | refine blk_drew ?_ | refine blk_alloc ?_ _)); refine blk_far ?_ NB498_524.out _; (with_reducible repeat (first | refine blk_drewN ?_ _ | refine blk_drew ?_ | refine blk_alloc ?_ _)); exact BK498.out⟩, ⟨by (with_reducible repeat (first | refine blk_drewN ?_ _ | refine blk_drew ?_ | refine blk_alloc ?_ _)); refine blk_far ?_ NB499_524.out _; (with_reducible repeat (first | refine blk_drewN ?_ _ | refine blk_drew ?_ | refine blk_alloc ?_ _)); refine blk_far ?_ NB499_524.out _; (with_reducible repeat (first | refine blk_drewN ?_ _ | refine blk_drew ?_ | refine blk_alloc ?_ _)); exact BK499.out⟩, ⟨by (with_reducible repeat (first | refine blk_drewN ?_ _ | refine blk_drew ?_ | refine blk_alloc ?_ _)); refine blk_far ?_ NB500_524.out _; (with_reducible repeat (first | refine blk_drewN ?_ _ | refine blk_drew ?_ | refine blk_alloc ?_ _)); refine blk_far ?_ NB500_524.out _; (with_reducible repeat (first | refine blk_drewN ?_ _ | refine blk_drew ?_ | refine blk_alloc ?_ _)); exact BK500.out⟩, ⟨by (with_reducible repeat (first | refine blk_drewN ?_ _ | refine blk_drew ?_ | refine blk_alloc ?_ _)); refine blk_far ?_ NB504_524.out _; (with_reducible repeat (first | refine blk_drewN ?_ _ | refine blk_drew ?_ | refine blk_alloc ?_ _)); refine blk_far ?_ NB504_524.out _; (with_reducible repeat (first | refine blk_drewN ?_ _ | refine blk_drew ?_ | refine blk_alloc ?_ _)); exact BK504.out⟩, ⟨by (with_reducible repeat (first | refine blk_drewN ?_ _ | refine blk_drew ?_ | refine blk_alloc ?_ _)); refine blk_far ?_ NB508_524.out _; (with_reducible repeat (first | refine blk_drewN ?_ _ | refine blk_drew ?_ | refine blk_alloc ?_ _)); refine blk_far ?_ NB508_524.out _; (with_reducible repeat (first | refine blk_drewN ?_ _ | refine blk_drew ?_ | refine blk_alloc ?_ _)); exact BK508.out⟩, ⟨by (with_reducible repeat (first | refine blk_drewN ?_ _ | refine blk_drew ?_ | refine blk_alloc ?_ _)); refine blk_far ?_ NB516_524.out _; (with_reducible repeat (first | refine blk_drewN ?_ _ | refine blk_drew ?_ | refine blk_alloc ?_ _)); refine blk_far ?_ NB516_524.out _; (with_reducible repeat (first | refine blk_drewN ?_ _ | refine blk_drew ?_ | refine blk_alloc ?_ _)); exact BK516.out⟩, ⟨by (with_reducible repeat (first | refine blk_drewN ?_ _ | refine blk_drew ?_ | refine blk_alloc ?_ _)); refine blk_far ?_ NB520_524.out _; (with_reducible repeat (first | refine blk_drewN ?_ _ | refine blk_drew ?_ | refine blk_alloc ?_ _)); refine blk_far ?_ NB520_524.out _; (with_reducible repeat (first | refine blk_drewN ?_ _ | refine blk_drew ?_ | refine blk_alloc ?_ _)); exact BK520.out⟩, ⟨by (with_reducible repeat (first | refine blk_drewN ?_ _ | refine blk_drew ?_ | refine blk_alloc ?_ _)); refine blk_put (cs := #[.int .u64 t521, .int .u64 0]) ?_ 1 _ rfl; (with_reducible repeat (first | refine blk_drewN ?_ _ | refine blk_drew ?_ | refine blk_alloc ?_ _)); refine blk_put (cs := #[.int .u64 0, .int .u64 0]) ?_ 0 _ rfl; (with_reducible repeat (first | refine blk_drewN ?_ _ | refine blk_drew ?_ | refine blk_alloc ?_ _)); exact BK524.out⟩, ⟨by repeat (first | (with_reducible first | exact HB.out | apply below_alloc | apply pw_below_drewN | apply below_drew1 | refine below_set ?_ GE498.out | refine below_set ?_ GE499.out | refine below_set ?_ GE500.out | refine below_set ?_ GE504.out | refine below_set ?_ GE508.out | refine below_set ?_ GE516.out | refine below_set ?_ GE520.out | refine below_set ?_ GE524.out) | exact HB.out)⟩⟩
  ·rw [if_neg c76] at H
   have c76b0 : (t503 == 0) = false := beq_eq_false_iff_ne.mpr c76
   have c76b1 : (t503 != 0) = true := bne_iff_ne.mpr c76
   (first | rw [c76b0] | (simp only [i64_w, i32_w]; rw [c76b0]) | skip)
   have H' := Aside0.mk H
   clear H
   go_wp2
   go_meet
   case rel => exact ⟨_, (false), (by first | rfl | (simp; done) | (simp [*]; done)), H', ⟨by first | omega | exact Nat.le_refl _⟩, ⟨by (with_reducible repeat (first | refine blk_drewN ?_ _ | refine blk_drew ?_ | refine blk_alloc ?_ _)); refine blk_far ?_ NB498_524.out _; (with_reducible repeat (first | refine blk_drewN ?_ _ | refine blk_drew ?_ | refine blk_alloc ?_ _)); refine blk_far ?_ NB498_524.out _; (with_reducible repeat (first | refine blk_drewN ?_ _ | refine blk_drew ?_ | refine blk_alloc ?_ _)); exact BK498.out⟩, ⟨by (with_reducible repeat (first | refine blk_drewN ?_ _ | refine blk_drew ?_ | refine blk_alloc ?_ _)); refine blk_far ?_ NB499_524.out _; (with_reducible repeat (first | refine blk_drewN ?_ _ | refine blk_drew ?_ | refine blk_alloc ?_ _)); refine blk_far ?_ NB499_524.out _; (with_reducible repeat (first | refine blk_drewN ?_ _ | refine blk_drew ?_ | refine blk_alloc ?_ _)); exact BK499.out⟩, ⟨by (with_reducible repeat (first | refine blk_drewN ?_ _ | refine blk_drew ?_ | refine blk_alloc ?_ _)); refine blk_far ?_ NB500_524.out _; (with_reducible repeat (first | refine blk_drewN ?_ _ | refine blk_drew ?_ | refine blk_alloc ?_ _)); refine blk_far ?_ NB500_524.out _; (with_reducible repeat (first | refine blk_drewN ?_ _ | refine blk_drew ?_ | refine blk_alloc ?_ _)); exact BK500.out⟩, ⟨by (with_reducible repeat (first | refine blk_drewN ?_ _ | refine blk_drew ?_ | refine blk_alloc ?_ _)); refine blk_far ?_ NB504_524.out _; (with_reducible repeat (first | refine blk_drewN ?_ _ | refine blk_drew ?_ | refine blk_alloc ?_ _)); refine blk_far ?_ NB504_524.out _; (with_reducible repeat (first | refine blk_drewN ?_ _ | refine blk_drew ?_ | refine blk_alloc ?_ _)); exact BK504.out⟩, ⟨by (with_reducible repeat (first | refine blk_drewN ?_ _ | refine blk_drew ?_ | refine blk_alloc ?_ _)); refine blk_far ?_ NB508_524.out _; (with_reducible repeat (first | refine blk_drewN ?_ _ | refine blk_drew ?_ | refine blk_alloc ?_ _)); refine blk_far ?_ NB508_524.out _; (with_reducible repeat (first | refine blk_drewN ?_ _ | refine blk_drew ?_ | refine blk_alloc ?_ _)); exact BK508.out⟩, ⟨by (with_reducible repeat (first | refine blk_drewN ?_ _ | refine blk_drew ?_ | refine blk_alloc ?_ _)); refine blk_far ?_ NB516_524.out _; (with_reducible repeat (first | refine blk_drewN ?_ _ | refine blk_drew ?_ | refine blk_alloc ?_ _)); refine blk_far ?_ NB516_524.out _; (with_reducible repeat (first | refine blk_drewN ?_ _ | refine blk_drew ?_ | refine blk_alloc ?_ _)); exact BK516.out⟩, ⟨by (with_reducible repeat (first | refine blk_drewN ?_ _ | refine blk_drew ?_ | refine blk_alloc ?_ _)); refine blk_far ?_ NB520_524.out _; (with_reducible repeat (first | refine blk_drewN ?_ _ | refine blk_drew ?_ | refine blk_alloc ?_ _)); refine blk_far ?_ NB520_524.out _; (with_reducible repeat (first | refine blk_drewN ?_ _ | refine blk_drew ?_ | refine blk_alloc ?_ _)); exact BK520.out⟩, ⟨by (with_reducible repeat (first | refine blk_drewN ?_ _ | refine blk_drew ?_ | refine blk_alloc ?_ _)); refine blk_put (cs := #[.int .u64 t521, .int .u64 0]) ?_ 1 _ rfl; (with_reducible repeat (first | refine blk_drewN ?_ _ | refine blk_drew ?_ | refine blk_alloc ?_ _)); refine blk_put (cs := #[.int .u64 0, .int .u64 0]) ?_ 0 _ rfl; (with_reducible repeat (first | refine blk_drewN ?_ _ | refine blk_drew ?_ | refine blk_alloc ?_ _)); exact BK524.out⟩, ⟨by repeat (first | (with_reducible first | exact HB.out | apply below_alloc | apply pw_below_drewN | apply below_drew1 | refine below_set ?_ GE498.out | refine below_set ?_ GE499.out | refine below_set ?_ GE500.out | refine below_set ?_ GE504.out | refine below_set ?_ GE508.out | refine below_set ?_ GE516.out | refine below_set ?_ GE520.out | refine below_set ?_ GE524.out) | exact HB.out)⟩⟩
 case rest =>
  clear HC17
  try clear c1
  try clear c2
  try clear p2
  try clear c3
  try clear c4
  try clear c5
  try clear c6
  try clear c7
  try clear c8
  try clear c9
  try clear c9b0
  try clear c9b1
  try clear c10
  try clear c10b0
  try clear c12
  try clear c13
  try clear c13b0
  try clear c21
  try clear c22
  try clear c24
  try clear c28
  try clear c29
  try clear c30
  try clear c36
  try clear c37
  try clear c38
  try clear c39
  try clear c48
  try clear c49
  try clear c50
  try clear c51
  try clear c52
  try clear c58
  try clear c59
  try clear c60
  try clear c61
  try clear c62
  try clear c63
  try clear c68
  try clear c69
  try clear c70
  try clear c71
  try clear c72
  try clear c73
  try clear c74
  try clear c76
  try clear c76b0
  try clear c76b1
  try clear c77
  try clear c77b0
  try clear c77b1
  try clear c78
  try clear c78b0
  try clear c78b1
  try clear c79
  try clear c79b0
  try clear c79b1
  try clear c80
  try clear c81
  try clear c82
  try clear c83
  try clear c84
  try clear c85
  try clear c86
  try clear c88
  try clear c89
  try clear c90
  try clear c91
  try clear c92
  try clear c93
  try clear hcz23_0
  try clear hcz23_1
  try clear hcz25_0
  try clear hcz25_1
  try clear hcz31_0
  try clear hcz31_1
  try clear hcz32_0
  try clear hcz32_1
  try clear hcz33_0
  try clear hcz33_1
  try clear hcz40_0
  try clear hcz40_1
  try clear hcz41_0
  try clear hcz41_1
  try clear hcz44_0
  try clear hcz44_1
  try clear hcz45_0
  try clear hcz45_1
  try clear hcz53_0
  try clear hcz53_1
  try clear hcz54_0
  try clear hcz54_1
  try clear hcz55_0
  try clear hcz55_1
  try clear hcz64_0
  try clear hcz64_1
  try clear hcz65_0
  try clear hcz65_1
  try clear hcz75_0
  try clear hcz75_1
  try clear hcz87_0
  try clear hcz87_1
  try clear hcz94_0
  try clear hcz94_1
  try clear hfz23_0
  try clear hfz23_1
  try clear hfz25_0
  try clear hfz25_1
  try clear hfz31_0
  try clear hfz31_1
  try clear hfz32_0
  try clear hfz32_1
  try clear hfz33_0
  try clear hfz33_1
  try clear hfz40_0
  try clear hfz40_1
  try clear hfz41_0
  try clear hfz41_1
  try clear hfz44_0
  try clear hfz44_1
  try clear hfz45_0
  try clear hfz45_1
  try clear hfz53_0
  try clear hfz53_1
  try clear hfz54_0
  try clear hfz54_1
  try clear hfz55_0
  try clear hfz55_1
  try clear hfz64_0
  try clear hfz64_1
  try clear hfz65_0
  try clear hfz65_1
  try clear hfz75_0
  try clear hfz75_1
  try clear hfz87_0
  try clear hfz87_1
  try clear hfz94_0
  try clear hfz94_1
  obtain ⟨kq, x90_16, rfl, HA, HJ16, BK498, BK499, BK500, BK504, BK508, BK516, BK520, BK524, HB⟩ := hcut
  cases kq with
  | zero => exact absurd HA.out (by simp [spigotlaw01_WideRules.j0])
  | succ kj16 =>
   have H := HA.out
   clear HA
   simp only [spigotlaw01_WideRules.j0] at H
   by_cases c95 : x90_16 = true
   ·subst c95
    have H1 : (none) = some r := by rw [if_pos rfl] at H; exact H
    clear H
    have H := H1
    clear H1
    exact absurd H (by simp)
   ·replace c95 := Bool.eq_false_iff.mpr c95
    subst c95
    have H1 : ((wide_Mul.f a3 (IntKind.u64.wrap (Int.tdiv a4 2))).bind fun bt525 => ((wide_Mul.f a3 (IntKind.u64.wrap (Int.tdiv a5 2))).bind fun bt527 => ((wide_Add.f bt525.1 bt525.2 bt527.1 bt527.2).bind fun bt529 => (if bt529.2.2 = 0 then ((wide_Mul.f a3 (IntKind.u64.wrap ((IntKind.u64.wrap (Int.tdiv a4 2)) + (IntKind.u64.wrap (Int.tdiv a5 2))))).bind fun bt533 => (if (bt529.1 == bt533.1 && (bt529.2.1 == bt533.2)) = true then ((spigotlaw01_alive.f kj16).bind fun t535 => (some t535)) else (none))) else (none))))) = some r := by rw [if_neg (show ¬ (false = true) by decide)] at H; exact H
    clear H
    have H := H1
    clear H1
    replace H := Option.bind_eq_some_iff.mp H
    obtain ⟨⟨t525, t526⟩, A960, H⟩ := H
    try dsimp only at H
    have A96 := Aside0.mk A960
    clear A960
    replace H := Option.bind_eq_some_iff.mp H
    obtain ⟨⟨t527, t528⟩, A970, H⟩ := H
    try dsimp only at H
    have A97 := Aside0.mk A970
    clear A970
    replace H := Option.bind_eq_some_iff.mp H
    obtain ⟨⟨t529, t530, t531⟩, A980, H⟩ := H
    try dsimp only at H
    have A98 := Aside0.mk A980
    clear A980
    by_cases c99 : t531 = 0
    rotate_left
    ·rw [if_neg c99] at H; exact absurd H (by simp)
    rw [if_pos c99] at H
    have c99b0 : (t531 == 0) = true := beq_iff_eq.mpr c99
    have c99b1 : (t531 != 0) = false := bne_eq_false_iff_eq.mpr c99
    clear c99
    replace H := Option.bind_eq_some_iff.mp H
    obtain ⟨⟨t533, t534⟩, A1000, H⟩ := H
    replace H : (if (t529 == t533 && (t530 == t534)) = true then ((spigotlaw01_alive.f kj16).bind fun t535 => (some t535)) else (none)) = some r := H
    have A100 := Aside0.mk A1000
    clear A1000
    by_cases c101 : (t529 == t533 && (t530 == t534)) = true
    rotate_left
    ·rw [if_neg c101] at H; exact absurd H (by simp)
    rw [if_pos c101] at H
    have c101b0 : (t529 == t533 && (t530 == t534)) = true := c101
    (try (have c101b1 : decide (t529 = t533 && (t530 == t534)) = true := by simpa using c101))
    (try (have c101b2 : (t529 == t533 && (t530 == t534)) = true := by simpa using c101))
    clear c101
    replace H := Option.bind_eq_some_iff.mp H
    obtain ⟨t535, A1020, H⟩ := H
    replace H : (some t535) = some r := H
    have A102 := Aside0.mk A1020
    clear A1020
    obtain rfl := Option.some.inj H
    try go_wp2_with (first | ((with_reducible refine gate_callee (f := 37) rfl ?_); refine goesL_ (some 98) rfl rfl Try.func37 (by kernel_rfl) rfl #[.int .u64 a3, .int .u64 (IntKind.u64.wrap (Int.tdiv a4 2))] rfl (by (try simp only [List.map_toArray, List.map_cons, List.map_nil]); first | done | rfl | (simp only [List.length_drop, List.length_take]; rfl)) ?_; (with_reducible refine (wide_Mul.calls a3 (IntKind.u64.wrap (Int.tdiv a4 2)) t525 t526 _ A96.out).mono ?_); rintro e w103 ⟨rfl, hb⟩; refine ⟨_, rfl, ?_⟩; replace BK498 := bb_ BK498 hb; replace BK499 := bb_ BK499 hb; replace BK500 := bb_ BK500 hb; replace BK504 := bb_ BK504 hb; replace BK508 := bb_ BK508 hb; replace BK516 := bb_ BK516 hb; replace BK520 := bb_ BK520 hb; replace BK524 := bb_ BK524 hb; replace HB := Aside0.mk (below_step (by repeat (first | (with_reducible first | exact HB.out | apply below_alloc | apply pw_below_drewN | apply below_drew1 | refine below_set ?_ (Aside0.out (by assumption))) | exact HB.out)) hb); (try clear hb); (try clear hb2); (try clear hk); (try clear hi)) | ((with_reducible refine gate_callee (f := 37) rfl ?_); refine goesL_ (some 101) rfl rfl Try.func37 (by kernel_rfl) rfl #[.int .u64 a3, .int .u64 (IntKind.u64.wrap (Int.tdiv a5 2))] rfl (by (try simp only [List.map_toArray, List.map_cons, List.map_nil]); first | done | rfl | (simp only [List.length_drop, List.length_take]; rfl)) ?_; (with_reducible refine (wide_Mul.calls a3 (IntKind.u64.wrap (Int.tdiv a5 2)) t527 t528 _ A97.out).mono ?_); rintro e w104 ⟨rfl, hb⟩; refine ⟨_, rfl, ?_⟩; replace BK498 := bb_ BK498 hb; replace BK499 := bb_ BK499 hb; replace BK500 := bb_ BK500 hb; replace BK504 := bb_ BK504 hb; replace BK508 := bb_ BK508 hb; replace BK516 := bb_ BK516 hb; replace BK520 := bb_ BK520 hb; replace BK524 := bb_ BK524 hb; replace HB := Aside0.mk (below_step (by repeat (first | (with_reducible first | exact HB.out | apply below_alloc | apply pw_below_drewN | apply below_drew1 | refine below_set ?_ (Aside0.out (by assumption))) | exact HB.out)) hb); (try clear hb); (try clear hb2); (try clear hk); (try clear hi)) | ((with_reducible refine gate_callee (f := 24) rfl ?_); refine goesL_ (some 102) rfl rfl Try.func24 (by kernel_rfl) rfl #[.agg #[.int .u64 t525, .int .u64 t526], .agg #[.int .u64 t527, .int .u64 t528]] rfl (by (try simp only [List.map_toArray, List.map_cons, List.map_nil]); first | done | rfl | (simp only [List.length_drop, List.length_take]; rfl)) ?_; (with_reducible refine (wide_Add.calls t525 t526 t527 t528 t529 t530 t531 _ A98.out).mono ?_); rintro e w105 ⟨rfl, hb⟩; refine ⟨_, rfl, ?_⟩; replace BK498 := bb_ BK498 hb; replace BK499 := bb_ BK499 hb; replace BK500 := bb_ BK500 hb; replace BK504 := bb_ BK504 hb; replace BK508 := bb_ BK508 hb; replace BK516 := bb_ BK516 hb; replace BK520 := bb_ BK520 hb; replace BK524 := bb_ BK524 hb; replace HB := Aside0.mk (below_step (by repeat (first | (with_reducible first | exact HB.out | apply below_alloc | apply pw_below_drewN | apply below_drew1 | refine below_set ?_ (Aside0.out (by assumption))) | exact HB.out)) hb); (try clear hb); (try clear hb2); (try clear hk); (try clear hi)) | ((with_reducible refine gate_dst (N := 23) rfl ?_); refine box_event ?hg (N := 23) ?hd (cs := #[.int .u64 0, .int .u64 0]) (t := 46) ?hr ?_; (case hd => rfl); (case hg => rfl); (case hr => first | (go_simp; done) | (go_simp; rfl)); intro gb532 hg w106 hbox hb; have BK532 := Aside0.mk (hbox); have GW532 := Aside0.mk ((by rw [hg]; exact (below_size (by repeat (first | (with_reducible first | exact HB.out | apply below_alloc | apply pw_below_drewN | apply below_drew1 | refine below_set ?_ (Aside0.out (by assumption))) | exact HB.out))) : w.heap.size ≤ gb532)); have GE532 := GW532; have NB498_532 := bn_ BK498 hg; have NB532_498 := bm_ BK498 hg; have NB499_532 := bn_ BK499 hg; have NB532_499 := bm_ BK499 hg; have NB500_532 := bn_ BK500 hg; have NB532_500 := bm_ BK500 hg; have NB504_532 := bn_ BK504 hg; have NB532_504 := bm_ BK504 hg; have NB508_532 := bn_ BK508 hg; have NB532_508 := bm_ BK508 hg; have NB516_532 := bn_ BK516 hg; have NB532_516 := bm_ BK516 hg; have NB520_532 := bn_ BK520 hg; have NB532_520 := bm_ BK520 hg; have NB524_532 := bn_ BK524 hg; have NB532_524 := bm_ BK524 hg; replace BK498 := bb_ BK498 hb; replace BK499 := bb_ BK499 hb; replace BK500 := bb_ BK500 hb; replace BK504 := bb_ BK504 hb; replace BK508 := bb_ BK508 hb; replace BK516 := bb_ BK516 hb; replace BK520 := bb_ BK520 hb; replace BK524 := bb_ BK524 hb; replace HB := Aside0.mk (below_step (by repeat (first | (with_reducible first | exact HB.out | apply below_alloc | apply pw_below_drewN | apply below_drew1 | refine below_set ?_ (Aside0.out (by assumption))) | exact HB.out)) hb); clear hb hbox hg; have hnb107 := NB532_498.out; have hnc107 := NB498_532.out; have hnb108 := NB532_499.out; have hnc108 := NB499_532.out; have hnb109 := NB532_500.out; have hnc109 := NB500_532.out; have hnb110 := NB532_504.out; have hnc110 := NB504_532.out; have hnb111 := NB532_508.out; have hnc111 := NB508_532.out; have hnb112 := NB532_516.out; have hnc112 := NB516_532.out; have hnb113 := NB532_520.out; have hnc113 := NB520_532.out; have hnb114 := NB532_524.out; have hnc114 := NB524_532.out; have hcz115_0 : w106.cell? ⟨gb532, 0, none⟩ = some (.int .u64 0) := (blk_cell BK532.out 0).trans rfl; have hcz115_1 : w106.cell? ⟨gb532, 1, none⟩ = some (.int .u64 0) := (blk_cell BK532.out 1).trans rfl; have hfz115_0 := blk_frozen BK532.out 0; have hfz115_1 := blk_frozen BK532.out 1))
    have n0_ : Aside0 (((w106.setCell ⟨gb532, 0, none⟩ (.int .u64 t529)).setCell ⟨gb532, 1, none⟩ (.int .u64 t530)).heap[gb498]? = some (.cells #[.int .u64 a0_0, .int .u64 a0_1] 46 (0, 0))) := ⟨by (with_reducible repeat (first | refine blk_drewN ?_ _ | refine blk_drew ?_ | refine blk_alloc ?_ _)); refine blk_far ?_ NB498_532.out _; (with_reducible repeat (first | refine blk_drewN ?_ _ | refine blk_drew ?_ | refine blk_alloc ?_ _)); refine blk_far ?_ NB498_532.out _; (with_reducible repeat (first | refine blk_drewN ?_ _ | refine blk_drew ?_ | refine blk_alloc ?_ _)); exact BK498.out⟩
    have n1_ : Aside0 (((w106.setCell ⟨gb532, 0, none⟩ (.int .u64 t529)).setCell ⟨gb532, 1, none⟩ (.int .u64 t530)).heap[gb499]? = some (.cells #[.int .u64 a1_0, .int .u64 a1_1] 46 (0, 0))) := ⟨by (with_reducible repeat (first | refine blk_drewN ?_ _ | refine blk_drew ?_ | refine blk_alloc ?_ _)); refine blk_far ?_ NB499_532.out _; (with_reducible repeat (first | refine blk_drewN ?_ _ | refine blk_drew ?_ | refine blk_alloc ?_ _)); refine blk_far ?_ NB499_532.out _; (with_reducible repeat (first | refine blk_drewN ?_ _ | refine blk_drew ?_ | refine blk_alloc ?_ _)); exact BK499.out⟩
    have n2_ : Aside0 (((w106.setCell ⟨gb532, 0, none⟩ (.int .u64 t529)).setCell ⟨gb532, 1, none⟩ (.int .u64 t530)).heap[gb500]? = some (.cells #[.int .u64 a2_0, .int .u64 a2_1] 46 (0, 0))) := ⟨by (with_reducible repeat (first | refine blk_drewN ?_ _ | refine blk_drew ?_ | refine blk_alloc ?_ _)); refine blk_far ?_ NB500_532.out _; (with_reducible repeat (first | refine blk_drewN ?_ _ | refine blk_drew ?_ | refine blk_alloc ?_ _)); refine blk_far ?_ NB500_532.out _; (with_reducible repeat (first | refine blk_drewN ?_ _ | refine blk_drew ?_ | refine blk_alloc ?_ _)); exact BK500.out⟩
    have n3_ : Aside0 (((w106.setCell ⟨gb532, 0, none⟩ (.int .u64 t529)).setCell ⟨gb532, 1, none⟩ (.int .u64 t530)).heap[gb504]? = some (.cells #[.int .u64 t501, .int .u64 t502] 46 (0, 0))) := ⟨by (with_reducible repeat (first | refine blk_drewN ?_ _ | refine blk_drew ?_ | refine blk_alloc ?_ _)); refine blk_far ?_ NB504_532.out _; (with_reducible repeat (first | refine blk_drewN ?_ _ | refine blk_drew ?_ | refine blk_alloc ?_ _)); refine blk_far ?_ NB504_532.out _; (with_reducible repeat (first | refine blk_drewN ?_ _ | refine blk_drew ?_ | refine blk_alloc ?_ _)); exact BK504.out⟩
    have n4_ : Aside0 (((w106.setCell ⟨gb532, 0, none⟩ (.int .u64 t529)).setCell ⟨gb532, 1, none⟩ (.int .u64 t530)).heap[gb508]? = some (.cells #[.int .u64 t505, .int .u64 t506] 46 (0, 0))) := ⟨by (with_reducible repeat (first | refine blk_drewN ?_ _ | refine blk_drew ?_ | refine blk_alloc ?_ _)); refine blk_far ?_ NB508_532.out _; (with_reducible repeat (first | refine blk_drewN ?_ _ | refine blk_drew ?_ | refine blk_alloc ?_ _)); refine blk_far ?_ NB508_532.out _; (with_reducible repeat (first | refine blk_drewN ?_ _ | refine blk_drew ?_ | refine blk_alloc ?_ _)); exact BK508.out⟩
    have n5_ : Aside0 (((w106.setCell ⟨gb532, 0, none⟩ (.int .u64 t529)).setCell ⟨gb532, 1, none⟩ (.int .u64 t530)).heap[gb516]? = some (.cells #[.int .u64 t513, .int .u64 t514] 46 (0, 0))) := ⟨by (with_reducible repeat (first | refine blk_drewN ?_ _ | refine blk_drew ?_ | refine blk_alloc ?_ _)); refine blk_far ?_ NB516_532.out _; (with_reducible repeat (first | refine blk_drewN ?_ _ | refine blk_drew ?_ | refine blk_alloc ?_ _)); refine blk_far ?_ NB516_532.out _; (with_reducible repeat (first | refine blk_drewN ?_ _ | refine blk_drew ?_ | refine blk_alloc ?_ _)); exact BK516.out⟩
    have n6_ : Aside0 (((w106.setCell ⟨gb532, 0, none⟩ (.int .u64 t529)).setCell ⟨gb532, 1, none⟩ (.int .u64 t530)).heap[gb520]? = some (.cells #[.int .u64 t517, .int .u64 t518] 46 (0, 0))) := ⟨by (with_reducible repeat (first | refine blk_drewN ?_ _ | refine blk_drew ?_ | refine blk_alloc ?_ _)); refine blk_far ?_ NB520_532.out _; (with_reducible repeat (first | refine blk_drewN ?_ _ | refine blk_drew ?_ | refine blk_alloc ?_ _)); refine blk_far ?_ NB520_532.out _; (with_reducible repeat (first | refine blk_drewN ?_ _ | refine blk_drew ?_ | refine blk_alloc ?_ _)); exact BK520.out⟩
    have n7_ : Aside0 (((w106.setCell ⟨gb532, 0, none⟩ (.int .u64 t529)).setCell ⟨gb532, 1, none⟩ (.int .u64 t530)).heap[gb524]? = some (.cells #[.int .u64 t521, .int .u64 t522] 46 (0, 0))) := ⟨by (with_reducible repeat (first | refine blk_drewN ?_ _ | refine blk_drew ?_ | refine blk_alloc ?_ _)); refine blk_far ?_ NB524_532.out _; (with_reducible repeat (first | refine blk_drewN ?_ _ | refine blk_drew ?_ | refine blk_alloc ?_ _)); refine blk_far ?_ NB524_532.out _; (with_reducible repeat (first | refine blk_drewN ?_ _ | refine blk_drew ?_ | refine blk_alloc ?_ _)); exact BK524.out⟩
    have n8_ : Aside0 (((w106.setCell ⟨gb532, 0, none⟩ (.int .u64 t529)).setCell ⟨gb532, 1, none⟩ (.int .u64 t530)).heap[gb532]? = some (.cells #[.int .u64 t529, .int .u64 t530] 46 (0, 0))) := ⟨by (with_reducible repeat (first | refine blk_drewN ?_ _ | refine blk_drew ?_ | refine blk_alloc ?_ _)); refine blk_put (cs := #[.int .u64 t529, .int .u64 0]) ?_ 1 _ rfl; (with_reducible repeat (first | refine blk_drewN ?_ _ | refine blk_drew ?_ | refine blk_alloc ?_ _)); refine blk_put (cs := #[.int .u64 0, .int .u64 0]) ?_ 0 _ rfl; (with_reducible repeat (first | refine blk_drewN ?_ _ | refine blk_drew ?_ | refine blk_alloc ?_ _)); exact BK532.out⟩
    have n9_ : Aside0 (Below w.heap.size w ((w106.setCell ⟨gb532, 0, none⟩ (.int .u64 t529)).setCell ⟨gb532, 1, none⟩ (.int .u64 t530))) := ⟨by repeat (first | (with_reducible first | exact HB.out | apply below_alloc | apply pw_below_drewN | apply below_drew1 | refine below_set ?_ GE498.out | refine below_set ?_ GE499.out | refine below_set ?_ GE500.out | refine below_set ?_ GE504.out | refine below_set ?_ GE508.out | refine below_set ?_ GE516.out | refine below_set ?_ GE520.out | refine below_set ?_ GE524.out | refine below_set ?_ GE532.out) | exact HB.out)⟩
    (try clear BK498)
    (try clear BK499)
    (try clear BK500)
    (try clear BK504)
    (try clear BK508)
    (try clear BK516)
    (try clear BK520)
    (try clear BK524)
    (try clear BK532)
    (try clear HB)
    generalize ((w106.setCell ⟨gb532, 0, none⟩ (.int .u64 t529)).setCell ⟨gb532, 1, none⟩ (.int .u64 t530)) = w116 at n0_ n1_ n2_ n3_ n4_ n5_ n6_ n7_ n8_ n9_ ⊢
    have BK498 := n0_
    have BK499 := n1_
    have BK500 := n2_
    have BK504 := n3_
    have BK508 := n4_
    have BK516 := n5_
    have BK520 := n6_
    have BK524 := n7_
    have BK532 := n8_
    have HB := n9_
    clear n0_ n1_ n2_ n3_ n4_ n5_ n6_ n7_ n8_ n9_
    replace BK498 := Aside0.mk (blk_drew BK498.out)
    replace BK499 := Aside0.mk (blk_drew BK499.out)
    replace BK500 := Aside0.mk (blk_drew BK500.out)
    replace BK504 := Aside0.mk (blk_drew BK504.out)
    replace BK508 := Aside0.mk (blk_drew BK508.out)
    replace BK516 := Aside0.mk (blk_drew BK516.out)
    replace BK520 := Aside0.mk (blk_drew BK520.out)
    replace BK524 := Aside0.mk (blk_drew BK524.out)
    replace BK532 := Aside0.mk (blk_drew BK532.out)
    replace HB := Aside0.mk (below_drew1 HB.out)
    refine start_ (n := 15) (S := fun w' => w'.cell? ⟨gb532, 0, none⟩ = some (.int .u64 t529) ∧ w'.cell? ⟨gb532, 1, none⟩ = some (.int .u64 t530)) (ds := []) #[false, false, false, false, false, false, false, false, false, false, false, false, false, false, false] (by kernel_rfl) rfl rfl ⟨(blk_cell BK532.out 0).trans rfl, (blk_cell BK532.out 1).trans rfl⟩ (fun hHeld => ?_); refine with_tabW spigotlaw01_WideRules.tab12 spigotlaw01_WideRules.bits12 (fun HT_ HW_ => ?_)
    generalize w116.drew = w117 at BK498 BK499 BK500 BK504 BK508 BK516 BK520 BK524 BK532 HB hHeld ⊢
    refine pure_ (i := 0) (N := some 105) (v := ?_) (a' := ?_) #[true, false, false, false, false, false, false, false, false, false, false, false, false, false, false] rfl rfl (any_of HT_.out (by kernel_rfl)) (fun _ _ _ h => h) (Or.inl ⟨by rfl, ?_⟩) ?_ ?_
    rotate_left
    ·intro w'
     go_simp
     with_reducible rfl
    rotate_left
    ·simp only [Act.put, List.setIfInBounds_toArray, List.set_cons_zero, List.set_cons_succ, i64_w, i32_w]
     rfl
    refine pure_ (i := 1) (N := some 106) (v := ?_) (a' := ?_) #[true, true, false, false, false, false, false, false, false, false, false, false, false, false, false] rfl rfl (any_of HT_.out (by kernel_rfl)) (fun _ _ _ h => h) (Or.inl ⟨by rfl, ?_⟩) ?_ ?_
    rotate_left
    ·intro w'
     go_simp
     with_reducible rfl
    rotate_left
    ·simp only [Act.put, List.setIfInBounds_toArray, List.set_cons_zero, List.set_cons_succ, i64_w, i32_w]
     rfl
    refine pure_ (i := 2) (N := some 107) (v := ?_) (a' := ?_) #[true, true, true, false, false, false, false, false, false, false, false, false, false, false, false] rfl rfl (any_of HT_.out (by kernel_rfl)) (fun _ _ _ h => h) (Or.inl ⟨by rfl, ?_⟩) ?_ ?_
    rotate_left
    ·intro w'
     go_simp
     with_reducible rfl
    rotate_left
    ·simp only [Act.put, List.setIfInBounds_toArray, List.set_cons_zero, List.set_cons_succ, i64_w, i32_w]
     rfl
    refine pure_ (i := 4) (N := some 109) (v := ?_) (a' := ?_) #[true, true, true, false, true, false, false, false, false, false, false, false, false, false, false] rfl rfl (any_of HT_.out (by kernel_rfl)) (fun _ _ _ h => h) (Or.inl ⟨by rfl, ?_⟩) ?_ ?_
    rotate_left
    ·intro w'
     go_simp
     with_reducible rfl
    rotate_left
    ·simp only [Act.put, List.setIfInBounds_toArray, List.set_cons_zero, List.set_cons_succ, i64_w, i32_w]
     rfl
    refine pure_ (i := 5) (N := some 110) (v := ?_) (a' := ?_) #[true, true, true, false, true, true, false, false, false, false, false, false, false, false, false] rfl rfl (any_of HT_.out (by kernel_rfl)) (fun _ _ _ h => h) (Or.inl ⟨by rfl, ?_⟩) ?_ ?_
    rotate_left
    ·intro w'
     go_simp
     with_reducible rfl
    rotate_left
    ·simp only [Act.put, List.setIfInBounds_toArray, List.set_cons_zero, List.set_cons_succ, i64_w, i32_w]
     rfl
    refine pure_ (i := 6) (N := some 111) (v := ?_) (a' := ?_) #[true, true, true, false, true, true, true, false, false, false, false, false, false, false, false] rfl rfl (any_of HT_.out (by kernel_rfl)) (fun _ _ _ h => h) (Or.inl ⟨by rfl, ?_⟩) ?_ ?_
    rotate_left
    ·intro w'
     go_simp
     with_reducible rfl
    rotate_left
    ·simp only [Act.put, List.setIfInBounds_toArray, List.set_cons_zero, List.set_cons_succ, i64_w, i32_w]
     rfl
    refine pure_ (i := 7) (N := some 112) (v := ?_) (a' := ?_) #[true, true, true, false, true, true, true, true, false, false, false, false, false, false, false] rfl rfl (any_of HT_.out (by kernel_rfl)) (fun _ _ _ h => h) (Or.inl ⟨by rfl, ?_⟩) ?_ ?_
    rotate_left
    ·intro w'
     go_simp
     with_reducible rfl
    rotate_left
    ·simp only [Act.put, List.setIfInBounds_toArray, List.set_cons_zero, List.set_cons_succ, i64_w, i32_w]
     rfl
    refine take_ (i := 3) (N := some 108) (v := ?_) (a' := ?_) #[true, true, true, true, true, true, true, true, false, false, false, false, false, false, false] rfl rfl (take_ofW HT_.out HW_.out (by kernel_rfl)) (fun _ _ _ h => h) (Or.inl ⟨by rfl, ?_⟩) hHeld ?_ ?_
    rotate_left
    ·rintro w' ⟨s0, s1⟩
     go_simp
     with_reducible rfl
    rotate_left
    ·simp only [Act.put, List.setIfInBounds_toArray, List.set_cons_zero, List.set_cons_succ, i64_w, i32_w]
     rfl
    refine one_ (i := 8) (N := some 113) #[true, true, true, true, true, true, true, true, true, false, false, false, false, false, false] rfl rfl (one_of HT_.out (by kernel_rfl)) (by decide) (fun K hK => ?_)
    refine goes_ Try.func37 (by kernel_rfl) rfl #[.int .u64 a3, .int .u64 (IntKind.u64.wrap ((IntKind.u64.wrap (Int.tdiv a4 2)) + (IntKind.u64.wrap (Int.tdiv a5 2))))] (by rfl) rfl rfl (by (try simp only [List.map_toArray, List.map_cons, List.map_nil]); first | done | rfl | (simp only [List.length_drop, List.length_take]; rfl)) ?_
    with_reducible refine (wide_Mul.calls a3 (IntKind.u64.wrap ((IntKind.u64.wrap (Int.tdiv a4 2)) + (IntKind.u64.wrap (Int.tdiv a5 2)))) t533 t534 _ A100.out).mono ?_
    rintro e w118 ⟨rfl, hb⟩
    refine ⟨_, rfl, ?_⟩
    replace BK498 := bb_ BK498 hb
    replace BK499 := bb_ BK499 hb
    replace BK500 := bb_ BK500 hb
    replace BK504 := bb_ BK504 hb
    replace BK508 := bb_ BK508 hb
    replace BK516 := bb_ BK516 hb
    replace BK520 := bb_ BK520 hb
    replace BK524 := bb_ BK524 hb
    replace BK532 := bb_ BK532 hb
    replace HB := Aside0.mk (below_step (by repeat (first | (with_reducible first | exact HB.out | apply below_alloc | apply pw_below_drewN | apply below_drew1 | refine below_set ?_ (Aside0.out (by assumption))) | exact HB.out)) hb)
    (try clear hb)
    (try clear hb2)
    (try clear hk)
    (try clear hi)
    refine hK.out _ _ ⟨(blk_cell BK532.out 0).trans rfl, (blk_cell BK532.out 1).trans rfl⟩ (fun hHeld => ?_)
    clear hK K
    refine norm_ (a' := ?_) ?_ ?_
    rotate_left
    ·show Act.put _ (some 113) _ = _
     simp only [Act.put, List.setIfInBounds_toArray, List.set_cons_zero, List.set_cons_succ, i64_w, i32_w]
     rfl
    refine pure_ (i := 9) (N := some 114) (v := ?_) (a' := ?_) #[true, true, true, true, true, true, true, true, true, true, false, false, false, false, false] rfl rfl (any_of HT_.out (by kernel_rfl)) (fun _ _ _ h => h) (Or.inl ⟨by rfl, ?_⟩) ?_ ?_
    rotate_left
    ·intro w'
     go_simp
     with_reducible rfl
    rotate_left
    ·simp only [Act.put, List.setIfInBounds_toArray, List.set_cons_zero, List.set_cons_succ, i64_w, i32_w]
     rfl
    refine pure_ (i := 10) (N := some 115) (v := ?_) (a' := ?_) #[true, true, true, true, true, true, true, true, true, true, true, false, false, false, false] rfl rfl (any_of HT_.out (by kernel_rfl)) (fun _ _ _ h => h) (Or.inl ⟨by rfl, ?_⟩) ?_ ?_
    rotate_left
    ·intro w'
     go_simp
     with_reducible rfl
    rotate_left
    ·simp only [Act.put, List.setIfInBounds_toArray, List.set_cons_zero, List.set_cons_succ, i64_w, i32_w]
     rfl
    refine pure_ (i := 11) (N := some 116) (v := ?_) (a' := ?_) #[true, true, true, true, true, true, true, true, true, true, true, true, false, false, false] rfl rfl (any_of HT_.out (by kernel_rfl)) (fun _ _ _ h => h) (Or.inl ⟨by rfl, ?_⟩) ?_ ?_
    rotate_left
    ·intro w'
     go_simp
     with_reducible rfl
    rotate_left
    ·simp only [Act.put, List.setIfInBounds_toArray, List.set_cons_zero, List.set_cons_succ, i64_w, i32_w]
     rfl
    refine one_ (i := 12) (N := some 117) #[true, true, true, true, true, true, true, true, true, true, true, true, true, false, false] rfl rfl (one_of HT_.out (by kernel_rfl)) (by decide) (fun K hK => ?_)
    refine goes_ Try.func39 (by kernel_rfl) rfl #[] (by rfl) rfl rfl (by (try simp only [List.map_toArray, List.map_cons, List.map_nil]); first | done | rfl | (simp only [List.length_drop, List.length_take]; rfl)) ?_
    with_reducible refine (spigotlaw01_alive.calls kj16  t535 _ A102.out).mono ?_
    rintro e w119 ⟨rfl, hb⟩
    refine ⟨_, rfl, ?_⟩
    replace BK498 := bb_ BK498 hb
    replace BK499 := bb_ BK499 hb
    replace BK500 := bb_ BK500 hb
    replace BK504 := bb_ BK504 hb
    replace BK508 := bb_ BK508 hb
    replace BK516 := bb_ BK516 hb
    replace BK520 := bb_ BK520 hb
    replace BK524 := bb_ BK524 hb
    replace BK532 := bb_ BK532 hb
    replace HB := Aside0.mk (below_step (by repeat (first | (with_reducible first | exact HB.out | apply below_alloc | apply pw_below_drewN | apply below_drew1 | refine below_set ?_ (Aside0.out (by assumption))) | exact HB.out)) hb)
    (try clear hb)
    (try clear hb2)
    (try clear hk)
    (try clear hi)
    refine hK.out _ _ ⟨(blk_cell BK532.out 0).trans rfl, (blk_cell BK532.out 1).trans rfl⟩ (fun hHeld => ?_)
    clear hK K
    refine norm_ (a' := ?_) ?_ ?_
    rotate_left
    ·show Act.put _ (some 117) _ = _
     simp only [Act.put, List.setIfInBounds_toArray, List.set_cons_zero, List.set_cons_succ, i64_w, i32_w]
     rfl
    refine pure_ (i := 13) (N := some 118) (v := ?_) (a' := ?_) #[true, true, true, true, true, true, true, true, true, true, true, true, true, true, false] rfl rfl (any_of HT_.out (by kernel_rfl)) (fun _ _ _ h => h) (Or.inl ⟨by rfl, ?_⟩) ?_ ?_
    rotate_left
    ·intro w'
     go_simp
     with_reducible rfl
    rotate_left
    ·simp only [Act.put, List.setIfInBounds_toArray, List.set_cons_zero, List.set_cons_succ, i64_w, i32_w]
     rfl
    refine pure_ (i := 14) (N := some 12) (v := ?_) (a' := ?_) #[true, true, true, true, true, true, true, true, true, true, true, true, true, true, true] rfl rfl (any_of HT_.out (by kernel_rfl)) (fun _ _ _ h => h) (Or.inl ⟨by rfl, ?_⟩) ?_ ?_
    rotate_left
    ·intro w'
     go_simp
     with_reducible rfl
    rotate_left
    ·simp only [Act.put, List.setIfInBounds_toArray, List.set_cons_zero, List.set_cons_succ, i64_w, i32_w]
     rfl
    refine done_ (done_of HT_.out (by kernel_rfl)) ?_
    try go_wp2
    go_ret
    exact ⟨by first | rfl | (simp [errW_none, errW_some] <;> rfl) | (simp [*, errW_none, errW_some] <;> rfl), by repeat (first | (with_reducible first | exact HB.out | apply below_alloc | apply pw_below_drewN | apply below_drew1 | refine below_set ?_ GE498.out | refine below_set ?_ GE499.out | refine below_set ?_ GE500.out | refine below_set ?_ GE504.out | refine below_set ?_ GE508.out | refine below_set ?_ GE516.out | refine below_set ?_ GE520.out | refine below_set ?_ GE524.out | refine below_set ?_ GE532.out) | exact HB.out)⟩

end Go.Proofs.Ytcdmjdghmbdikaa.X
