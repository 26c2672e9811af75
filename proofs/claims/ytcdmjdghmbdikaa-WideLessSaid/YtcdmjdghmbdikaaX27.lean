-- written by xprint.py, a program of this session over the kit's print
import Derived.Test.YtcdmjdghmbdikaaX0
import Derived.Test.YtcdmjdghmbdikaaX2
import Derived.Test.YtcdmjdghmbdikaaX16
import Derived.Test.YtcdmjdghmbdikaaX18
import Derived.Test.YtcdmjdghmbdikaaX23
namespace Go.Proofs.Ytcdmjdghmbdikaa.X
open Go.RowKit Go.Proofs.YtcdmjdghmbdikaaW.PrintWords Go.Proofs.YtcdmjdghmbdikaaW.PrintLast Go.Proofs.YtcdmjdghmbdikaaW.PrintMore
attribute [local go_sem] max2_int min2_int max_two min_two max_three min_three max_four min_four   -- for this text's walks alone
set_option linter.unusedVariables false
set_option linter.unusedSimpArgs false

attribute [local go_sem high] eqA46
/-! ### spigotlaw01_WideLess: function 13 -/
mutual
def spigotlaw01_WideLess.j0 : Nat → Int → Int → Int → Int → Int → Int → Int → Option (Bool)
  | 0, _, _, _, _, _, _, _ => none
  | k + 1, x7, x537000, x537001, x538000, x538001, x539000, x539001 => (wide_Add.f x537000 x537001 x539000 x539001).bind fun bt549 => ((wide_Add.f x538000 x538001 x539000 x539001).bind fun bt553 => (if bt549.2.2 = 0 then (if bt553.2.2 = 0 then ((wide_Cmp.f k bt549.1 bt549.2.1 bt553.1 bt553.2.1).bind fun t557 => (spigotlaw01_WideLess.j1 k x7 (t557 != x7) x537000 x537001 x538000 x538001 x539000 x539001)) else (spigotlaw01_WideLess.j1 k x7 false x537000 x537001 x538000 x538001 x539000 x539001)) else (spigotlaw01_WideLess.j1 k x7 false x537000 x537001 x538000 x538001 x539000 x539001)))
def spigotlaw01_WideLess.j1 : Nat → Int → Bool → Int → Int → Int → Int → Int → Int → Option (Bool)
  | 0, _, _, _, _, _, _, _, _ => none
  | k + 1, x7, x86, x537000, x537001, x538000, x538001, x539000, x539001 => if x86 = true then (none) else ((wide_Cmp.f k x538000 x538001 x539000 x539001).bind fun t558 => (if x7 > 0 then ((spigotlaw01_alive.f k).bind fun t559 => (some t559)) else (if t558 > 0 then ((spigotlaw01_alive.f k).bind fun t560 => (some t560)) else ((wide_Cmp.f k x537000 x537001 x539000 x539001).bind fun t561 => (if t561 ≤ 0 then ((spigotlaw01_alive.f k).bind fun t562 => (some t562)) else (none))))))
end
def spigotlaw01_WideLess.f (k : Nat) (a0_0 : Int) (a0_1 : Int) (a1_0 : Int) (a1_1 : Int) (a2_0 : Int) (a2_1 : Int) : Option (Bool) := (wide_Cmp.f k a0_0 a0_1 a1_0 a1_1).bind fun t539 => ((wide_Sub.f a0_0 a0_1 a1_0 a1_1).bind fun bt540 => (if ((bt540.2.2 == 0) != (decide (t539 ≥ 0))) = true then (none) else ((wide_Cmp.f k a1_0 a1_1 a0_0 a0_1).bind fun t544 => (if t544 = (wrap64 (-t539)) then (if ((t539 == 0) != (a0_0 == a1_0 && (a0_1 == a1_1))) = true then (none) else (if bt540.2.2 = 0 then ((wide_Add.f bt540.1 bt540.2.1 a1_0 a1_1).bind fun bt545 => (if bt545.2.2 = 0 then (if (!(bt545.1 == a0_0) || (!(bt545.2.1 == a0_1))) = true then (none) else (spigotlaw01_WideLess.j0 k t539 a0_0 a0_1 a1_0 a1_1 a2_0 a2_1)) else (none))) else (spigotlaw01_WideLess.j0 k t539 a0_0 a0_1 a1_0 a1_1 a2_0 a2_1))) else (none)))))
theorem spigotlaw01_WideLess.mono_l : ∀ k, (∀ y0 y1 y2 y3 y4 y5 y6, LeO (spigotlaw01_WideLess.j0 k y0 y1 y2 y3 y4 y5 y6) (spigotlaw01_WideLess.j0 (k + 1) y0 y1 y2 y3 y4 y5 y6)) ∧ (∀ y0 y1 y2 y3 y4 y5 y6 y7, LeO (spigotlaw01_WideLess.j1 k y0 y1 y2 y3 y4 y5 y6 y7) (spigotlaw01_WideLess.j1 (k + 1) y0 y1 y2 y3 y4 y5 y6 y7))
  | 0 => ⟨fun _ _ _ _ _ _ _ r h => by simp [spigotlaw01_WideLess.j0] at h, fun _ _ _ _ _ _ _ _ r h => by simp [spigotlaw01_WideLess.j1] at h⟩
  | k + 1 => by
    obtain ⟨ih0, ih1⟩ := spigotlaw01_WideLess.mono_l k
    refine ⟨?_, ?_⟩
    · intro y0 y1 y2 y3 y4 y5 y6
      unfold spigotlaw01_WideLess.j0
      repeat' first
      | (with_reducible exact ih0 _ _ _ _ _ _ _)
      | (with_reducible exact ih1 _ _ _ _ _ _ _ _)
      | (with_reducible exact spigotlaw01_alive.mono _)
      | (with_reducible exact wide_Cmp.mono _ _ _ _ _)
      | (with_reducible exact LeO.refl _)
      | (with_reducible exact LeO.none _)
      | (with_reducible refine LeO.ite ?_ ?_)
      | (with_reducible refine LeO.bind ?_ (fun _ => ?_))
      | exact ih0 _ _ _ _ _ _ _
      | exact ih1 _ _ _ _ _ _ _ _
      | exact spigotlaw01_alive.mono _
      | exact wide_Cmp.mono _ _ _ _ _
      | exact LeO.none _
      | refine LeO.ite ?_ ?_
      | refine LeO.bind ?_ (fun _ => ?_)
    · intro y0 y1 y2 y3 y4 y5 y6 y7
      unfold spigotlaw01_WideLess.j1
      repeat' first
      | (with_reducible exact ih0 _ _ _ _ _ _ _)
      | (with_reducible exact ih1 _ _ _ _ _ _ _ _)
      | (with_reducible exact spigotlaw01_alive.mono _)
      | (with_reducible exact wide_Cmp.mono _ _ _ _ _)
      | (with_reducible exact LeO.refl _)
      | (with_reducible exact LeO.none _)
      | (with_reducible refine LeO.ite ?_ ?_)
      | (with_reducible refine LeO.bind ?_ (fun _ => ?_))
      | exact ih0 _ _ _ _ _ _ _
      | exact ih1 _ _ _ _ _ _ _ _
      | exact spigotlaw01_alive.mono _
      | exact wide_Cmp.mono _ _ _ _ _
      | exact LeO.none _
      | refine LeO.ite ?_ ?_
      | refine LeO.bind ?_ (fun _ => ?_)
theorem spigotlaw01_WideLess.mono : ∀ a0 a1 a2 a3 a4 a5 k, LeO (spigotlaw01_WideLess.f k a0 a1 a2 a3 a4 a5) (spigotlaw01_WideLess.f (k + 1) a0 a1 a2 a3 a4 a5) := by
  intro a0 a1 a2 a3 a4 a5 k
  obtain ⟨ih0, ih1⟩ := spigotlaw01_WideLess.mono_l k
  unfold spigotlaw01_WideLess.f
  repeat' first
      | (with_reducible exact ih0 _ _ _ _ _ _ _)
      | (with_reducible exact ih1 _ _ _ _ _ _ _ _)
      | (with_reducible exact spigotlaw01_alive.mono _)
      | (with_reducible exact wide_Cmp.mono _ _ _ _ _)
      | (with_reducible exact LeO.refl _)
      | (with_reducible exact LeO.none _)
      | (with_reducible refine LeO.ite ?_ ?_)
      | (with_reducible refine LeO.bind ?_ (fun _ => ?_))
      | exact ih0 _ _ _ _ _ _ _
      | exact ih1 _ _ _ _ _ _ _ _
      | exact spigotlaw01_alive.mono _
      | exact wide_Cmp.mono _ _ _ _ _
      | exact LeO.none _
      | refine LeO.ite ?_ ?_
      | refine LeO.bind ?_ (fun _ => ?_)
set_option maxHeartbeats 8000000 in
set_option maxRecDepth 100000 in
theorem spigotlaw01_WideLess.calls (k : Nat) (a0_0 : Int) (a0_1 : Int) (a1_0 : Int) (a1_1 : Int) (a2_0 : Int) (a2_1 : Int) (r : Bool) (w : World) (h : spigotlaw01_WideLess.f k a0_0 a0_1 a1_0 a1_1 a2_0 a2_1 = some r) :
  Calls Try.prog 13 #[.agg #[.int .u64 a0_0, .int .u64 a0_1], .agg #[.int .u64 a1_0, .int .u64 a1_1], .agg #[.int .u64 a2_0, .int .u64 a2_1]] w fun e w' => e = .returned (.bool r) ∧ Below w.heap.size w w' := by
 have hu46 := Try.underlying46
 have HB := Aside0.mk (Below.refl w.heap.size w)
 have H : ((wide_Cmp.f k a0_0 a0_1 a1_0 a1_1).bind fun t539 => ((wide_Sub.f a0_0 a0_1 a1_0 a1_1).bind fun bt540 => (if ((bt540.2.2 == 0) != (decide (t539 ≥ 0))) = true then (none) else ((wide_Cmp.f k a1_0 a1_1 a0_0 a0_1).bind fun t544 => (if t544 = (wrap64 (-t539)) then (if ((t539 == 0) != (a0_0 == a1_0 && (a0_1 == a1_1))) = true then (none) else (if bt540.2.2 = 0 then ((wide_Add.f bt540.1 bt540.2.1 a1_0 a1_1).bind fun bt545 => (if bt545.2.2 = 0 then (if (!(bt545.1 == a0_0) || (!(bt545.2.1 == a0_1))) = true then (none) else (spigotlaw01_WideLess.j0 k t539 a0_0 a0_1 a1_0 a1_1 a2_0 a2_1)) else (none))) else (spigotlaw01_WideLess.j0 k t539 a0_0 a0_1 a1_0 a1_1 a2_0 a2_1))) else (none)))))) = some r := h
 clear h
 replace H := Option.bind_eq_some_iff.mp H
 obtain ⟨t539, A40, H⟩ := H
 try dsimp only at H
 have A4 := Aside0.mk A40
 clear A40
 replace H := Option.bind_eq_some_iff.mp H
 obtain ⟨⟨t540, t541, t542⟩, A50, H⟩ := H
 try dsimp only at H
 have A5 := Aside0.mk A50
 clear A50
 by_cases c6 : ((t542 == 0) != (decide (t539 ≥ 0))) = true
 ·rw [if_pos c6] at H; exact absurd H (by simp)
 rw [if_neg c6] at H
 have c6b0 : ((t542 == 0) != (decide (t539 ≥ 0))) = false := by simpa using c6
 (try (have c6b1 : decide ((t542 == 0) = (decide (t539 ≥ 0))) = true := by simpa using c6))
 (try (have c6b2 : ((t542 == 0) == (decide (t539 ≥ 0))) = true := by simpa using c6))
 clear c6
 replace H := Option.bind_eq_some_iff.mp H
 obtain ⟨t544, A70, H⟩ := H
 try dsimp only at H
 have A7 := Aside0.mk A70
 clear A70
 by_cases c8 : t544 = (wrap64 (-t539))
 rotate_left
 ·rw [if_neg c8] at H; exact absurd H (by simp)
 rw [if_pos c8] at H
 have c8b0 : (t544 == (wrap64 (-t539))) = true := beq_iff_eq.mpr c8
 have c8b1 : (t544 != (wrap64 (-t539))) = false := bne_eq_false_iff_eq.mpr c8
 clear c8
 by_cases c9 : ((t539 == 0) != (a0_0 == a1_0 && (a0_1 == a1_1))) = true
 ·rw [if_pos c9] at H; exact absurd H (by simp)
 rw [if_neg c9] at H
 have c9b0 : ((t539 == 0) != (a0_0 == a1_0 && (a0_1 == a1_1))) = false := by simpa using c9
 (try (have c9b1 : decide ((t539 == 0) = (a0_0 == a1_0 && (a0_1 == a1_1))) = true := by simpa using c9))
 (try (have c9b2 : ((t539 == 0) == (a0_0 == a1_0 && (a0_1 == a1_1))) = true := by simpa using c9))
 clear c9
 have HC10 := Aside0.mk H
 clear H
 go_enter Try.func13, Try.ntmps13
 go_upto_if 48 with (first | ((with_reducible refine gate_dst (N := 3) rfl ?_); refine box_event ?hg (N := 3) ?hd (cs := #[.int .u64 a0_0, .int .u64 a0_1]) (t := 46) ?hr ?_; (case hd => rfl); (case hg => rfl); (case hr => first | (go_simp; done) | (go_simp; rfl)); intro gb536 hg w11 hbox hb; have BK536 := Aside0.mk (hbox); have GW536 := Aside0.mk ((by rw [hg]; exact (below_size (hq_ HB)) : w.heap.size ≤ gb536)); have GE536 := GW536; replace HB := Aside0.mk (below_step (hq_ HB) hb); clear hb hbox hg) | ((with_reducible refine gate_dst (N := 4) rfl ?_); refine box_event ?hg (N := 4) ?hd (cs := #[.int .u64 a1_0, .int .u64 a1_1]) (t := 46) ?hr ?_; (case hd => rfl); (case hg => rfl); (case hr => first | (go_simp; done) | (go_simp; rfl)); intro gb537 hg w12 hbox hb; have BK537 := Aside0.mk (hbox); have GW537 := Aside0.mk ((by rw [hg]; exact (below_size (by repeat (first | (with_reducible first | exact HB.out | apply below_alloc | apply pw_below_drewN | apply below_drew1 | refine below_set ?_ (Aside0.out (by assumption))) | exact HB.out))) : w.heap.size ≤ gb537)); have GE537 := GW537; have NB536_537 := bn_ BK536 hg; have NB537_536 := bm_ BK536 hg; replace BK536 := bb_ BK536 hb; replace HB := Aside0.mk (below_step (by repeat (first | (with_reducible first | exact HB.out | apply below_alloc | apply pw_below_drewN | apply below_drew1 | refine below_set ?_ (Aside0.out (by assumption))) | exact HB.out)) hb); clear hb hbox hg) | ((with_reducible refine gate_dst (N := 5) rfl ?_); refine box_event ?hg (N := 5) ?hd (cs := #[.int .u64 a2_0, .int .u64 a2_1]) (t := 46) ?hr ?_; (case hd => rfl); (case hg => rfl); (case hr => first | (go_simp; done) | (go_simp; rfl)); intro gb538 hg w13 hbox hb; have BK538 := Aside0.mk (hbox); have GW538 := Aside0.mk ((by rw [hg]; exact (below_size (by repeat (first | (with_reducible first | exact HB.out | apply below_alloc | apply pw_below_drewN | apply below_drew1 | refine below_set ?_ (Aside0.out (by assumption))) | exact HB.out))) : w.heap.size ≤ gb538)); have GE538 := GW538; have NB536_538 := bn_ BK536 hg; have NB538_536 := bm_ BK536 hg; have NB537_538 := bn_ BK537 hg; have NB538_537 := bm_ BK537 hg; replace BK536 := bb_ BK536 hb; replace BK537 := bb_ BK537 hb; replace HB := Aside0.mk (below_step (by repeat (first | (with_reducible first | exact HB.out | apply below_alloc | apply pw_below_drewN | apply below_drew1 | refine below_set ?_ (Aside0.out (by assumption))) | exact HB.out)) hb); clear hb hbox hg; have hnb14 := NB536_537.out; have hnc14 := NB537_536.out; have hnb15 := NB536_538.out; have hnc15 := NB538_536.out; have hcz16_0 : w13.cell? ⟨gb536, 0, none⟩ = some (.int .u64 a0_0) := (blk_cell BK536.out 0).trans rfl; have hcz16_1 : w13.cell? ⟨gb536, 1, none⟩ = some (.int .u64 a0_1) := (blk_cell BK536.out 1).trans rfl; have hfz16_0 := blk_frozen BK536.out 0; have hfz16_1 := blk_frozen BK536.out 1; have hnb17 := NB537_538.out; have hnc17 := NB538_537.out; have hcz18_0 : w13.cell? ⟨gb537, 0, none⟩ = some (.int .u64 a1_0) := (blk_cell BK537.out 0).trans rfl; have hcz18_1 : w13.cell? ⟨gb537, 1, none⟩ = some (.int .u64 a1_1) := (blk_cell BK537.out 1).trans rfl; have hfz18_0 := blk_frozen BK537.out 0; have hfz18_1 := blk_frozen BK537.out 1) | ((with_reducible refine gate_callee (f := 30) rfl ?_); refine goesL_ (some 19) rfl rfl Try.func30 (by kernel_rfl) rfl #[.agg #[.int .u64 a0_0, .int .u64 a0_1], .agg #[.int .u64 a1_0, .int .u64 a1_1]] rfl (by (try simp only [List.map_toArray, List.map_cons, List.map_nil]); first | done | rfl | (simp only [List.length_drop, List.length_take]; rfl)) ?_; (with_reducible refine (wide_Cmp.calls k a0_0 a0_1 a1_0 a1_1 t539 _ A4.out).mono ?_); rintro e w19 ⟨rfl, hb⟩; refine ⟨_, rfl, ?_⟩; replace BK536 := bb_ BK536 hb; replace BK537 := bb_ BK537 hb; replace BK538 := bb_ BK538 hb; replace HB := Aside0.mk (below_step (by repeat (first | (with_reducible first | exact HB.out | apply below_alloc | apply pw_below_drewN | apply below_drew1 | refine below_set ?_ (Aside0.out (by assumption))) | exact HB.out)) hb); (try clear hb); (try clear hb2); (try clear hk); (try clear hi); have hcz20_0 : w19.cell? ⟨gb536, 0, none⟩ = some (.int .u64 a0_0) := (blk_cell BK536.out 0).trans rfl; have hcz20_1 : w19.cell? ⟨gb536, 1, none⟩ = some (.int .u64 a0_1) := (blk_cell BK536.out 1).trans rfl; have hfz20_0 := blk_frozen BK536.out 0; have hfz20_1 := blk_frozen BK536.out 1; have hcz21_0 : w19.cell? ⟨gb537, 0, none⟩ = some (.int .u64 a1_0) := (blk_cell BK537.out 0).trans rfl; have hcz21_1 : w19.cell? ⟨gb537, 1, none⟩ = some (.int .u64 a1_1) := (blk_cell BK537.out 1).trans rfl; have hfz21_0 := blk_frozen BK537.out 0; have hfz21_1 := blk_frozen BK537.out 1) | ((with_reducible refine gate_callee (f := 26) rfl ?_); refine goesL_ (some 23) rfl rfl Try.func26 (by kernel_rfl) rfl #[.agg #[.int .u64 a0_0, .int .u64 a0_1], .agg #[.int .u64 a1_0, .int .u64 a1_1]] rfl (by (try simp only [List.map_toArray, List.map_cons, List.map_nil]); first | done | rfl | (simp only [List.length_drop, List.length_take]; rfl)) ?_; (with_reducible refine (wide_Sub.calls a0_0 a0_1 a1_0 a1_1 t540 t541 t542 _ A5.out).mono ?_); rintro e w22 ⟨rfl, hb⟩; refine ⟨_, rfl, ?_⟩; replace BK536 := bb_ BK536 hb; replace BK537 := bb_ BK537 hb; replace BK538 := bb_ BK538 hb; replace HB := Aside0.mk (below_step (by repeat (first | (with_reducible first | exact HB.out | apply below_alloc | apply pw_below_drewN | apply below_drew1 | refine below_set ?_ (Aside0.out (by assumption))) | exact HB.out)) hb); (try clear hb); (try clear hb2); (try clear hk); (try clear hi)) | ((with_reducible refine gate_dst (N := 8) rfl ?_); refine box_event ?hg (N := 8) ?hd (cs := #[.int .u64 0, .int .u64 0]) (t := 46) ?hr ?_; (case hd => rfl); (case hg => rfl); (case hr => first | (go_simp; done) | (go_simp; rfl)); intro gb543 hg w23 hbox hb; have BK543 := Aside0.mk (hbox); have GW543 := Aside0.mk ((by rw [hg]; exact (below_size (by repeat (first | (with_reducible first | exact HB.out | apply below_alloc | apply pw_below_drewN | apply below_drew1 | refine below_set ?_ (Aside0.out (by assumption))) | exact HB.out))) : w.heap.size ≤ gb543)); have GE543 := GW543; have NB536_543 := bn_ BK536 hg; have NB543_536 := bm_ BK536 hg; have NB537_543 := bn_ BK537 hg; have NB543_537 := bm_ BK537 hg; have NB538_543 := bn_ BK538 hg; have NB543_538 := bm_ BK538 hg; replace BK536 := bb_ BK536 hb; replace BK537 := bb_ BK537 hb; replace BK538 := bb_ BK538 hb; replace HB := Aside0.mk (below_step (by repeat (first | (with_reducible first | exact HB.out | apply below_alloc | apply pw_below_drewN | apply below_drew1 | refine below_set ?_ (Aside0.out (by assumption))) | exact HB.out)) hb); clear hb hbox hg; have hnb24 := NB543_536.out; have hnc24 := NB536_543.out; have hnb25 := NB543_537.out; have hnc25 := NB537_543.out; have hnb26 := NB543_538.out; have hnc26 := NB538_543.out; have hcz27_0 : w23.cell? ⟨gb543, 0, none⟩ = some (.int .u64 0) := (blk_cell BK543.out 0).trans rfl; have hcz27_1 : w23.cell? ⟨gb543, 1, none⟩ = some (.int .u64 0) := (blk_cell BK543.out 1).trans rfl; have hfz27_0 := blk_frozen BK543.out 0; have hfz27_1 := blk_frozen BK543.out 1; have hcz28_0 : w23.cell? ⟨gb537, 0, none⟩ = some (.int .u64 a1_0) := (blk_cell BK537.out 0).trans rfl; have hcz28_1 : w23.cell? ⟨gb537, 1, none⟩ = some (.int .u64 a1_1) := (blk_cell BK537.out 1).trans rfl; have hfz28_0 := blk_frozen BK537.out 0; have hfz28_1 := blk_frozen BK537.out 1; have hcz29_0 : w23.cell? ⟨gb536, 0, none⟩ = some (.int .u64 a0_0) := (blk_cell BK536.out 0).trans rfl; have hcz29_1 : w23.cell? ⟨gb536, 1, none⟩ = some (.int .u64 a0_1) := (blk_cell BK536.out 1).trans rfl; have hfz29_0 := blk_frozen BK536.out 0; have hfz29_1 := blk_frozen BK536.out 1) | (go_at_call 30; (with_reducible refine (wide_Cmp.calls k a1_0 a1_1 a0_0 a0_1 t544 _ A7.out).mono ?_); rintro e w30 ⟨rfl, hb⟩; replace BK536 := Aside0.mk (blk_below (g := gb536) (o := .cells #[.int .u64 a0_0, .int .u64 a0_1] 46 (0, 0)) (by (with_reducible repeat (first | refine blk_drewN ?_ _ | refine blk_drew ?_ | refine blk_alloc ?_ _)); refine blk_far ?_ NB536_543.out _; (with_reducible repeat (first | refine blk_drewN ?_ _ | refine blk_drew ?_ | refine blk_alloc ?_ _)); refine blk_far ?_ NB536_543.out _; (with_reducible repeat (first | refine blk_drewN ?_ _ | refine blk_drew ?_ | refine blk_alloc ?_ _)); exact BK536.out) hb); replace BK537 := Aside0.mk (blk_below (g := gb537) (o := .cells #[.int .u64 a1_0, .int .u64 a1_1] 46 (0, 0)) (by (with_reducible repeat (first | refine blk_drewN ?_ _ | refine blk_drew ?_ | refine blk_alloc ?_ _)); refine blk_far ?_ NB537_543.out _; (with_reducible repeat (first | refine blk_drewN ?_ _ | refine blk_drew ?_ | refine blk_alloc ?_ _)); refine blk_far ?_ NB537_543.out _; (with_reducible repeat (first | refine blk_drewN ?_ _ | refine blk_drew ?_ | refine blk_alloc ?_ _)); exact BK537.out) hb); replace BK538 := Aside0.mk (blk_below (g := gb538) (o := .cells #[.int .u64 a2_0, .int .u64 a2_1] 46 (0, 0)) (by (with_reducible repeat (first | refine blk_drewN ?_ _ | refine blk_drew ?_ | refine blk_alloc ?_ _)); refine blk_far ?_ NB538_543.out _; (with_reducible repeat (first | refine blk_drewN ?_ _ | refine blk_drew ?_ | refine blk_alloc ?_ _)); refine blk_far ?_ NB538_543.out _; (with_reducible repeat (first | refine blk_drewN ?_ _ | refine blk_drew ?_ | refine blk_alloc ?_ _)); exact BK538.out) hb); replace BK543 := Aside0.mk (blk_below (g := gb543) (o := .cells #[.int .u64 t540, .int .u64 t541] 46 (0, 0)) (by (with_reducible repeat (first | refine blk_drewN ?_ _ | refine blk_drew ?_ | refine blk_alloc ?_ _)); refine blk_put (cs := #[.int .u64 t540, .int .u64 0]) ?_ 1 _ rfl; (with_reducible repeat (first | refine blk_drewN ?_ _ | refine blk_drew ?_ | refine blk_alloc ?_ _)); refine blk_put (cs := #[.int .u64 0, .int .u64 0]) ?_ 0 _ rfl; (with_reducible repeat (first | refine blk_drewN ?_ _ | refine blk_drew ?_ | refine blk_alloc ?_ _)); exact BK543.out) hb); replace HB := Aside0.mk (below_step (by repeat (first | (with_reducible first | exact HB.out | apply below_alloc | apply pw_below_drewN | apply below_drew1 | refine below_set ?_ (Aside0.out (by assumption))) | exact HB.out)) hb); (try clear hb); (try clear hb2); (try clear hk); (try clear hi); have hcz31_0 : w30.cell? ⟨gb536, 0, none⟩ = some (.int .u64 a0_0) := (blk_cell BK536.out 0).trans rfl; have hcz31_1 : w30.cell? ⟨gb536, 1, none⟩ = some (.int .u64 a0_1) := (blk_cell BK536.out 1).trans rfl; have hfz31_0 := blk_frozen BK536.out 0; have hfz31_1 := blk_frozen BK536.out 1; have hcz32_0 : w30.cell? ⟨gb537, 0, none⟩ = some (.int .u64 a1_0) := (blk_cell BK537.out 0).trans rfl; have hcz32_1 : w30.cell? ⟨gb537, 1, none⟩ = some (.int .u64 a1_1) := (blk_cell BK537.out 1).trans rfl; have hfz32_0 := blk_frozen BK537.out 0; have hfz32_1 := blk_frozen BK537.out 1))
 (try simp only [Act.put, List.setIfInBounds_toArray, List.set_cons_zero, List.set_cons_succ])
 go_cut [] (fun wc => ∃ (kq : Nat), Aside0 (spigotlaw01_WideLess.j0 kq t539 a0_0 a0_1 a1_0 a1_1 a2_0 a2_1 = some r) ∧ Aside0 (kq ≤ k) ∧ Aside0 (wc.heap[gb536]? = some (.cells #[.int .u64 a0_0, .int .u64 a0_1] 46 (0, 0))) ∧ Aside0 (wc.heap[gb537]? = some (.cells #[.int .u64 a1_0, .int .u64 a1_1] 46 (0, 0))) ∧ Aside0 (wc.heap[gb538]? = some (.cells #[.int .u64 a2_0, .int .u64 a2_1] 46 (0, 0))) ∧ Aside0 (wc.heap[gb543]? = some (.cells #[.int .u64 t540, .int .u64 t541] 46 (0, 0))) ∧ Aside0 (Below w.heap.size w wc))
 case first =>
  have H := HC10.out
  clear HC10
  by_cases c33 : t542 = 0
  ·rw [if_pos c33] at H
   have c33b0 : (t542 == 0) = true := beq_iff_eq.mpr c33
   have c33b1 : (t542 != 0) = false := bne_eq_false_iff_eq.mpr c33
   clear c33
   (first | rw [c33b0] | (simp only [i64_w, i32_w]; rw [c33b0]) | skip)
   replace H := Option.bind_eq_some_iff.mp H
   obtain ⟨⟨t545, t546, t547⟩, A340, H⟩ := H
   try dsimp only at H
   have A34 := Aside0.mk A340
   clear A340
   by_cases c35 : t547 = 0
   rotate_left
   ·rw [if_neg c35] at H; exact absurd H (by simp)
   rw [if_pos c35] at H
   have c35b0 : (t547 == 0) = true := beq_iff_eq.mpr c35
   have c35b1 : (t547 != 0) = false := bne_eq_false_iff_eq.mpr c35
   clear c35
   by_cases c36 : (!(t545 == a0_0) || (!(t546 == a0_1))) = true
   ·rw [if_pos c36] at H; exact absurd H (by simp)
   rw [if_neg c36] at H
   have c36b0 : (!(t545 == a0_0) || (!(t546 == a0_1))) = false := by simpa using c36
   clear c36
   have H' := Aside0.mk H
   clear H
   have hnb37 := NB543_536.out
   have hnc37 := NB536_543.out
   have hnb38 := NB543_537.out
   have hnc38 := NB537_543.out
   have hnb39 := NB543_538.out
   have hnc39 := NB538_543.out
   have hcz40_0 : w30.cell? ⟨gb543, 0, none⟩ = some (.int .u64 t540) := (blk_cell BK543.out 0).trans rfl
   have hcz40_1 : w30.cell? ⟨gb543, 1, none⟩ = some (.int .u64 t541) := (blk_cell BK543.out 1).trans rfl
   have hfz40_0 := blk_frozen BK543.out 0
   have hfz40_1 := blk_frozen BK543.out 1
   have hnb41 := NB537_536.out
   have hnc41 := NB536_537.out
   have hnb42 := NB537_538.out
   have hnc42 := NB538_537.out
   have hcz43_0 : w30.cell? ⟨gb537, 0, none⟩ = some (.int .u64 a1_0) := (blk_cell BK537.out 0).trans rfl
   have hcz43_1 : w30.cell? ⟨gb537, 1, none⟩ = some (.int .u64 a1_1) := (blk_cell BK537.out 1).trans rfl
   have hfz43_0 := blk_frozen BK537.out 0
   have hfz43_1 := blk_frozen BK537.out 1
   go_wp2_with (first | ((with_reducible refine gate_callee (f := 24) rfl ?_); refine goesL_ (some 52) rfl rfl Try.func24 (by kernel_rfl) rfl #[.agg #[.int .u64 t540, .int .u64 t541], .agg #[.int .u64 a1_0, .int .u64 a1_1]] rfl (by (try simp only [List.map_toArray, List.map_cons, List.map_nil]); first | done | rfl | (simp only [List.length_drop, List.length_take]; rfl)) ?_; (with_reducible refine (wide_Add.calls t540 t541 a1_0 a1_1 t545 t546 t547 _ A34.out).mono ?_); rintro e w44 ⟨rfl, hb⟩; refine ⟨_, rfl, ?_⟩; replace BK536 := bb_ BK536 hb; replace BK537 := bb_ BK537 hb; replace BK538 := bb_ BK538 hb; replace BK543 := bb_ BK543 hb; replace HB := Aside0.mk (below_step (by repeat (first | (with_reducible first | exact HB.out | apply below_alloc | apply pw_below_drewN | apply below_drew1 | refine below_set ?_ (Aside0.out (by assumption))) | exact HB.out)) hb); (try clear hb); (try clear hb2); (try clear hk); (try clear hi)) | ((with_reducible refine gate_dst (N := 10) rfl ?_); refine box_event ?hg (N := 10) ?hd (cs := #[.int .u64 0, .int .u64 0]) (t := 46) ?hr ?_; (case hd => rfl); (case hg => rfl); (case hr => first | (go_simp; done) | (go_simp; rfl)); intro gb548 hg w45 hbox hb; have BK548 := Aside0.mk (hbox); have GW548 := Aside0.mk ((by rw [hg]; exact (below_size (by repeat (first | (with_reducible first | exact HB.out | apply below_alloc | apply pw_below_drewN | apply below_drew1 | refine below_set ?_ (Aside0.out (by assumption))) | exact HB.out))) : w.heap.size ≤ gb548)); have GE548 := GW548; have NB536_548 := bn_ BK536 hg; have NB548_536 := bm_ BK536 hg; have NB537_548 := bn_ BK537 hg; have NB548_537 := bm_ BK537 hg; have NB538_548 := bn_ BK538 hg; have NB548_538 := bm_ BK538 hg; have NB543_548 := bn_ BK543 hg; have NB548_543 := bm_ BK543 hg; replace BK536 := bb_ BK536 hb; replace BK537 := bb_ BK537 hb; replace BK538 := bb_ BK538 hb; replace BK543 := bb_ BK543 hb; replace HB := Aside0.mk (below_step (by repeat (first | (with_reducible first | exact HB.out | apply below_alloc | apply pw_below_drewN | apply below_drew1 | refine below_set ?_ (Aside0.out (by assumption))) | exact HB.out)) hb); clear hb hbox hg; have hnb46 := NB548_536.out; have hnc46 := NB536_548.out; have hnb47 := NB548_537.out; have hnc47 := NB537_548.out; have hnb48 := NB548_538.out; have hnc48 := NB538_548.out; have hnb49 := NB548_543.out; have hnc49 := NB543_548.out; have hcz50_0 : w45.cell? ⟨gb548, 0, none⟩ = some (.int .u64 0) := (blk_cell BK548.out 0).trans rfl; have hcz50_1 : w45.cell? ⟨gb548, 1, none⟩ = some (.int .u64 0) := (blk_cell BK548.out 1).trans rfl; have hfz50_0 := blk_frozen BK548.out 0; have hfz50_1 := blk_frozen BK548.out 1; have hnb51 := NB536_538.out; have hnc51 := NB538_536.out; have hcz52_0 : w45.cell? ⟨gb536, 0, none⟩ = some (.int .u64 a0_0) := (blk_cell BK536.out 0).trans rfl; have hcz52_1 : w45.cell? ⟨gb536, 1, none⟩ = some (.int .u64 a0_1) := (blk_cell BK536.out 1).trans rfl; have hfz52_0 := blk_frozen BK536.out 0; have hfz52_1 := blk_frozen BK536.out 1))
   go_meet
   case rel => exact ⟨_, H', ⟨by first | omega | exact Nat.le_refl _⟩, ⟨by (with_reducible repeat (first | refine blk_drewN ?_ _ | refine blk_drew ?_ | refine blk_alloc ?_ _)); refine blk_far ?_ NB536_548.out _; (with_reducible repeat (first | refine blk_drewN ?_ _ | refine blk_drew ?_ | refine blk_alloc ?_ _)); refine blk_far ?_ NB536_548.out _; (with_reducible repeat (first | refine blk_drewN ?_ _ | refine blk_drew ?_ | refine blk_alloc ?_ _)); exact BK536.out⟩, ⟨by (with_reducible repeat (first | refine blk_drewN ?_ _ | refine blk_drew ?_ | refine blk_alloc ?_ _)); refine blk_far ?_ NB537_548.out _; (with_reducible repeat (first | refine blk_drewN ?_ _ | refine blk_drew ?_ | refine blk_alloc ?_ _)); refine blk_far ?_ NB537_548.out _; (with_reducible repeat (first | refine blk_drewN ?_ _ | refine blk_drew ?_ | refine blk_alloc ?_ _)); exact BK537.out⟩, ⟨by (with_reducible repeat (first | refine blk_drewN ?_ _ | refine blk_drew ?_ | refine blk_alloc ?_ _)); refine blk_far ?_ NB538_548.out _; (with_reducible repeat (first | refine blk_drewN ?_ _ | refine blk_drew ?_ | refine blk_alloc ?_ _)); refine blk_far ?_ NB538_548.out _; (with_reducible repeat (first | refine blk_drewN ?_ _ | refine blk_drew ?_ | refine blk_alloc ?_ _)); exact BK538.out⟩, ⟨by (with_reducible repeat (first | refine blk_drewN ?_ _ | refine blk_drew ?_ | refine blk_alloc ?_ _)); refine blk_far ?_ NB543_548.out _; (with_reducible repeat (first | refine blk_drewN ?_ _ | refine blk_drew ?_ | refine blk_alloc ?_ _)); refine blk_far ?_ NB543_548.out _; (with_reducible repeat (first | refine blk_drewN ?_ _ | refine blk_drew ?_ | refine blk_alloc ?_ _)); exact BK543.out⟩, ⟨by repeat (first | (with_reducible first | exact HB.out | apply below_alloc | apply pw_below_drewN | apply below_drew1 | refine below_set ?_ GE536.out | refine below_set ?_ GE537.out | refine below_set ?_ GE538.out | refine below_set ?_ GE543.out | refine below_set ?_ GE548.out) | exact HB.out)⟩⟩
  ·rw [if_neg c33] at H
   have c33b0 : (t542 == 0) = false := beq_eq_false_iff_ne.mpr c33
   have c33b1 : (t542 != 0) = true := bne_iff_ne.mpr c33
   (first | rw [c33b0] | (simp only [i64_w, i32_w]; rw [c33b0]) | skip)
   have H' := Aside0.mk H
   clear H
   go_wp2
   go_meet
   case rel => exact ⟨_, H', ⟨by first | omega | exact Nat.le_refl _⟩, ⟨by (with_reducible repeat (first | refine blk_drewN ?_ _ | refine blk_drew ?_ | refine blk_alloc ?_ _)); exact BK536.out⟩, ⟨by (with_reducible repeat (first | refine blk_drewN ?_ _ | refine blk_drew ?_ | refine blk_alloc ?_ _)); exact BK537.out⟩, ⟨by (with_reducible repeat (first | refine blk_drewN ?_ _ | refine blk_drew ?_ | refine blk_alloc ?_ _)); exact BK538.out⟩, ⟨by (with_reducible repeat (first | refine blk_drewN ?_ _ | refine blk_drew ?_ | refine blk_alloc ?_ _)); exact BK543.out⟩, ⟨by repeat (first | (with_reducible first | exact HB.out | apply below_alloc | apply pw_below_drewN | apply below_drew1 | refine below_set ?_ GE536.out | refine below_set ?_ GE537.out | refine below_set ?_ GE538.out | refine below_set ?_ GE543.out) | exact HB.out)⟩⟩
 case rest =>
  clear HC10
  try clear c1
  try clear c2
  try clear p2
  try clear c3
  try clear c4
  try clear c5
  try clear c6
  try clear c6b0
  try clear c6b1
  try clear c6b2
  try clear p6
  try clear c8
  try clear c8b0
  try clear c8b1
  try clear c9
  try clear c9b0
  try clear c9b1
  try clear c9b2
  try clear c13
  try clear c14
  try clear c15
  try clear c17
  try clear c24
  try clear c25
  try clear c26
  try clear c30
  try clear c33
  try clear c33b0
  try clear c33b1
  try clear c35
  try clear c35b0
  try clear c35b1
  try clear c36
  try clear c36b0
  try clear c37
  try clear c38
  try clear c39
  try clear c41
  try clear c42
  try clear c46
  try clear c47
  try clear c48
  try clear c49
  try clear c51
  try clear hcz16_0
  try clear hcz16_1
  try clear hcz18_0
  try clear hcz18_1
  try clear hcz20_0
  try clear hcz20_1
  try clear hcz21_0
  try clear hcz21_1
  try clear hcz27_0
  try clear hcz27_1
  try clear hcz28_0
  try clear hcz28_1
  try clear hcz29_0
  try clear hcz29_1
  try clear hcz31_0
  try clear hcz31_1
  try clear hcz32_0
  try clear hcz32_1
  try clear hcz40_0
  try clear hcz40_1
  try clear hcz43_0
  try clear hcz43_1
  try clear hcz50_0
  try clear hcz50_1
  try clear hcz52_0
  try clear hcz52_1
  try clear hfz16_0
  try clear hfz16_1
  try clear hfz18_0
  try clear hfz18_1
  try clear hfz20_0
  try clear hfz20_1
  try clear hfz21_0
  try clear hfz21_1
  try clear hfz27_0
  try clear hfz27_1
  try clear hfz28_0
  try clear hfz28_1
  try clear hfz29_0
  try clear hfz29_1
  try clear hfz31_0
  try clear hfz31_1
  try clear hfz32_0
  try clear hfz32_1
  try clear hfz40_0
  try clear hfz40_1
  try clear hfz43_0
  try clear hfz43_1
  try clear hfz50_0
  try clear hfz50_1
  try clear hfz52_0
  try clear hfz52_1
  obtain ⟨kq, HA, HJ9, BK536, BK537, BK538, BK543, HB⟩ := hcut
  cases kq with
  | zero => exact absurd HA.out (by simp [spigotlaw01_WideLess.j0])
  | succ kj9 =>
   have H := HA.out
   clear HA
   simp only [spigotlaw01_WideLess.j0] at H
   replace H := Option.bind_eq_some_iff.mp H
   obtain ⟨⟨t549, t550, t551⟩, A530, H⟩ := H
   try dsimp only at H
   have A53 := Aside0.mk A530
   clear A530
   replace H := Option.bind_eq_some_iff.mp H
   obtain ⟨⟨t553, t554, t555⟩, A540, H⟩ := H
   try dsimp only at H
   have A54 := Aside0.mk A540
   clear A540
   have HC55 := Aside0.mk H
   clear H
   have hnb56 := NB536_537.out
   have hnc56 := NB537_536.out
   have hnb57 := NB536_538.out
   have hnc57 := NB538_536.out
   have hnb58 := NB536_543.out
   have hnc58 := NB543_536.out
   have hcz59_0 : wc.cell? ⟨gb536, 0, none⟩ = some (.int .u64 a0_0) := (blk_cell BK536.out 0).trans rfl
   have hcz59_1 : wc.cell? ⟨gb536, 1, none⟩ = some (.int .u64 a0_1) := (blk_cell BK536.out 1).trans rfl
   have hfz59_0 := blk_frozen BK536.out 0
   have hfz59_1 := blk_frozen BK536.out 1
   have hnb60 := NB538_537.out
   have hnc60 := NB537_538.out
   have hnb61 := NB538_543.out
   have hnc61 := NB543_538.out
   have hcz62_0 : wc.cell? ⟨gb538, 0, none⟩ = some (.int .u64 a2_0) := (blk_cell BK538.out 0).trans rfl
   have hcz62_1 : wc.cell? ⟨gb538, 1, none⟩ = some (.int .u64 a2_1) := (blk_cell BK538.out 1).trans rfl
   have hfz62_0 := blk_frozen BK538.out 0
   have hfz62_1 := blk_frozen BK538.out 1
   go_upto_region 11 with (first | ((with_reducible refine gate_callee (f := 24) rfl ?_); refine goesL_ (some 65) rfl rfl Try.func24 (by kernel_rfl) rfl #[.agg #[.int .u64 a0_0, .int .u64 a0_1], .agg #[.int .u64 a2_0, .int .u64 a2_1]] rfl (by (try simp only [List.map_toArray, List.map_cons, List.map_nil]); first | done | rfl | (simp only [List.length_drop, List.length_take]; rfl)) ?_; (with_reducible refine (wide_Add.calls a0_0 a0_1 a2_0 a2_1 t549 t550 t551 _ A53.out).mono ?_); rintro e w63 ⟨rfl, hb⟩; refine ⟨_, rfl, ?_⟩; replace BK536 := bb_ BK536 hb; replace BK537 := bb_ BK537 hb; replace BK538 := bb_ BK538 hb; replace BK543 := bb_ BK543 hb; replace HB := Aside0.mk (below_step (by repeat (first | (with_reducible first | exact HB.out | apply below_alloc | apply pw_below_drewN | apply below_drew1 | refine below_set ?_ (Aside0.out (by assumption))) | exact HB.out)) hb); (try clear hb); (try clear hb2); (try clear hk); (try clear hi)) | ((with_reducible refine gate_dst (N := 12) rfl ?_); refine box_event ?hg (N := 12) ?hd (cs := #[.int .u64 0, .int .u64 0]) (t := 46) ?hr ?_; (case hd => rfl); (case hg => rfl); (case hr => first | (go_simp; done) | (go_simp; rfl)); intro gb552 hg w64 hbox hb; have BK552 := Aside0.mk (hbox); have GW552 := Aside0.mk ((by rw [hg]; exact (below_size (by repeat (first | (with_reducible first | exact HB.out | apply below_alloc | apply pw_below_drewN | apply below_drew1 | refine below_set ?_ (Aside0.out (by assumption))) | exact HB.out))) : w.heap.size ≤ gb552)); have GE552 := GW552; have NB536_552 := bn_ BK536 hg; have NB552_536 := bm_ BK536 hg; have NB537_552 := bn_ BK537 hg; have NB552_537 := bm_ BK537 hg; have NB538_552 := bn_ BK538 hg; have NB552_538 := bm_ BK538 hg; have NB543_552 := bn_ BK543 hg; have NB552_543 := bm_ BK543 hg; replace BK536 := bb_ BK536 hb; replace BK537 := bb_ BK537 hb; replace BK538 := bb_ BK538 hb; replace BK543 := bb_ BK543 hb; replace HB := Aside0.mk (below_step (by repeat (first | (with_reducible first | exact HB.out | apply below_alloc | apply pw_below_drewN | apply below_drew1 | refine below_set ?_ (Aside0.out (by assumption))) | exact HB.out)) hb); clear hb hbox hg; have hnb65 := NB552_536.out; have hnc65 := NB536_552.out; have hnb66 := NB552_537.out; have hnc66 := NB537_552.out; have hnb67 := NB552_538.out; have hnc67 := NB538_552.out; have hnb68 := NB552_543.out; have hnc68 := NB543_552.out; have hcz69_0 : w64.cell? ⟨gb552, 0, none⟩ = some (.int .u64 0) := (blk_cell BK552.out 0).trans rfl; have hcz69_1 : w64.cell? ⟨gb552, 1, none⟩ = some (.int .u64 0) := (blk_cell BK552.out 1).trans rfl; have hfz69_0 := blk_frozen BK552.out 0; have hfz69_1 := blk_frozen BK552.out 1; have hnb70 := NB537_543.out; have hnc70 := NB543_537.out; have hcz71_0 : w64.cell? ⟨gb537, 0, none⟩ = some (.int .u64 a1_0) := (blk_cell BK537.out 0).trans rfl; have hcz71_1 : w64.cell? ⟨gb537, 1, none⟩ = some (.int .u64 a1_1) := (blk_cell BK537.out 1).trans rfl; have hfz71_0 := blk_frozen BK537.out 0; have hfz71_1 := blk_frozen BK537.out 1; have hcz72_0 : w64.cell? ⟨gb538, 0, none⟩ = some (.int .u64 a2_0) := (blk_cell BK538.out 0).trans rfl; have hcz72_1 : w64.cell? ⟨gb538, 1, none⟩ = some (.int .u64 a2_1) := (blk_cell BK538.out 1).trans rfl; have hfz72_0 := blk_frozen BK538.out 0; have hfz72_1 := blk_frozen BK538.out 1) | ((with_reducible refine gate_callee (f := 24) rfl ?_); refine goesL_ (some 71) rfl rfl Try.func24 (by kernel_rfl) rfl #[.agg #[.int .u64 a1_0, .int .u64 a1_1], .agg #[.int .u64 a2_0, .int .u64 a2_1]] rfl (by (try simp only [List.map_toArray, List.map_cons, List.map_nil]); first | done | rfl | (simp only [List.length_drop, List.length_take]; rfl)) ?_; (with_reducible refine (wide_Add.calls a1_0 a1_1 a2_0 a2_1 t553 t554 t555 _ A54.out).mono ?_); rintro e w73 ⟨rfl, hb⟩; refine ⟨_, rfl, ?_⟩; replace BK536 := Aside0.mk (blk_below (g := gb536) (o := .cells #[.int .u64 a0_0, .int .u64 a0_1] 46 (0, 0)) (by (with_reducible repeat (first | refine blk_drewN ?_ _ | refine blk_drew ?_ | refine blk_alloc ?_ _)); refine blk_far ?_ NB536_552.out _; (with_reducible repeat (first | refine blk_drewN ?_ _ | refine blk_drew ?_ | refine blk_alloc ?_ _)); refine blk_far ?_ NB536_552.out _; (with_reducible repeat (first | refine blk_drewN ?_ _ | refine blk_drew ?_ | refine blk_alloc ?_ _)); exact BK536.out) hb); replace BK537 := Aside0.mk (blk_below (g := gb537) (o := .cells #[.int .u64 a1_0, .int .u64 a1_1] 46 (0, 0)) (by (with_reducible repeat (first | refine blk_drewN ?_ _ | refine blk_drew ?_ | refine blk_alloc ?_ _)); refine blk_far ?_ NB537_552.out _; (with_reducible repeat (first | refine blk_drewN ?_ _ | refine blk_drew ?_ | refine blk_alloc ?_ _)); refine blk_far ?_ NB537_552.out _; (with_reducible repeat (first | refine blk_drewN ?_ _ | refine blk_drew ?_ | refine blk_alloc ?_ _)); exact BK537.out) hb); replace BK538 := Aside0.mk (blk_below (g := gb538) (o := .cells #[.int .u64 a2_0, .int .u64 a2_1] 46 (0, 0)) (by (with_reducible repeat (first | refine blk_drewN ?_ _ | refine blk_drew ?_ | refine blk_alloc ?_ _)); refine blk_far ?_ NB538_552.out _; (with_reducible repeat (first | refine blk_drewN ?_ _ | refine blk_drew ?_ | refine blk_alloc ?_ _)); refine blk_far ?_ NB538_552.out _; (with_reducible repeat (first | refine blk_drewN ?_ _ | refine blk_drew ?_ | refine blk_alloc ?_ _)); exact BK538.out) hb); replace BK543 := Aside0.mk (blk_below (g := gb543) (o := .cells #[.int .u64 t540, .int .u64 t541] 46 (0, 0)) (by (with_reducible repeat (first | refine blk_drewN ?_ _ | refine blk_drew ?_ | refine blk_alloc ?_ _)); refine blk_far ?_ NB543_552.out _; (with_reducible repeat (first | refine blk_drewN ?_ _ | refine blk_drew ?_ | refine blk_alloc ?_ _)); refine blk_far ?_ NB543_552.out _; (with_reducible repeat (first | refine blk_drewN ?_ _ | refine blk_drew ?_ | refine blk_alloc ?_ _)); exact BK543.out) hb); replace BK552 := Aside0.mk (blk_below (g := gb552) (o := .cells #[.int .u64 t549, .int .u64 t550] 46 (0, 0)) (by (with_reducible repeat (first | refine blk_drewN ?_ _ | refine blk_drew ?_ | refine blk_alloc ?_ _)); refine blk_put (cs := #[.int .u64 t549, .int .u64 0]) ?_ 1 _ rfl; (with_reducible repeat (first | refine blk_drewN ?_ _ | refine blk_drew ?_ | refine blk_alloc ?_ _)); refine blk_put (cs := #[.int .u64 0, .int .u64 0]) ?_ 0 _ rfl; (with_reducible repeat (first | refine blk_drewN ?_ _ | refine blk_drew ?_ | refine blk_alloc ?_ _)); exact BK552.out) hb); replace HB := Aside0.mk (below_step (by repeat (first | (with_reducible first | exact HB.out | apply below_alloc | apply pw_below_drewN | apply below_drew1 | refine below_set ?_ (Aside0.out (by assumption))) | exact HB.out)) hb); (try clear hb); (try clear hb2); (try clear hk); (try clear hi)) | ((with_reducible refine gate_dst (N := 14) rfl ?_); refine box_event ?hg (N := 14) ?hd (cs := #[.int .u64 0, .int .u64 0]) (t := 46) ?hr ?_; (case hd => rfl); (case hg => rfl); (case hr => first | (go_simp; done) | (go_simp; rfl)); intro gb556 hg w74 hbox hb; have BK556 := Aside0.mk (hbox); have GW556 := Aside0.mk ((by rw [hg]; exact (below_size (by repeat (first | (with_reducible first | exact HB.out | apply below_alloc | apply pw_below_drewN | apply below_drew1 | refine below_set ?_ (Aside0.out (by assumption))) | exact HB.out))) : w.heap.size ≤ gb556)); have GE556 := GW556; have NB536_556 := bn_ BK536 hg; have NB556_536 := bm_ BK536 hg; have NB537_556 := bn_ BK537 hg; have NB556_537 := bm_ BK537 hg; have NB538_556 := bn_ BK538 hg; have NB556_538 := bm_ BK538 hg; have NB543_556 := bn_ BK543 hg; have NB556_543 := bm_ BK543 hg; have NB552_556 := bn_ BK552 hg; have NB556_552 := bm_ BK552 hg; replace BK536 := bb_ BK536 hb; replace BK537 := bb_ BK537 hb; replace BK538 := bb_ BK538 hb; replace BK543 := bb_ BK543 hb; replace BK552 := bb_ BK552 hb; replace HB := Aside0.mk (below_step (by repeat (first | (with_reducible first | exact HB.out | apply below_alloc | apply pw_below_drewN | apply below_drew1 | refine below_set ?_ (Aside0.out (by assumption))) | exact HB.out)) hb); clear hb hbox hg; have hnb75 := NB556_536.out; have hnc75 := NB536_556.out; have hnb76 := NB556_537.out; have hnc76 := NB537_556.out; have hnb77 := NB556_538.out; have hnc77 := NB538_556.out; have hnb78 := NB556_543.out; have hnc78 := NB543_556.out; have hnb79 := NB556_552.out; have hnc79 := NB552_556.out; have hcz80_0 : w74.cell? ⟨gb556, 0, none⟩ = some (.int .u64 0) := (blk_cell BK556.out 0).trans rfl; have hcz80_1 : w74.cell? ⟨gb556, 1, none⟩ = some (.int .u64 0) := (blk_cell BK556.out 1).trans rfl; have hfz80_0 := blk_frozen BK556.out 0; have hfz80_1 := blk_frozen BK556.out 1))
   (try simp only [Act.put, List.setIfInBounds_toArray, List.set_cons_zero, List.set_cons_succ])
   go_cut [86] (fun v86 wc => ∃ (kq : Nat) (x86_54 : Bool), v86 = .bool x86_54 ∧ Aside0 (spigotlaw01_WideLess.j1 kq t539 x86_54 a0_0 a0_1 a1_0 a1_1 a2_0 a2_1 = some r) ∧ Aside0 (kq ≤ kj9) ∧ Aside0 (wc.heap[gb536]? = some (.cells #[.int .u64 a0_0, .int .u64 a0_1] 46 (0, 0))) ∧ Aside0 (wc.heap[gb537]? = some (.cells #[.int .u64 a1_0, .int .u64 a1_1] 46 (0, 0))) ∧ Aside0 (wc.heap[gb538]? = some (.cells #[.int .u64 a2_0, .int .u64 a2_1] 46 (0, 0))) ∧ Aside0 (wc.heap[gb543]? = some (.cells #[.int .u64 t540, .int .u64 t541] 46 (0, 0))) ∧ Aside0 (wc.heap[gb552]? = some (.cells #[.int .u64 t549, .int .u64 t550] 46 (0, 0))) ∧ Aside0 (wc.heap[gb556]? = some (.cells #[.int .u64 t553, .int .u64 t554] 46 (0, 0))) ∧ Aside0 (Below w.heap.size w wc))
   case first =>
    have H := HC55.out
    clear HC55
    by_cases c81 : t551 = 0
    ·rw [if_pos c81] at H
     have c81b0 : (t551 == 0) = true := beq_iff_eq.mpr c81
     have c81b1 : (t551 != 0) = false := bne_eq_false_iff_eq.mpr c81
     clear c81
     (first | rw [c81b0] | (simp only [i64_w, i32_w]; rw [c81b0]) | skip)
     by_cases c82 : t555 = 0
     ·rw [if_pos c82] at H
      have c82b0 : (t555 == 0) = true := beq_iff_eq.mpr c82
      have c82b1 : (t555 != 0) = false := bne_eq_false_iff_eq.mpr c82
      clear c82
      replace H := Option.bind_eq_some_iff.mp H
      obtain ⟨t557, A830, H⟩ := H
      replace H : (spigotlaw01_WideLess.j1 kj9 t539 (t557 != t539) a0_0 a0_1 a1_0 a1_1 a2_0 a2_1) = some r := H
      have A83 := Aside0.mk A830
      clear A830
      have H' := Aside0.mk H
      clear H
      have hnb84 := NB552_536.out
      have hnc84 := NB536_552.out
      have hnb85 := NB552_537.out
      have hnc85 := NB537_552.out
      have hnb86 := NB552_538.out
      have hnc86 := NB538_552.out
      have hnb87 := NB552_543.out
      have hnc87 := NB543_552.out
      have hnb88 := NB552_556.out
      have hnc88 := NB556_552.out
      have hcz89_0 : w74.cell? ⟨gb552, 0, none⟩ = some (.int .u64 t549) := (blk_cell BK552.out 0).trans rfl
      have hcz89_1 : w74.cell? ⟨gb552, 1, none⟩ = some (.int .u64 t550) := (blk_cell BK552.out 1).trans rfl
      have hfz89_0 := blk_frozen BK552.out 0
      have hfz89_1 := blk_frozen BK552.out 1
      have hnb90 := NB556_536.out
      have hnc90 := NB536_556.out
      have hnb91 := NB556_537.out
      have hnc91 := NB537_556.out
      have hnb92 := NB556_538.out
      have hnc92 := NB538_556.out
      have hnb93 := NB556_543.out
      have hnc93 := NB543_556.out
      have hcz94_0 : w74.cell? ⟨gb556, 0, none⟩ = some (.int .u64 0) := (blk_cell BK556.out 0).trans rfl
      have hcz94_1 : w74.cell? ⟨gb556, 1, none⟩ = some (.int .u64 0) := (blk_cell BK556.out 1).trans rfl
      have hfz94_0 := blk_frozen BK556.out 0
      have hfz94_1 := blk_frozen BK556.out 1
      go_wp2_with (first | (go_at_call 30; (with_reducible refine (wide_Cmp.calls kj9 t549 t550 t553 t554 t557 _ A83.out).mono ?_); rintro e w95 ⟨rfl, hb⟩; replace BK536 := Aside0.mk (blk_below (g := gb536) (o := .cells #[.int .u64 a0_0, .int .u64 a0_1] 46 (0, 0)) (by (with_reducible repeat (first | refine blk_drewN ?_ _ | refine blk_drew ?_ | refine blk_alloc ?_ _)); refine blk_far ?_ NB536_556.out _; (with_reducible repeat (first | refine blk_drewN ?_ _ | refine blk_drew ?_ | refine blk_alloc ?_ _)); refine blk_far ?_ NB536_556.out _; (with_reducible repeat (first | refine blk_drewN ?_ _ | refine blk_drew ?_ | refine blk_alloc ?_ _)); exact BK536.out) hb); replace BK537 := Aside0.mk (blk_below (g := gb537) (o := .cells #[.int .u64 a1_0, .int .u64 a1_1] 46 (0, 0)) (by (with_reducible repeat (first | refine blk_drewN ?_ _ | refine blk_drew ?_ | refine blk_alloc ?_ _)); refine blk_far ?_ NB537_556.out _; (with_reducible repeat (first | refine blk_drewN ?_ _ | refine blk_drew ?_ | refine blk_alloc ?_ _)); refine blk_far ?_ NB537_556.out _; (with_reducible repeat (first | refine blk_drewN ?_ _ | refine blk_drew ?_ | refine blk_alloc ?_ _)); exact BK537.out) hb); replace BK538 := Aside0.mk (blk_below (g := gb538) (o := .cells #[.int .u64 a2_0, .int .u64 a2_1] 46 (0, 0)) (by (with_reducible repeat (first | refine blk_drewN ?_ _ | refine blk_drew ?_ | refine blk_alloc ?_ _)); refine blk_far ?_ NB538_556.out _; (with_reducible repeat (first | refine blk_drewN ?_ _ | refine blk_drew ?_ | refine blk_alloc ?_ _)); refine blk_far ?_ NB538_556.out _; (with_reducible repeat (first | refine blk_drewN ?_ _ | refine blk_drew ?_ | refine blk_alloc ?_ _)); exact BK538.out) hb); replace BK543 := Aside0.mk (blk_below (g := gb543) (o := .cells #[.int .u64 t540, .int .u64 t541] 46 (0, 0)) (by (with_reducible repeat (first | refine blk_drewN ?_ _ | refine blk_drew ?_ | refine blk_alloc ?_ _)); refine blk_far ?_ NB543_556.out _; (with_reducible repeat (first | refine blk_drewN ?_ _ | refine blk_drew ?_ | refine blk_alloc ?_ _)); refine blk_far ?_ NB543_556.out _; (with_reducible repeat (first | refine blk_drewN ?_ _ | refine blk_drew ?_ | refine blk_alloc ?_ _)); exact BK543.out) hb); replace BK552 := Aside0.mk (blk_below (g := gb552) (o := .cells #[.int .u64 t549, .int .u64 t550] 46 (0, 0)) (by (with_reducible repeat (first | refine blk_drewN ?_ _ | refine blk_drew ?_ | refine blk_alloc ?_ _)); refine blk_far ?_ NB552_556.out _; (with_reducible repeat (first | refine blk_drewN ?_ _ | refine blk_drew ?_ | refine blk_alloc ?_ _)); refine blk_far ?_ NB552_556.out _; (with_reducible repeat (first | refine blk_drewN ?_ _ | refine blk_drew ?_ | refine blk_alloc ?_ _)); exact BK552.out) hb); replace BK556 := Aside0.mk (blk_below (g := gb556) (o := .cells #[.int .u64 t553, .int .u64 t554] 46 (0, 0)) (by (with_reducible repeat (first | refine blk_drewN ?_ _ | refine blk_drew ?_ | refine blk_alloc ?_ _)); refine blk_put (cs := #[.int .u64 t553, .int .u64 0]) ?_ 1 _ rfl; (with_reducible repeat (first | refine blk_drewN ?_ _ | refine blk_drew ?_ | refine blk_alloc ?_ _)); refine blk_put (cs := #[.int .u64 0, .int .u64 0]) ?_ 0 _ rfl; (with_reducible repeat (first | refine blk_drewN ?_ _ | refine blk_drew ?_ | refine blk_alloc ?_ _)); exact BK556.out) hb); replace HB := Aside0.mk (below_step (by repeat (first | (with_reducible first | exact HB.out | apply below_alloc | apply pw_below_drewN | apply below_drew1 | refine below_set ?_ (Aside0.out (by assumption))) | exact HB.out)) hb); (try clear hb); (try clear hb2); (try clear hk); (try clear hi)))
      go_meet
      case rel => exact ⟨_, ((t557 != t539)), (by first | rfl | (simp; done) | (simp [*]; done)), H', ⟨by have := HJ9.out; first | omega | exact Nat.le_refl _⟩, ⟨by (with_reducible repeat (first | refine blk_drewN ?_ _ | refine blk_drew ?_ | refine blk_alloc ?_ _)); exact BK536.out⟩, ⟨by (with_reducible repeat (first | refine blk_drewN ?_ _ | refine blk_drew ?_ | refine blk_alloc ?_ _)); exact BK537.out⟩, ⟨by (with_reducible repeat (first | refine blk_drewN ?_ _ | refine blk_drew ?_ | refine blk_alloc ?_ _)); exact BK538.out⟩, ⟨by (with_reducible repeat (first | refine blk_drewN ?_ _ | refine blk_drew ?_ | refine blk_alloc ?_ _)); exact BK543.out⟩, ⟨by (with_reducible repeat (first | refine blk_drewN ?_ _ | refine blk_drew ?_ | refine blk_alloc ?_ _)); exact BK552.out⟩, ⟨by (with_reducible repeat (first | refine blk_drewN ?_ _ | refine blk_drew ?_ | refine blk_alloc ?_ _)); exact BK556.out⟩, ⟨by repeat (first | (with_reducible first | exact HB.out | apply below_alloc | apply pw_below_drewN | apply below_drew1 | refine below_set ?_ GE536.out | refine below_set ?_ GE537.out | refine below_set ?_ GE538.out | refine below_set ?_ GE543.out | refine below_set ?_ GE552.out | refine below_set ?_ GE556.out) | exact HB.out)⟩⟩
     ·rw [if_neg c82] at H
      have c82b0 : (t555 == 0) = false := beq_eq_false_iff_ne.mpr c82
      have c82b1 : (t555 != 0) = true := bne_iff_ne.mpr c82
      have H' := Aside0.mk H
      clear H
      go_wp2
      go_meet
      case rel => exact ⟨_, (false), (by first | rfl | (simp; done) | (simp [*]; done)), H', ⟨by have := HJ9.out; first | omega | exact Nat.le_refl _⟩, ⟨by (with_reducible repeat (first | refine blk_drewN ?_ _ | refine blk_drew ?_ | refine blk_alloc ?_ _)); refine blk_far ?_ NB536_556.out _; (with_reducible repeat (first | refine blk_drewN ?_ _ | refine blk_drew ?_ | refine blk_alloc ?_ _)); refine blk_far ?_ NB536_556.out _; (with_reducible repeat (first | refine blk_drewN ?_ _ | refine blk_drew ?_ | refine blk_alloc ?_ _)); exact BK536.out⟩, ⟨by (with_reducible repeat (first | refine blk_drewN ?_ _ | refine blk_drew ?_ | refine blk_alloc ?_ _)); refine blk_far ?_ NB537_556.out _; (with_reducible repeat (first | refine blk_drewN ?_ _ | refine blk_drew ?_ | refine blk_alloc ?_ _)); refine blk_far ?_ NB537_556.out _; (with_reducible repeat (first | refine blk_drewN ?_ _ | refine blk_drew ?_ | refine blk_alloc ?_ _)); exact BK537.out⟩, ⟨by (with_reducible repeat (first | refine blk_drewN ?_ _ | refine blk_drew ?_ | refine blk_alloc ?_ _)); refine blk_far ?_ NB538_556.out _; (with_reducible repeat (first | refine blk_drewN ?_ _ | refine blk_drew ?_ | refine blk_alloc ?_ _)); refine blk_far ?_ NB538_556.out _; (with_reducible repeat (first | refine blk_drewN ?_ _ | refine blk_drew ?_ | refine blk_alloc ?_ _)); exact BK538.out⟩, ⟨by (with_reducible repeat (first | refine blk_drewN ?_ _ | refine blk_drew ?_ | refine blk_alloc ?_ _)); refine blk_far ?_ NB543_556.out _; (with_reducible repeat (first | refine blk_drewN ?_ _ | refine blk_drew ?_ | refine blk_alloc ?_ _)); refine blk_far ?_ NB543_556.out _; (with_reducible repeat (first | refine blk_drewN ?_ _ | refine blk_drew ?_ | refine blk_alloc ?_ _)); exact BK543.out⟩, ⟨by (with_reducible repeat (first | refine blk_drewN ?_ _ | refine blk_drew ?_ | refine blk_alloc ?_ _)); refine blk_far ?_ NB552_556.out _; (with_reducible repeat (first | refine blk_drewN ?_ _ | refine blk_drew ?_ | refine blk_alloc ?_ _)); refine blk_far ?_ NB552_556.out _; (with_reducible repeat (first | refine blk_drewN ?_ _ | refine blk_drew ?_ | refine blk_alloc ?_ _)); exact BK552.out⟩, ⟨by (with_reducible repeat (first | refine blk_drewN ?_ _ | refine blk_drew ?_ | refine blk_alloc ?_ _)); refine blk_put (cs := #[.int .u64 t553, .int .u64 0]) ?_ 1 _ rfl; (with_reducible repeat (first | refine blk_drewN ?_ _ | refine blk_drew ?_ | refine blk_alloc ?_ _)); refine blk_put (cs := #[.int .u64 0, .int .u64 0]) ?_ 0 _ rfl; (with_reducible repeat (first | refine blk_drewN ?_ _ | refine blk_drew ?_ | refine blk_alloc ?_ _)); exact BK556.out⟩, ⟨by repeat (first | (with_reducible first | exact HB.out | apply below_alloc | apply pw_below_drewN | apply below_drew1 | refine below_set ?_ GE536.out | refine below_set ?_ GE537.out | refine below_set ?_ GE538.out | refine below_set ?_ GE543.out | refine below_set ?_ GE552.out | refine below_set ?_ GE556.out) | exact HB.out)⟩⟩
    ·rw [if_neg c81] at H
     have c81b0 : (t551 == 0) = false := beq_eq_false_iff_ne.mpr c81
     have c81b1 : (t551 != 0) = true := bne_iff_ne.mpr c81
     (first | rw [c81b0] | (simp only [i64_w, i32_w]; rw [c81b0]) | skip)
     have H' := Aside0.mk H
     clear H
     go_wp2
     go_meet
     case rel => exact ⟨_, (false), (by first | rfl | (simp; done) | (simp [*]; done)), H', ⟨by have := HJ9.out; first | omega | exact Nat.le_refl _⟩, ⟨by (with_reducible repeat (first | refine blk_drewN ?_ _ | refine blk_drew ?_ | refine blk_alloc ?_ _)); refine blk_far ?_ NB536_556.out _; (with_reducible repeat (first | refine blk_drewN ?_ _ | refine blk_drew ?_ | refine blk_alloc ?_ _)); refine blk_far ?_ NB536_556.out _; (with_reducible repeat (first | refine blk_drewN ?_ _ | refine blk_drew ?_ | refine blk_alloc ?_ _)); exact BK536.out⟩, ⟨by (with_reducible repeat (first | refine blk_drewN ?_ _ | refine blk_drew ?_ | refine blk_alloc ?_ _)); refine blk_far ?_ NB537_556.out _; (with_reducible repeat (first | refine blk_drewN ?_ _ | refine blk_drew ?_ | refine blk_alloc ?_ _)); refine blk_far ?_ NB537_556.out _; (with_reducible repeat (first | refine blk_drewN ?_ _ | refine blk_drew ?_ | refine blk_alloc ?_ _)); exact BK537.out⟩, ⟨by (with_reducible repeat (first | refine blk_drewN ?_ _ | refine blk_drew ?_ | refine blk_alloc ?_ _)); refine blk_far ?_ NB538_556.out _; (with_reducible repeat (first | refine blk_drewN ?_ _ | refine blk_drew ?_ | refine blk_alloc ?_ _)); refine blk_far ?_ NB538_556.out _; (with_reducible repeat (first | refine blk_drewN ?_ _ | refine blk_drew ?_ | refine blk_alloc ?_ _)); exact BK538.out⟩, ⟨by (with_reducible repeat (first | refine blk_drewN ?_ _ | refine blk_drew ?_ | refine blk_alloc ?_ _)); refine blk_far ?_ NB543_556.out _; (with_reducible repeat (first | refine blk_drewN ?_ _ | refine blk_drew ?_ | refine blk_alloc ?_ _)); refine blk_far ?_ NB543_556.out _; (with_reducible repeat (first | refine blk_drewN ?_ _ | refine blk_drew ?_ | refine blk_alloc ?_ _)); exact BK543.out⟩, ⟨by (with_reducible repeat (first | refine blk_drewN ?_ _ | refine blk_drew ?_ | refine blk_alloc ?_ _)); refine blk_far ?_ NB552_556.out _; (with_reducible repeat (first | refine blk_drewN ?_ _ | refine blk_drew ?_ | refine blk_alloc ?_ _)); refine blk_far ?_ NB552_556.out _; (with_reducible repeat (first | refine blk_drewN ?_ _ | refine blk_drew ?_ | refine blk_alloc ?_ _)); exact BK552.out⟩, ⟨by (with_reducible repeat (first | refine blk_drewN ?_ _ | refine blk_drew ?_ | refine blk_alloc ?_ _)); refine blk_put (cs := #[.int .u64 t553, .int .u64 0]) ?_ 1 _ rfl; (with_reducible repeat (first | refine blk_drewN ?_ _ | refine blk_drew ?_ | refine blk_alloc ?_ _)); refine blk_put (cs := #[.int .u64 0, .int .u64 0]) ?_ 0 _ rfl; (with_reducible repeat (first | refine blk_drewN ?_ _ | refine blk_drew ?_ | refine blk_alloc ?_ _)); exact BK556.out⟩, ⟨by repeat (first | (with_reducible first | exact HB.out | apply below_alloc | apply pw_below_drewN | apply below_drew1 | refine below_set ?_ GE536.out | refine below_set ?_ GE537.out | refine below_set ?_ GE538.out | refine below_set ?_ GE543.out | refine below_set ?_ GE552.out | refine below_set ?_ GE556.out) | exact HB.out)⟩⟩
   case rest =>
    clear HC55
    try clear c1
    try clear c2
    try clear p2
    try clear c3
    try clear c4
    try clear c5
    try clear c6
    try clear c6b0
    try clear c6b1
    try clear c6b2
    try clear p6
    try clear c7
    try clear c8
    try clear c8b0
    try clear c8b1
    try clear c9
    try clear c9b0
    try clear c9b1
    try clear c9b2
    try clear c13
    try clear c14
    try clear c15
    try clear c17
    try clear c24
    try clear c25
    try clear c26
    try clear c30
    try clear c33
    try clear c33b0
    try clear c33b1
    try clear c35
    try clear c35b0
    try clear c35b1
    try clear c36
    try clear c36b0
    try clear c37
    try clear c38
    try clear c39
    try clear c41
    try clear c42
    try clear c46
    try clear c47
    try clear c48
    try clear c49
    try clear c51
    try clear c56
    try clear c57
    try clear c58
    try clear c60
    try clear c61
    try clear p64
    try clear c65
    try clear c66
    try clear c67
    try clear c68
    try clear c70
    try clear c75
    try clear c76
    try clear c77
    try clear c78
    try clear c79
    try clear c81
    try clear c81b0
    try clear c81b1
    try clear c82
    try clear c82b0
    try clear c82b1
    try clear c84
    try clear c85
    try clear c86
    try clear c87
    try clear c88
    try clear c90
    try clear c91
    try clear c92
    try clear c93
    try clear hcz16_0
    try clear hcz16_1
    try clear hcz18_0
    try clear hcz18_1
    try clear hcz20_0
    try clear hcz20_1
    try clear hcz21_0
    try clear hcz21_1
    try clear hcz27_0
    try clear hcz27_1
    try clear hcz28_0
    try clear hcz28_1
    try clear hcz29_0
    try clear hcz29_1
    try clear hcz31_0
    try clear hcz31_1
    try clear hcz32_0
    try clear hcz32_1
    try clear hcz40_0
    try clear hcz40_1
    try clear hcz43_0
    try clear hcz43_1
    try clear hcz50_0
    try clear hcz50_1
    try clear hcz52_0
    try clear hcz52_1
    try clear hcz59_0
    try clear hcz59_1
    try clear hcz62_0
    try clear hcz62_1
    try clear hcz69_0
    try clear hcz69_1
    try clear hcz71_0
    try clear hcz71_1
    try clear hcz72_0
    try clear hcz72_1
    try clear hcz80_0
    try clear hcz80_1
    try clear hcz89_0
    try clear hcz89_1
    try clear hcz94_0
    try clear hcz94_1
    try clear hfz16_0
    try clear hfz16_1
    try clear hfz18_0
    try clear hfz18_1
    try clear hfz20_0
    try clear hfz20_1
    try clear hfz21_0
    try clear hfz21_1
    try clear hfz27_0
    try clear hfz27_1
    try clear hfz28_0
    try clear hfz28_1
    try clear hfz29_0
    try clear hfz29_1
    try clear hfz31_0
    try clear hfz31_1
    try clear hfz32_0
    try clear hfz32_1
    try clear hfz40_0
    try clear hfz40_1
    try clear hfz43_0
    try clear hfz43_1
    try clear hfz50_0
    try clear hfz50_1
    try clear hfz52_0
    try clear hfz52_1
    try clear hfz59_0
    try clear hfz59_1
    try clear hfz62_0
    try clear hfz62_1
    try clear hfz69_0
    try clear hfz69_1
    try clear hfz71_0
    try clear hfz71_1
    try clear hfz72_0
    try clear hfz72_1
    try clear hfz80_0
    try clear hfz80_1
    try clear hfz89_0
    try clear hfz89_1
    try clear hfz94_0
    try clear hfz94_1
    try clear p2
    try clear p6
    obtain ⟨kq, x86_54, rfl, HA, HJ54, BK536, BK537, BK538, BK543, BK552, BK556, HB⟩ := hcut
    cases kq with
    | zero => exact absurd HA.out (by simp [spigotlaw01_WideLess.j1])
    | succ kj54 =>
     have H := HA.out
     clear HA
     simp only [spigotlaw01_WideLess.j1] at H
     by_cases c96 : x86_54 = true
     ·subst c96
      have H1 : (none) = some r := by rw [if_pos rfl] at H; exact H
      clear H
      have H := H1
      clear H1
      exact absurd H (by simp)
     ·replace c96 := Bool.eq_false_iff.mpr c96
      subst c96
      have H1 : ((wide_Cmp.f kj54 a1_0 a1_1 a2_0 a2_1).bind fun t558 => (if t539 > 0 then ((spigotlaw01_alive.f kj54).bind fun t559 => (some t559)) else (if t558 > 0 then ((spigotlaw01_alive.f kj54).bind fun t560 => (some t560)) else ((wide_Cmp.f kj54 a0_0 a0_1 a2_0 a2_1).bind fun t561 => (if t561 ≤ 0 then ((spigotlaw01_alive.f kj54).bind fun t562 => (some t562)) else (none)))))) = some r := by rw [if_neg (show ¬ (false = true) by decide)] at H; exact H
      clear H
      have H := H1
      clear H1
      replace H := Option.bind_eq_some_iff.mp H
      obtain ⟨t558, A970, H⟩ := H
      try dsimp only at H
      have A97 := Aside0.mk A970
      clear A970
      by_cases c98 : t539 > 0
      ·rw [if_pos c98] at H
       have c98b0 : decide (0 < t539) = true := decide_eq_true c98
       clear c98
       replace H := Option.bind_eq_some_iff.mp H
       obtain ⟨t559, A990, H⟩ := H
       replace H : (some t559) = some r := H
       have A99 := Aside0.mk A990
       clear A990
       obtain rfl := Option.some.inj H
       have hnb100 := NB537_536.out
       have hnc100 := NB536_537.out
       have hnb101 := NB537_538.out
       have hnc101 := NB538_537.out
       have hnb102 := NB537_543.out
       have hnc102 := NB543_537.out
       have hnb103 := NB537_552.out
       have hnc103 := NB552_537.out
       have hnb104 := NB537_556.out
       have hnc104 := NB556_537.out
       have hcz105_0 : wc.cell? ⟨gb537, 0, none⟩ = some (.int .u64 a1_0) := (blk_cell BK537.out 0).trans rfl
       have hcz105_1 : wc.cell? ⟨gb537, 1, none⟩ = some (.int .u64 a1_1) := (blk_cell BK537.out 1).trans rfl
       have hfz105_0 := blk_frozen BK537.out 0
       have hfz105_1 := blk_frozen BK537.out 1
       have hnb106 := NB538_536.out
       have hnc106 := NB536_538.out
       have hnb107 := NB538_543.out
       have hnc107 := NB543_538.out
       have hnb108 := NB538_552.out
       have hnc108 := NB552_538.out
       have hnb109 := NB538_556.out
       have hnc109 := NB556_538.out
       have hcz110_0 : wc.cell? ⟨gb538, 0, none⟩ = some (.int .u64 a2_0) := (blk_cell BK538.out 0).trans rfl
       have hcz110_1 : wc.cell? ⟨gb538, 1, none⟩ = some (.int .u64 a2_1) := (blk_cell BK538.out 1).trans rfl
       have hfz110_0 := blk_frozen BK538.out 0
       have hfz110_1 := blk_frozen BK538.out 1
       go_wp2_with (first | ((with_reducible refine gate_callee (f := 30) rfl ?_); refine goesL_ (some 89) rfl rfl Try.func30 (by kernel_rfl) rfl #[.agg #[.int .u64 a1_0, .int .u64 a1_1], .agg #[.int .u64 a2_0, .int .u64 a2_1]] rfl (by (try simp only [List.map_toArray, List.map_cons, List.map_nil]); first | done | rfl | (simp only [List.length_drop, List.length_take]; rfl)) ?_; (with_reducible refine (wide_Cmp.calls kj54 a1_0 a1_1 a2_0 a2_1 t558 _ A97.out).mono ?_); rintro e w111 ⟨rfl, hb⟩; refine ⟨_, rfl, ?_⟩; replace BK536 := bb_ BK536 hb; replace BK537 := bb_ BK537 hb; replace BK538 := bb_ BK538 hb; replace BK543 := bb_ BK543 hb; replace BK552 := bb_ BK552 hb; replace BK556 := bb_ BK556 hb; replace HB := Aside0.mk (below_step (by repeat (first | (with_reducible first | exact HB.out | apply below_alloc | apply pw_below_drewN | apply below_drew1 | refine below_set ?_ (Aside0.out (by assumption))) | exact HB.out)) hb); (try clear hb); (try clear hb2); (try clear hk); (try clear hi)) | (go_at_call 39; (with_reducible refine (spigotlaw01_alive.calls kj54  t559 _ A99.out).mono ?_); rintro e w112 ⟨rfl, hb⟩; replace BK536 := bb_ BK536 hb; replace BK537 := bb_ BK537 hb; replace BK538 := bb_ BK538 hb; replace BK543 := bb_ BK543 hb; replace BK552 := bb_ BK552 hb; replace BK556 := bb_ BK556 hb; replace HB := Aside0.mk (below_step (by repeat (first | (with_reducible first | exact HB.out | apply below_alloc | apply pw_below_drewN | apply below_drew1 | refine below_set ?_ (Aside0.out (by assumption))) | exact HB.out)) hb); (try clear hb); (try clear hb2); (try clear hk); (try clear hi)))
       go_ret
       exact ⟨by first | rfl | (simp [errW_none, errW_some] <;> rfl) | (simp [*, errW_none, errW_some] <;> rfl), by repeat (first | (with_reducible first | exact HB.out | apply below_alloc | apply pw_below_drewN | apply below_drew1 | refine below_set ?_ GE536.out | refine below_set ?_ GE537.out | refine below_set ?_ GE538.out | refine below_set ?_ GE543.out | refine below_set ?_ GE552.out | refine below_set ?_ GE556.out) | exact HB.out)⟩
      ·rw [if_neg c98] at H
       have c98b0 : decide (0 < t539) = false := decide_eq_false c98
       clear c98
       by_cases c113 : t558 > 0
       ·rw [if_pos c113] at H
        have c113b0 : decide (0 < t558) = true := decide_eq_true c113
        clear c113
        replace H := Option.bind_eq_some_iff.mp H
        obtain ⟨t560, A1140, H⟩ := H
        replace H : (some t560) = some r := H
        have A114 := Aside0.mk A1140
        clear A1140
        obtain rfl := Option.some.inj H
        have hnb115 := NB537_536.out
        have hnc115 := NB536_537.out
        have hnb116 := NB537_538.out
        have hnc116 := NB538_537.out
        have hnb117 := NB537_543.out
        have hnc117 := NB543_537.out
        have hnb118 := NB537_552.out
        have hnc118 := NB552_537.out
        have hnb119 := NB537_556.out
        have hnc119 := NB556_537.out
        have hcz120_0 : wc.cell? ⟨gb537, 0, none⟩ = some (.int .u64 a1_0) := (blk_cell BK537.out 0).trans rfl
        have hcz120_1 : wc.cell? ⟨gb537, 1, none⟩ = some (.int .u64 a1_1) := (blk_cell BK537.out 1).trans rfl
        have hfz120_0 := blk_frozen BK537.out 0
        have hfz120_1 := blk_frozen BK537.out 1
        have hnb121 := NB538_536.out
        have hnc121 := NB536_538.out
        have hnb122 := NB538_543.out
        have hnc122 := NB543_538.out
        have hnb123 := NB538_552.out
        have hnc123 := NB552_538.out
        have hnb124 := NB538_556.out
        have hnc124 := NB556_538.out
        have hcz125_0 : wc.cell? ⟨gb538, 0, none⟩ = some (.int .u64 a2_0) := (blk_cell BK538.out 0).trans rfl
        have hcz125_1 : wc.cell? ⟨gb538, 1, none⟩ = some (.int .u64 a2_1) := (blk_cell BK538.out 1).trans rfl
        have hfz125_0 := blk_frozen BK538.out 0
        have hfz125_1 := blk_frozen BK538.out 1
        go_wp2_with (first | ((with_reducible refine gate_callee (f := 30) rfl ?_); refine goesL_ (some 89) rfl rfl Try.func30 (by kernel_rfl) rfl #[.agg #[.int .u64 a1_0, .int .u64 a1_1], .agg #[.int .u64 a2_0, .int .u64 a2_1]] rfl (by (try simp only [List.map_toArray, List.map_cons, List.map_nil]); first | done | rfl | (simp only [List.length_drop, List.length_take]; rfl)) ?_; (with_reducible refine (wide_Cmp.calls kj54 a1_0 a1_1 a2_0 a2_1 t558 _ A97.out).mono ?_); rintro e w126 ⟨rfl, hb⟩; refine ⟨_, rfl, ?_⟩; replace BK536 := bb_ BK536 hb; replace BK537 := bb_ BK537 hb; replace BK538 := bb_ BK538 hb; replace BK543 := bb_ BK543 hb; replace BK552 := bb_ BK552 hb; replace BK556 := bb_ BK556 hb; replace HB := Aside0.mk (below_step (by repeat (first | (with_reducible first | exact HB.out | apply below_alloc | apply pw_below_drewN | apply below_drew1 | refine below_set ?_ (Aside0.out (by assumption))) | exact HB.out)) hb); (try clear hb); (try clear hb2); (try clear hk); (try clear hi)) | (go_at_call 39; (with_reducible refine (spigotlaw01_alive.calls kj54  t560 _ A114.out).mono ?_); rintro e w127 ⟨rfl, hb⟩; replace BK536 := bb_ BK536 hb; replace BK537 := bb_ BK537 hb; replace BK538 := bb_ BK538 hb; replace BK543 := bb_ BK543 hb; replace BK552 := bb_ BK552 hb; replace BK556 := bb_ BK556 hb; replace HB := Aside0.mk (below_step (by repeat (first | (with_reducible first | exact HB.out | apply below_alloc | apply pw_below_drewN | apply below_drew1 | refine below_set ?_ (Aside0.out (by assumption))) | exact HB.out)) hb); (try clear hb); (try clear hb2); (try clear hk); (try clear hi)))
        go_ret
        exact ⟨by first | rfl | (simp [errW_none, errW_some] <;> rfl) | (simp [*, errW_none, errW_some] <;> rfl), by repeat (first | (with_reducible first | exact HB.out | apply below_alloc | apply pw_below_drewN | apply below_drew1 | refine below_set ?_ GE536.out | refine below_set ?_ GE537.out | refine below_set ?_ GE538.out | refine below_set ?_ GE543.out | refine below_set ?_ GE552.out | refine below_set ?_ GE556.out) | exact HB.out)⟩
       ·rw [if_neg c113] at H
        have c113b0 : decide (0 < t558) = false := decide_eq_false c113
        clear c113
        replace H := Option.bind_eq_some_iff.mp H
        obtain ⟨t561, A1280, H⟩ := H
        replace H : (if t561 ≤ 0 then ((spigotlaw01_alive.f kj54).bind fun t562 => (some t562)) else (none)) = some r := H
        have A128 := Aside0.mk A1280
        clear A1280
        by_cases c129 : t561 ≤ 0
        rotate_left
        ·rw [if_neg c129] at H; exact absurd H (by simp)
        rw [if_pos c129] at H
        have c129b0 : decide (t561 ≤ 0) = true := decide_eq_true c129
        clear c129
        replace H := Option.bind_eq_some_iff.mp H
        obtain ⟨t562, A1300, H⟩ := H
        replace H : (some t562) = some r := H
        have A130 := Aside0.mk A1300
        clear A1300
        obtain rfl := Option.some.inj H
        have hnb131 := NB537_536.out
        have hnc131 := NB536_537.out
        have hnb132 := NB537_538.out
        have hnc132 := NB538_537.out
        have hnb133 := NB537_543.out
        have hnc133 := NB543_537.out
        have hnb134 := NB537_552.out
        have hnc134 := NB552_537.out
        have hnb135 := NB537_556.out
        have hnc135 := NB556_537.out
        have hcz136_0 : wc.cell? ⟨gb537, 0, none⟩ = some (.int .u64 a1_0) := (blk_cell BK537.out 0).trans rfl
        have hcz136_1 : wc.cell? ⟨gb537, 1, none⟩ = some (.int .u64 a1_1) := (blk_cell BK537.out 1).trans rfl
        have hfz136_0 := blk_frozen BK537.out 0
        have hfz136_1 := blk_frozen BK537.out 1
        have hnb137 := NB538_536.out
        have hnc137 := NB536_538.out
        have hnb138 := NB538_543.out
        have hnc138 := NB543_538.out
        have hnb139 := NB538_552.out
        have hnc139 := NB552_538.out
        have hnb140 := NB538_556.out
        have hnc140 := NB556_538.out
        have hcz141_0 : wc.cell? ⟨gb538, 0, none⟩ = some (.int .u64 a2_0) := (blk_cell BK538.out 0).trans rfl
        have hcz141_1 : wc.cell? ⟨gb538, 1, none⟩ = some (.int .u64 a2_1) := (blk_cell BK538.out 1).trans rfl
        have hfz141_0 := blk_frozen BK538.out 0
        have hfz141_1 := blk_frozen BK538.out 1
        go_wp2_with (first | ((with_reducible refine gate_callee (f := 30) rfl ?_); refine goesL_ (some 89) rfl rfl Try.func30 (by kernel_rfl) rfl #[.agg #[.int .u64 a1_0, .int .u64 a1_1], .agg #[.int .u64 a2_0, .int .u64 a2_1]] rfl (by (try simp only [List.map_toArray, List.map_cons, List.map_nil]); first | done | rfl | (simp only [List.length_drop, List.length_take]; rfl)) ?_; (with_reducible refine (wide_Cmp.calls kj54 a1_0 a1_1 a2_0 a2_1 t558 _ A97.out).mono ?_); rintro e w142 ⟨rfl, hb⟩; refine ⟨_, rfl, ?_⟩; replace BK536 := bb_ BK536 hb; replace BK537 := bb_ BK537 hb; replace BK538 := bb_ BK538 hb; replace BK543 := bb_ BK543 hb; replace BK552 := bb_ BK552 hb; replace BK556 := bb_ BK556 hb; replace HB := Aside0.mk (below_step (by repeat (first | (with_reducible first | exact HB.out | apply below_alloc | apply pw_below_drewN | apply below_drew1 | refine below_set ?_ (Aside0.out (by assumption))) | exact HB.out)) hb); (try clear hb); (try clear hb2); (try clear hk); (try clear hi); have hnb143 := NB536_543.out; have hnc143 := NB543_536.out; have hnb144 := NB536_552.out; have hnc144 := NB552_536.out; have hnb145 := NB536_556.out; have hnc145 := NB556_536.out; have hcz146_0 : w142.cell? ⟨gb536, 0, none⟩ = some (.int .u64 a0_0) := (blk_cell BK536.out 0).trans rfl; have hcz146_1 : w142.cell? ⟨gb536, 1, none⟩ = some (.int .u64 a0_1) := (blk_cell BK536.out 1).trans rfl; have hfz146_0 := blk_frozen BK536.out 0; have hfz146_1 := blk_frozen BK536.out 1; have hcz147_0 : w142.cell? ⟨gb538, 0, none⟩ = some (.int .u64 a2_0) := (blk_cell BK538.out 0).trans rfl; have hcz147_1 : w142.cell? ⟨gb538, 1, none⟩ = some (.int .u64 a2_1) := (blk_cell BK538.out 1).trans rfl; have hfz147_0 := blk_frozen BK538.out 0; have hfz147_1 := blk_frozen BK538.out 1) | (go_at_call 30; (with_reducible refine (wide_Cmp.calls kj54 a0_0 a0_1 a2_0 a2_1 t561 _ A128.out).mono ?_); rintro e w148 ⟨rfl, hb⟩; replace BK536 := bb_ BK536 hb; replace BK537 := bb_ BK537 hb; replace BK538 := bb_ BK538 hb; replace BK543 := bb_ BK543 hb; replace BK552 := bb_ BK552 hb; replace BK556 := bb_ BK556 hb; replace HB := Aside0.mk (below_step (by repeat (first | (with_reducible first | exact HB.out | apply below_alloc | apply pw_below_drewN | apply below_drew1 | refine below_set ?_ (Aside0.out (by assumption))) | exact HB.out)) hb); (try clear hb); (try clear hb2); (try clear hk); (try clear hi)) | (go_at_call 39; (with_reducible refine (spigotlaw01_alive.calls kj54  t562 _ A130.out).mono ?_); rintro e w149 ⟨rfl, hb⟩; replace BK536 := bb_ BK536 hb; replace BK537 := bb_ BK537 hb; replace BK538 := bb_ BK538 hb; replace BK543 := bb_ BK543 hb; replace BK552 := bb_ BK552 hb; replace BK556 := bb_ BK556 hb; replace HB := Aside0.mk (below_step (by repeat (first | (with_reducible first | exact HB.out | apply below_alloc | apply pw_below_drewN | apply below_drew1 | refine below_set ?_ (Aside0.out (by assumption))) | exact HB.out)) hb); (try clear hb); (try clear hb2); (try clear hk); (try clear hi)))
        go_ret
        exact ⟨by first | rfl | (simp [errW_none, errW_some] <;> rfl) | (simp [*, errW_none, errW_some] <;> rfl), by repeat (first | (with_reducible first | exact HB.out | apply below_alloc | apply pw_below_drewN | apply below_drew1 | refine below_set ?_ GE536.out | refine below_set ?_ GE537.out | refine below_set ?_ GE538.out | refine below_set ?_ GE543.out | refine below_set ?_ GE552.out | refine below_set ?_ GE556.out) | exact HB.out)⟩

end Go.Proofs.Ytcdmjdghmbdikaa.X
