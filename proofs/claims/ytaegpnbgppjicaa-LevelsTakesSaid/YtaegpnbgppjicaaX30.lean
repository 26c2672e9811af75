-- written by xprint.py, a program of this session over the kit's print
import Derived.Test.YtaegpnbgppjicaaX0
import Derived.Test.YtaegpnbgppjicaaX17
import Derived.Test.YtaegpnbgppjicaaX29
namespace Go.Proofs.Ytaegpnbgppjicaa.X
open Go.RowKit Go.Proofs.YtaegpnbgppjicaaW.PrintWords Go.Proofs.YtaegpnbgppjicaaW.PrintLast Go.Proofs.YtaegpnbgppjicaaW.PrintMore
attribute [local go_sem] max2_int min2_int max_two min_two max_three min_three max_four min_four   -- for this text's walks alone
set_option linter.unusedVariables false
set_option linter.unusedSimpArgs false

/-! ### spigotref03_Waited: function 43 -/
theorem fld_43_37_1 (c0 c1 c2 c3 c4 c5 : Value) (w : World) : Sem.run Try.prog (Instr.field 37 (.agg #[c0, c1, c2, c3, c4, c5]) 1) w = .ok (c3) w := by kernel_rfl
attribute [local go_sem] fld_43_37_1
def spigotref03_Waited.l0 : Nat → Int → Int → Int → Int → Int → Int → Int → Int → Int → Option (Int)
  | 0, _, _, _, _, _, _, _, _, _ => none
  | k + 1, x1, x5, x6, x427000, x427001, x427002, x427003, x427004, x427005 => if x5 < x6 then ((spigotref03_Filled.f k x427000 x427001 x427002 x427003 x427004 x427005 (IntKind.u64.wrap (x427005 + (IntKind.u64.wrap (x5 + (IntKind.u64.wrap (Int.tdiv (IntKind.u64.wrap (x6 - x5)) 2))))))).bind fun bt433 => (if bt433.2.2.2.1 ≥ x1 then (spigotref03_Waited.l0 k x1 x5 (IntKind.u64.wrap (x5 + (IntKind.u64.wrap (Int.tdiv (IntKind.u64.wrap (x6 - x5)) 2)))) x427000 x427001 x427002 x427003 x427004 x427005) else (spigotref03_Waited.l0 k x1 (IntKind.u64.wrap ((IntKind.u64.wrap (x5 + (IntKind.u64.wrap (Int.tdiv (IntKind.u64.wrap (x6 - x5)) 2)))) + 1)) x6 x427000 x427001 x427002 x427003 x427004 x427005))) else (some x5)
def spigotref03_Waited.f (k : Nat) (a0_0 : Int) (a0_1 : Int) (a0_2 : Int) (a0_3 : Int) (a0_4 : Int) (a0_5 : Int) (a1 : Int) : Option (Int) := (spigotref03_Filled.f k a0_0 a0_1 a0_2 a0_3 a0_4 a0_5 18446744073709551615).bind fun bt427 => (if bt427.2.2.2.1 < a1 then (some 18446744073709551615) else (spigotref03_Waited.l0 k a1 0 (IntKind.u64.wrap (18446744073709551615 - a0_5)) a0_0 a0_1 a0_2 a0_3 a0_4 a0_5))
theorem spigotref03_Waited.mono_l : ∀ k, (∀ y0 y1 y2 y3 y4 y5 y6 y7 y8, LeO (spigotref03_Waited.l0 k y0 y1 y2 y3 y4 y5 y6 y7 y8) (spigotref03_Waited.l0 (k + 1) y0 y1 y2 y3 y4 y5 y6 y7 y8))
  | 0 => fun _ _ _ _ _ _ _ _ _ r h => by simp [spigotref03_Waited.l0] at h
  | k + 1 => by
    have ih0 := spigotref03_Waited.mono_l k
    · intro y0 y1 y2 y3 y4 y5 y6 y7 y8
      unfold spigotref03_Waited.l0
      repeat' first
      | (with_reducible exact ih0 _ _ _ _ _ _ _ _ _)
      | (with_reducible exact spigotref03_Filled.mono _ _ _ _ _ _ _ _)
      | (with_reducible exact LeO.refl _)
      | (with_reducible exact LeO.none _)
      | (with_reducible refine LeO.ite ?_ ?_)
      | (with_reducible refine LeO.bind ?_ (fun _ => ?_))
      | exact ih0 _ _ _ _ _ _ _ _ _
      | exact spigotref03_Filled.mono _ _ _ _ _ _ _ _
      | exact LeO.none _
      | refine LeO.ite ?_ ?_
      | refine LeO.bind ?_ (fun _ => ?_)
theorem spigotref03_Waited.mono : ∀ a0 a1 a2 a3 a4 a5 a6 k, LeO (spigotref03_Waited.f k a0 a1 a2 a3 a4 a5 a6) (spigotref03_Waited.f (k + 1) a0 a1 a2 a3 a4 a5 a6) := by
  intro a0 a1 a2 a3 a4 a5 a6 k
  have ih0 := spigotref03_Waited.mono_l k
  unfold spigotref03_Waited.f
  repeat' first
      | (with_reducible exact ih0 _ _ _ _ _ _ _ _ _)
      | (with_reducible exact spigotref03_Filled.mono _ _ _ _ _ _ _ _)
      | (with_reducible exact LeO.refl _)
      | (with_reducible exact LeO.none _)
      | (with_reducible refine LeO.ite ?_ ?_)
      | (with_reducible refine LeO.bind ?_ (fun _ => ?_))
      | exact ih0 _ _ _ _ _ _ _ _ _
      | exact spigotref03_Filled.mono _ _ _ _ _ _ _ _
      | exact LeO.none _
      | refine LeO.ite ?_ ?_
      | refine LeO.bind ?_ (fun _ => ?_)
set_option maxHeartbeats 8000000 in
set_option maxRecDepth 100000 in
theorem spigotref03_Waited.calls (k : Nat) (a0_0 : Int) (a0_1 : Int) (a0_2 : Int) (a0_3 : Int) (a0_4 : Int) (a0_5 : Int) (a1 : Int) (r : Int) (w : World) (h : spigotref03_Waited.f k a0_0 a0_1 a0_2 a0_3 a0_4 a0_5 a1 = some r) :
  Calls Try.prog 43 #[.agg #[.int .i64 a0_0, .int .i64 a0_1, .int .i64 a0_2, .int .i64 a0_3, .int .i64 a0_4, .int .u64 a0_5], .int .i64 a1] w fun e w' => e = .returned (.int .u64 r) ∧ Below w.heap.size w w' := by
 have hu37 := Try.underlying37
 have HB := Aside0.mk (Below.refl w.heap.size w)
 have H : ((spigotref03_Filled.f k a0_0 a0_1 a0_2 a0_3 a0_4 a0_5 18446744073709551615).bind fun bt427 => (if bt427.2.2.2.1 < a1 then (some 18446744073709551615) else (spigotref03_Waited.l0 k a1 0 (IntKind.u64.wrap (18446744073709551615 - a0_5)) a0_0 a0_1 a0_2 a0_3 a0_4 a0_5))) = some r := h
 clear h
 replace H := Option.bind_eq_some_iff.mp H
 obtain ⟨⟨t427, t428, t429, t430, t431, t432⟩, A30, H⟩ := H
 try dsimp only at H
 have A3 := Aside0.mk A30
 clear A30
 by_cases c4 : t430 < a1
 ·rw [if_pos c4] at H
  have c4b0 : decide (t430 < a1) = true := decide_eq_true c4
  clear c4
  obtain rfl := Option.some.inj H
  go_enter Try.func43, Try.ntmps43
  go_wp2_with (first | ((with_reducible refine gate_dst (N := 2) rfl ?_); refine box_event ?hg (N := 2) ?hd (cs := #[.int .i64 a0_0, .int .i64 a0_1, .int .i64 a0_2, .int .i64 a0_3, .int .i64 a0_4, .int .u64 a0_5]) (t := 37) ?hr ?_; (case hd => rfl); (case hg => rfl); (case hr => first | (go_simp; done) | (go_simp; rfl)); intro gb426 hg w5 hbox hb; have BK426 := Aside0.mk (hbox); have GW426 := bz_ w hg; have GE426 := GW426; replace HB := bs_ w hb; clear hb hbox hg; have hcz6_0 : w5.cell? ⟨gb426, 0, none⟩ = some (.int .i64 a0_0) := (blk_cell BK426.out 0).trans rfl; have hcz6_1 : w5.cell? ⟨gb426, 1, none⟩ = some (.int .i64 a0_1) := (blk_cell BK426.out 1).trans rfl; have hcz6_2 : w5.cell? ⟨gb426, 2, none⟩ = some (.int .i64 a0_2) := (blk_cell BK426.out 2).trans rfl; have hcz6_3 : w5.cell? ⟨gb426, 3, none⟩ = some (.int .i64 a0_3) := (blk_cell BK426.out 3).trans rfl; have hcz6_4 : w5.cell? ⟨gb426, 4, none⟩ = some (.int .i64 a0_4) := (blk_cell BK426.out 4).trans rfl; have hcz6_5 : w5.cell? ⟨gb426, 5, none⟩ = some (.int .u64 a0_5) := (blk_cell BK426.out 5).trans rfl; have hfz6_0 := blk_frozen BK426.out 0; have hfz6_1 := blk_frozen BK426.out 1; have hfz6_2 := blk_frozen BK426.out 2; have hfz6_3 := blk_frozen BK426.out 3; have hfz6_4 := blk_frozen BK426.out 4; have hfz6_5 := blk_frozen BK426.out 5) | (go_at_call 56; (with_reducible refine (spigotref03_Filled.calls k a0_0 a0_1 a0_2 a0_3 a0_4 a0_5 18446744073709551615 t427 t428 t429 t430 t431 t432 _ A3.out).mono ?_); rintro e w7 ⟨rfl, hb⟩; replace BK426 := bb_ BK426 hb; replace HB := bs_ w hb; (try clear hb); (try clear hb2); (try clear hk); (try clear hi)))
  repeat (go_quiet (first | ((with_reducible refine gate_dst (N := 2) rfl ?_); refine box_event ?hg (N := 2) ?hd (cs := #[.int .i64 a0_0, .int .i64 a0_1, .int .i64 a0_2, .int .i64 a0_3, .int .i64 a0_4, .int .u64 a0_5]) (t := 37) ?hr ?_; (case hd => rfl); (case hg => rfl); (case hr => first | (go_simp; done) | (go_simp; rfl)); intro gb426 hg w5 hbox hb; have BK426 := Aside0.mk (hbox); have GW426 := bz_ w hg; have GE426 := GW426; replace HB := bs_ w hb; clear hb hbox hg; have hcz6_0 : w5.cell? ⟨gb426, 0, none⟩ = some (.int .i64 a0_0) := (blk_cell BK426.out 0).trans rfl; have hcz6_1 : w5.cell? ⟨gb426, 1, none⟩ = some (.int .i64 a0_1) := (blk_cell BK426.out 1).trans rfl; have hcz6_2 : w5.cell? ⟨gb426, 2, none⟩ = some (.int .i64 a0_2) := (blk_cell BK426.out 2).trans rfl; have hcz6_3 : w5.cell? ⟨gb426, 3, none⟩ = some (.int .i64 a0_3) := (blk_cell BK426.out 3).trans rfl; have hcz6_4 : w5.cell? ⟨gb426, 4, none⟩ = some (.int .i64 a0_4) := (blk_cell BK426.out 4).trans rfl; have hcz6_5 : w5.cell? ⟨gb426, 5, none⟩ = some (.int .u64 a0_5) := (blk_cell BK426.out 5).trans rfl; have hfz6_0 := blk_frozen BK426.out 0; have hfz6_1 := blk_frozen BK426.out 1; have hfz6_2 := blk_frozen BK426.out 2; have hfz6_3 := blk_frozen BK426.out 3; have hfz6_4 := blk_frozen BK426.out 4; have hfz6_5 := blk_frozen BK426.out 5) | (go_at_call 56; (with_reducible refine (spigotref03_Filled.calls k a0_0 a0_1 a0_2 a0_3 a0_4 a0_5 18446744073709551615 t427 t428 t429 t430 t431 t432 _ A3.out).mono ?_); rintro e w7 ⟨rfl, hb⟩; replace BK426 := bb_ BK426 hb; replace HB := bs_ w hb; (try clear hb); (try clear hb2); (try clear hk); (try clear hi))); try go_wp2_with (first | ((with_reducible refine gate_dst (N := 2) rfl ?_); refine box_event ?hg (N := 2) ?hd (cs := #[.int .i64 a0_0, .int .i64 a0_1, .int .i64 a0_2, .int .i64 a0_3, .int .i64 a0_4, .int .u64 a0_5]) (t := 37) ?hr ?_; (case hd => rfl); (case hg => rfl); (case hr => first | (go_simp; done) | (go_simp; rfl)); intro gb426 hg w5 hbox hb; have BK426 := Aside0.mk (hbox); have GW426 := bz_ w hg; have GE426 := GW426; replace HB := bs_ w hb; clear hb hbox hg; have hcz6_0 : w5.cell? ⟨gb426, 0, none⟩ = some (.int .i64 a0_0) := (blk_cell BK426.out 0).trans rfl; have hcz6_1 : w5.cell? ⟨gb426, 1, none⟩ = some (.int .i64 a0_1) := (blk_cell BK426.out 1).trans rfl; have hcz6_2 : w5.cell? ⟨gb426, 2, none⟩ = some (.int .i64 a0_2) := (blk_cell BK426.out 2).trans rfl; have hcz6_3 : w5.cell? ⟨gb426, 3, none⟩ = some (.int .i64 a0_3) := (blk_cell BK426.out 3).trans rfl; have hcz6_4 : w5.cell? ⟨gb426, 4, none⟩ = some (.int .i64 a0_4) := (blk_cell BK426.out 4).trans rfl; have hcz6_5 : w5.cell? ⟨gb426, 5, none⟩ = some (.int .u64 a0_5) := (blk_cell BK426.out 5).trans rfl; have hfz6_0 := blk_frozen BK426.out 0; have hfz6_1 := blk_frozen BK426.out 1; have hfz6_2 := blk_frozen BK426.out 2; have hfz6_3 := blk_frozen BK426.out 3; have hfz6_4 := blk_frozen BK426.out 4; have hfz6_5 := blk_frozen BK426.out 5) | (go_at_call 56; (with_reducible refine (spigotref03_Filled.calls k a0_0 a0_1 a0_2 a0_3 a0_4 a0_5 18446744073709551615 t427 t428 t429 t430 t431 t432 _ A3.out).mono ?_); rintro e w7 ⟨rfl, hb⟩; replace BK426 := bb_ BK426 hb; replace HB := bs_ w hb; (try clear hb); (try clear hb2); (try clear hk); (try clear hi))))
  go_ret
  exact ⟨by first | rfl | (simp [errW_none, errW_some] <;> rfl) | (simp [*, errW_none, errW_some] <;> rfl), by repeat (first | (with_reducible first | exact HB.out | apply below_alloc | apply pw_below_drewN | apply below_drew1 | refine below_set ?_ GE426.out) | exact HB.out)⟩
 ·rw [if_neg c4] at H
  have c4b0 : decide (t430 < a1) = false := decide_eq_false c4
  clear c4
  have H' := Aside0.mk H
  clear H
  go_enter Try.func43, Try.ntmps43
  go_wp2_with (first | ((with_reducible refine gate_dst (N := 2) rfl ?_); refine box_event ?hg (N := 2) ?hd (cs := #[.int .i64 a0_0, .int .i64 a0_1, .int .i64 a0_2, .int .i64 a0_3, .int .i64 a0_4, .int .u64 a0_5]) (t := 37) ?hr ?_; (case hd => rfl); (case hg => rfl); (case hr => first | (go_simp; done) | (go_simp; rfl)); intro gb426 hg w8 hbox hb; have BK426 := Aside0.mk (hbox); have GW426 := bz_ w hg; have GE426 := GW426; replace HB := bs_ w hb; clear hb hbox hg; have hcz9_0 : w8.cell? ⟨gb426, 0, none⟩ = some (.int .i64 a0_0) := (blk_cell BK426.out 0).trans rfl; have hcz9_1 : w8.cell? ⟨gb426, 1, none⟩ = some (.int .i64 a0_1) := (blk_cell BK426.out 1).trans rfl; have hcz9_2 : w8.cell? ⟨gb426, 2, none⟩ = some (.int .i64 a0_2) := (blk_cell BK426.out 2).trans rfl; have hcz9_3 : w8.cell? ⟨gb426, 3, none⟩ = some (.int .i64 a0_3) := (blk_cell BK426.out 3).trans rfl; have hcz9_4 : w8.cell? ⟨gb426, 4, none⟩ = some (.int .i64 a0_4) := (blk_cell BK426.out 4).trans rfl; have hcz9_5 : w8.cell? ⟨gb426, 5, none⟩ = some (.int .u64 a0_5) := (blk_cell BK426.out 5).trans rfl; have hfz9_0 := blk_frozen BK426.out 0; have hfz9_1 := blk_frozen BK426.out 1; have hfz9_2 := blk_frozen BK426.out 2; have hfz9_3 := blk_frozen BK426.out 3; have hfz9_4 := blk_frozen BK426.out 4; have hfz9_5 := blk_frozen BK426.out 5) | (go_at_call 56; (with_reducible refine (spigotref03_Filled.calls k a0_0 a0_1 a0_2 a0_3 a0_4 a0_5 18446744073709551615 t427 t428 t429 t430 t431 t432 _ A3.out).mono ?_); rintro e w10 ⟨rfl, hb⟩; replace BK426 := bb_ BK426 hb; replace HB := bs_ w hb; (try clear hb); (try clear hb2); (try clear hk); (try clear hi)))
  repeat (go_quiet (first | ((with_reducible refine gate_dst (N := 2) rfl ?_); refine box_event ?hg (N := 2) ?hd (cs := #[.int .i64 a0_0, .int .i64 a0_1, .int .i64 a0_2, .int .i64 a0_3, .int .i64 a0_4, .int .u64 a0_5]) (t := 37) ?hr ?_; (case hd => rfl); (case hg => rfl); (case hr => first | (go_simp; done) | (go_simp; rfl)); intro gb426 hg w8 hbox hb; have BK426 := Aside0.mk (hbox); have GW426 := bz_ w hg; have GE426 := GW426; replace HB := bs_ w hb; clear hb hbox hg; have hcz9_0 : w8.cell? ⟨gb426, 0, none⟩ = some (.int .i64 a0_0) := (blk_cell BK426.out 0).trans rfl; have hcz9_1 : w8.cell? ⟨gb426, 1, none⟩ = some (.int .i64 a0_1) := (blk_cell BK426.out 1).trans rfl; have hcz9_2 : w8.cell? ⟨gb426, 2, none⟩ = some (.int .i64 a0_2) := (blk_cell BK426.out 2).trans rfl; have hcz9_3 : w8.cell? ⟨gb426, 3, none⟩ = some (.int .i64 a0_3) := (blk_cell BK426.out 3).trans rfl; have hcz9_4 : w8.cell? ⟨gb426, 4, none⟩ = some (.int .i64 a0_4) := (blk_cell BK426.out 4).trans rfl; have hcz9_5 : w8.cell? ⟨gb426, 5, none⟩ = some (.int .u64 a0_5) := (blk_cell BK426.out 5).trans rfl; have hfz9_0 := blk_frozen BK426.out 0; have hfz9_1 := blk_frozen BK426.out 1; have hfz9_2 := blk_frozen BK426.out 2; have hfz9_3 := blk_frozen BK426.out 3; have hfz9_4 := blk_frozen BK426.out 4; have hfz9_5 := blk_frozen BK426.out 5) | (go_at_call 56; (with_reducible refine (spigotref03_Filled.calls k a0_0 a0_1 a0_2 a0_3 a0_4 a0_5 18446744073709551615 t427 t428 t429 t430 t431 t432 _ A3.out).mono ?_); rintro e w10 ⟨rfl, hb⟩; replace BK426 := bb_ BK426 hb; replace HB := bs_ w hb; (try clear hb); (try clear hb2); (try clear hk); (try clear hi))); try go_wp2_with (first | ((with_reducible refine gate_dst (N := 2) rfl ?_); refine box_event ?hg (N := 2) ?hd (cs := #[.int .i64 a0_0, .int .i64 a0_1, .int .i64 a0_2, .int .i64 a0_3, .int .i64 a0_4, .int .u64 a0_5]) (t := 37) ?hr ?_; (case hd => rfl); (case hg => rfl); (case hr => first | (go_simp; done) | (go_simp; rfl)); intro gb426 hg w8 hbox hb; have BK426 := Aside0.mk (hbox); have GW426 := bz_ w hg; have GE426 := GW426; replace HB := bs_ w hb; clear hb hbox hg; have hcz9_0 : w8.cell? ⟨gb426, 0, none⟩ = some (.int .i64 a0_0) := (blk_cell BK426.out 0).trans rfl; have hcz9_1 : w8.cell? ⟨gb426, 1, none⟩ = some (.int .i64 a0_1) := (blk_cell BK426.out 1).trans rfl; have hcz9_2 : w8.cell? ⟨gb426, 2, none⟩ = some (.int .i64 a0_2) := (blk_cell BK426.out 2).trans rfl; have hcz9_3 : w8.cell? ⟨gb426, 3, none⟩ = some (.int .i64 a0_3) := (blk_cell BK426.out 3).trans rfl; have hcz9_4 : w8.cell? ⟨gb426, 4, none⟩ = some (.int .i64 a0_4) := (blk_cell BK426.out 4).trans rfl; have hcz9_5 : w8.cell? ⟨gb426, 5, none⟩ = some (.int .u64 a0_5) := (blk_cell BK426.out 5).trans rfl; have hfz9_0 := blk_frozen BK426.out 0; have hfz9_1 := blk_frozen BK426.out 1; have hfz9_2 := blk_frozen BK426.out 2; have hfz9_3 := blk_frozen BK426.out 3; have hfz9_4 := blk_frozen BK426.out 4; have hfz9_5 := blk_frozen BK426.out 5) | (go_at_call 56; (with_reducible refine (spigotref03_Filled.calls k a0_0 a0_1 a0_2 a0_3 a0_4 a0_5 18446744073709551615 t427 t428 t429 t430 t431 t432 _ A3.out).mono ?_); rintro e w10 ⟨rfl, hb⟩; replace BK426 := bb_ BK426 hb; replace HB := bs_ w hb; (try clear hb); (try clear hb2); (try clear hk); (try clear hi))))
  go_loopg [5, 6] k (fun kq v5 v6 w' => ∃ (x5_1 : Int) (x6_1 : Int), v5 = .int .u64 x5_1 ∧ v6 = .int .u64 x6_1 ∧ Aside0 (spigotref03_Waited.l0 kq a1 x5_1 x6_1 a0_0 a0_1 a0_2 a0_3 a0_4 a0_5 = some r) ∧ Aside0 (kq ≤ k) ∧ Aside0 (w'.heap[gb426]? = some (.cells #[.int .i64 a0_0, .int .i64 a0_1, .int .i64 a0_2, .int .i64 a0_3, .int .i64 a0_4, .int .u64 a0_5] 37 (0, 0))) ∧ Aside0 (Below w.heap.size w w'))
  case atStart => exact ⟨(0), (IntKind.u64.wrap (18446744073709551615 - a0_5)), (by first | rfl | (simp; done) | (simp [*]; done)), (by first | rfl | (simp; done) | (simp [*]; done)), H', ⟨Nat.le_refl _⟩, ⟨bq_ BK426⟩, ⟨by repeat (first | (with_reducible first | exact HB.out | apply below_alloc | apply pw_below_drewN | apply below_drew1 | refine below_set ?_ GE426.out) | exact HB.out)⟩⟩
  case round =>
   clear H'
   try clear p2
   try clear c4
   try clear c4b0
   try clear hcz6_0
   try clear hcz6_1
   try clear hcz6_2
   try clear hcz6_3
   try clear hcz6_4
   try clear hcz6_5
   try clear hcz9_0
   try clear hcz9_1
   try clear hcz9_2
   try clear hcz9_3
   try clear hcz9_4
   try clear hcz9_5
   try clear hfz6_0
   try clear hfz6_1
   try clear hfz6_2
   try clear hfz6_3
   try clear hfz6_4
   try clear hfz6_5
   try clear hfz9_0
   try clear hfz9_1
   try clear hfz9_2
   try clear hfz9_3
   try clear hfz9_4
   try clear hfz9_5
   obtain ⟨x5_1, x6_1, rfl, rfl, HA, HK1, BK426, HB⟩ := hrel
   cases gk with
   | zero => exact absurd HA.out (by simp [spigotref03_Waited.l0])
   | succ k1 =>
    have H := HA.out
    clear HA
    simp only [spigotref03_Waited.l0] at H
    by_cases c11 : x5_1 < x6_1
    ·rw [if_pos c11] at H
     have c11b0 : decide (x5_1 < x6_1) = true := decide_eq_true c11
     clear c11
     replace H := Option.bind_eq_some_iff.mp H
     obtain ⟨⟨t433, t434, t435, t436, t437, t438⟩, A120, H⟩ := H
     try dsimp only at H
     have A12 := Aside0.mk A120
     clear A120
     by_cases c13 : t436 ≥ a1
     ·rw [if_pos c13] at H
      have c13b0 : decide (a1 ≤ t436) = true := decide_eq_true c13
      clear c13
      have H' := Aside0.mk H
      clear H
      have hcz14_0 : wr.cell? ⟨gb426, 0, none⟩ = some (.int .i64 a0_0) := (blk_cell BK426.out 0).trans rfl
      have hcz14_1 : wr.cell? ⟨gb426, 1, none⟩ = some (.int .i64 a0_1) := (blk_cell BK426.out 1).trans rfl
      have hcz14_2 : wr.cell? ⟨gb426, 2, none⟩ = some (.int .i64 a0_2) := (blk_cell BK426.out 2).trans rfl
      have hcz14_3 : wr.cell? ⟨gb426, 3, none⟩ = some (.int .i64 a0_3) := (blk_cell BK426.out 3).trans rfl
      have hcz14_4 : wr.cell? ⟨gb426, 4, none⟩ = some (.int .i64 a0_4) := (blk_cell BK426.out 4).trans rfl
      have hcz14_5 : wr.cell? ⟨gb426, 5, none⟩ = some (.int .u64 a0_5) := (blk_cell BK426.out 5).trans rfl
      have hfz14_0 := blk_frozen BK426.out 0
      have hfz14_1 := blk_frozen BK426.out 1
      have hfz14_2 := blk_frozen BK426.out 2
      have hfz14_3 := blk_frozen BK426.out 3
      have hfz14_4 := blk_frozen BK426.out 4
      have hfz14_5 := blk_frozen BK426.out 5
      go_wp2_with (first | (go_at_call 56; (with_reducible refine (spigotref03_Filled.calls k1 a0_0 a0_1 a0_2 a0_3 a0_4 a0_5 (IntKind.u64.wrap (a0_5 + (IntKind.u64.wrap (x5_1 + (IntKind.u64.wrap (Int.tdiv (IntKind.u64.wrap (x6_1 - x5_1)) 2)))))) t433 t434 t435 t436 t437 t438 _ A12.out).mono ?_); rintro e w15 ⟨rfl, hb⟩; replace BK426 := bb_ BK426 hb; replace HB := bs_ w hb; (try clear hb); (try clear hb2); (try clear hk); (try clear hi)))
      repeat (go_quiet (first | (go_at_call 56; (with_reducible refine (spigotref03_Filled.calls k1 a0_0 a0_1 a0_2 a0_3 a0_4 a0_5 (IntKind.u64.wrap (a0_5 + (IntKind.u64.wrap (x5_1 + (IntKind.u64.wrap (Int.tdiv (IntKind.u64.wrap (x6_1 - x5_1)) 2)))))) t433 t434 t435 t436 t437 t438 _ A12.out).mono ?_); rintro e w15 ⟨rfl, hb⟩; replace BK426 := bb_ BK426 hb; replace HB := bs_ w hb; (try clear hb); (try clear hb2); (try clear hk); (try clear hi))); try go_wp2_with (first | (go_at_call 56; (with_reducible refine (spigotref03_Filled.calls k1 a0_0 a0_1 a0_2 a0_3 a0_4 a0_5 (IntKind.u64.wrap (a0_5 + (IntKind.u64.wrap (x5_1 + (IntKind.u64.wrap (Int.tdiv (IntKind.u64.wrap (x6_1 - x5_1)) 2)))))) t433 t434 t435 t436 t437 t438 _ A12.out).mono ?_); rintro e w15 ⟨rfl, hb⟩; replace BK426 := bb_ BK426 hb; replace HB := bs_ w hb; (try clear hb); (try clear hb2); (try clear hk); (try clear hi))))
      go_roundg k1
      case measure => have := HK1.out; omega
      case rel => exact ⟨(x5_1), (IntKind.u64.wrap (x5_1 + (IntKind.u64.wrap (Int.tdiv (IntKind.u64.wrap (x6_1 - x5_1)) 2)))), (by first | rfl | (simp; done) | (simp [*]; done)), (by first | rfl | (simp; done) | (simp [*]; done)), H', ⟨by have := HK1.out; omega⟩, ⟨bq_ BK426⟩, ⟨by repeat (first | (with_reducible first | exact HB.out | apply below_alloc | apply pw_below_drewN | apply below_drew1 | refine below_set ?_ GE426.out) | exact HB.out)⟩⟩
     ·rw [if_neg c13] at H
      have c13b0 : decide (a1 ≤ t436) = false := decide_eq_false c13
      clear c13
      have H' := Aside0.mk H
      clear H
      have hcz16_0 : wr.cell? ⟨gb426, 0, none⟩ = some (.int .i64 a0_0) := (blk_cell BK426.out 0).trans rfl
      have hcz16_1 : wr.cell? ⟨gb426, 1, none⟩ = some (.int .i64 a0_1) := (blk_cell BK426.out 1).trans rfl
      have hcz16_2 : wr.cell? ⟨gb426, 2, none⟩ = some (.int .i64 a0_2) := (blk_cell BK426.out 2).trans rfl
      have hcz16_3 : wr.cell? ⟨gb426, 3, none⟩ = some (.int .i64 a0_3) := (blk_cell BK426.out 3).trans rfl
      have hcz16_4 : wr.cell? ⟨gb426, 4, none⟩ = some (.int .i64 a0_4) := (blk_cell BK426.out 4).trans rfl
      have hcz16_5 : wr.cell? ⟨gb426, 5, none⟩ = some (.int .u64 a0_5) := (blk_cell BK426.out 5).trans rfl
      have hfz16_0 := blk_frozen BK426.out 0
      have hfz16_1 := blk_frozen BK426.out 1
      have hfz16_2 := blk_frozen BK426.out 2
      have hfz16_3 := blk_frozen BK426.out 3
      have hfz16_4 := blk_frozen BK426.out 4
      have hfz16_5 := blk_frozen BK426.out 5
      go_wp2_with (first | (go_at_call 56; (with_reducible refine (spigotref03_Filled.calls k1 a0_0 a0_1 a0_2 a0_3 a0_4 a0_5 (IntKind.u64.wrap (a0_5 + (IntKind.u64.wrap (x5_1 + (IntKind.u64.wrap (Int.tdiv (IntKind.u64.wrap (x6_1 - x5_1)) 2)))))) t433 t434 t435 t436 t437 t438 _ A12.out).mono ?_); rintro e w17 ⟨rfl, hb⟩; replace BK426 := bb_ BK426 hb; replace HB := bs_ w hb; (try clear hb); (try clear hb2); (try clear hk); (try clear hi)))
      repeat (go_quiet (first | (go_at_call 56; (with_reducible refine (spigotref03_Filled.calls k1 a0_0 a0_1 a0_2 a0_3 a0_4 a0_5 (IntKind.u64.wrap (a0_5 + (IntKind.u64.wrap (x5_1 + (IntKind.u64.wrap (Int.tdiv (IntKind.u64.wrap (x6_1 - x5_1)) 2)))))) t433 t434 t435 t436 t437 t438 _ A12.out).mono ?_); rintro e w17 ⟨rfl, hb⟩; replace BK426 := bb_ BK426 hb; replace HB := bs_ w hb; (try clear hb); (try clear hb2); (try clear hk); (try clear hi))); try go_wp2_with (first | (go_at_call 56; (with_reducible refine (spigotref03_Filled.calls k1 a0_0 a0_1 a0_2 a0_3 a0_4 a0_5 (IntKind.u64.wrap (a0_5 + (IntKind.u64.wrap (x5_1 + (IntKind.u64.wrap (Int.tdiv (IntKind.u64.wrap (x6_1 - x5_1)) 2)))))) t433 t434 t435 t436 t437 t438 _ A12.out).mono ?_); rintro e w17 ⟨rfl, hb⟩; replace BK426 := bb_ BK426 hb; replace HB := bs_ w hb; (try clear hb); (try clear hb2); (try clear hk); (try clear hi))))
      go_roundg k1
      case measure => have := HK1.out; omega
      case rel => exact ⟨(IntKind.u64.wrap ((IntKind.u64.wrap (x5_1 + (IntKind.u64.wrap (Int.tdiv (IntKind.u64.wrap (x6_1 - x5_1)) 2)))) + 1)), (x6_1), (by first | rfl | (simp; done) | (simp [*]; done)), (by first | rfl | (simp; done) | (simp [*]; done)), H', ⟨by have := HK1.out; omega⟩, ⟨bq_ BK426⟩, ⟨by repeat (first | (with_reducible first | exact HB.out | apply below_alloc | apply pw_below_drewN | apply below_drew1 | refine below_set ?_ GE426.out) | exact HB.out)⟩⟩
    ·rw [if_neg c11] at H
     have c11b0 : decide (x5_1 < x6_1) = false := decide_eq_false c11
     clear c11
     obtain rfl := Option.some.inj H
     go_wp2
     repeat (go_quiet (fail); try go_wp2)
     go_ret
     exact ⟨by first | rfl | (simp [errW_none, errW_some] <;> rfl) | (simp [*, errW_none, errW_some] <;> rfl), by repeat (first | (with_reducible first | exact HB.out | apply below_alloc | apply pw_below_drewN | apply below_drew1 | refine below_set ?_ GE426.out) | exact HB.out)⟩

/-! ### spigotref04_Wait: function 25 -/
def spigotref04_Wait.l0 : Nat → List (S37) → Int → Int → Int → Option (Int × Int)
  | 0, _, _, _, _ => none
  | k + 1, x0, x1, x6, x7 => if x7 < (x0.length : Int) then (if 0 ≤ x7 then ((spigotref03_Waited.f k ((rd_T37 x0 x7).f0.f0) ((rd_T37 x0 x7).f0.f1) ((rd_T37 x0 x7).f0.f2) ((rd_T37 x0 x7).f1) ((rd_T37 x0 x7).f2) ((rd_T37 x0 x7).f3) x1).bind fun t442 => (spigotref04_Wait.l0 k x0 x1 (mx x6 t442) (wrap64 (x7 + 1)))) else (none)) else (some (x6, 0))
def spigotref04_Wait.f (k : Nat) (l0 : List (S37)) (a1 : Int) : Option (Int × Int) := (spigotref04_asked.f k l0 a1).bind fun t439 => (if t439 = 0 then (spigotref04_Wait.l0 k l0 a1 0 0) else ((spigotref04_asked.f k l0 a1).bind fun t440 => (some (0, t440))))
theorem spigotref04_Wait.mono_l : ∀ k, (∀ y0 y1 y2 y3, LeO (spigotref04_Wait.l0 k y0 y1 y2 y3) (spigotref04_Wait.l0 (k + 1) y0 y1 y2 y3))
  | 0 => fun _ _ _ _ r h => by simp [spigotref04_Wait.l0] at h
  | k + 1 => by
    have ih0 := spigotref04_Wait.mono_l k
    · intro y0 y1 y2 y3
      unfold spigotref04_Wait.l0
      repeat' first
      | (with_reducible exact ih0 _ _ _ _)
      | (with_reducible exact spigotref03_Waited.mono _ _ _ _ _ _ _ _)
      | (with_reducible exact spigotref04_asked.mono _ _ _)
      | (with_reducible exact LeO.refl _)
      | (with_reducible exact LeO.none _)
      | (with_reducible refine LeO.ite ?_ ?_)
      | (with_reducible refine LeO.bind ?_ (fun _ => ?_))
      | exact ih0 _ _ _ _
      | exact spigotref03_Waited.mono _ _ _ _ _ _ _ _
      | exact spigotref04_asked.mono _ _ _
      | exact LeO.none _
      | refine LeO.ite ?_ ?_
      | refine LeO.bind ?_ (fun _ => ?_)
theorem spigotref04_Wait.mono : ∀ a0 a1 k, LeO (spigotref04_Wait.f k a0 a1) (spigotref04_Wait.f (k + 1) a0 a1) := by
  intro a0 a1 k
  have ih0 := spigotref04_Wait.mono_l k
  unfold spigotref04_Wait.f
  repeat' first
      | (with_reducible exact ih0 _ _ _ _)
      | (with_reducible exact spigotref03_Waited.mono _ _ _ _ _ _ _ _)
      | (with_reducible exact spigotref04_asked.mono _ _ _)
      | (with_reducible exact LeO.refl _)
      | (with_reducible exact LeO.none _)
      | (with_reducible refine LeO.ite ?_ ?_)
      | (with_reducible refine LeO.bind ?_ (fun _ => ?_))
      | exact ih0 _ _ _ _
      | exact spigotref03_Waited.mono _ _ _ _ _ _ _ _
      | exact spigotref04_asked.mono _ _ _
      | exact LeO.none _
      | refine LeO.ite ?_ ?_
      | refine LeO.bind ?_ (fun _ => ?_)
set_option maxHeartbeats 8000000 in
set_option maxRecDepth 100000 in
theorem spigotref04_Wait.calls (k : Nat) (A0 : Option Addr) (c0 : Nat) (l0 : List (S37)) (a1 : Int) (r1 : Int) (r2 : Int) (w : World) (hr0 : Kd.C k37 w A0 l0.length l0) (hc0 : l0.length ≤ c0) (h : spigotref04_Wait.f k l0 a1 = some (r1, r2)) :
  Calls Try.prog 25 #[.slice A0 l0.length c0, .int .i64 a1] w fun e w' => e = .returned (.tuple #[.int .u64 r1, .int .i64 r2]) ∧ Below w.heap.size w w' := by
 have hu37 := Try.underlying37
 have HR0 := Aside0.mk hr0
 have HC0 := Aside0.mk hc0
 clear hr0 hc0
 have HB := Aside0.mk (Below.refl w.heap.size w)
 have H : ((spigotref04_asked.f k l0 a1).bind fun t439 => (if t439 = 0 then (spigotref04_Wait.l0 k l0 a1 0 0) else ((spigotref04_asked.f k l0 a1).bind fun t440 => (some (0, t440))))) = some (r1, r2) := h
 clear h
 replace H := Option.bind_eq_some_iff.mp H
 obtain ⟨t439, A30, H⟩ := H
 replace H : (if t439 = 0 then (spigotref04_Wait.l0 k l0 a1 0 0) else ((spigotref04_asked.f k l0 a1).bind fun t440 => (some (0, t440)))) = some (r1, r2) := H
 have A3 := Aside0.mk A30
 clear A30
 by_cases c4 : t439 = 0
 ·rw [if_pos c4] at H
  have c4b0 : (t439 == 0) = true := beq_iff_eq.mpr c4
  have c4b1 : (t439 != 0) = false := bne_eq_false_iff_eq.mpr c4
  clear c4
  have H' := Aside0.mk H
  clear H
  go_enter Try.func25, Try.ntmps25
  go_wp2_with (first | ((with_reducible refine gate_callee (f := 41) rfl ?_); refine goesL_ (some 10) rfl rfl Try.func41 (by kernel_rfl) rfl #[.slice A0 l0.length c0, .int .i64 a1] rfl (by (try simp only [List.map_toArray, List.map_cons, List.map_nil]); first | done | rfl | (simp only [List.length_drop, List.length_take]; rfl)) ?_; (with_reducible refine (spigotref04_asked.calls k _ _ l0 a1 t439 _ ?side1 ?side2 A3.out).mono ?_); (case side1 => repeat (first | exact HR0.out | (with_reducible refine Kd.C_alloc ?_ _) | (with_reducible refine Kd.C_drewN ?_ _) | (with_reducible refine Kd.C_drew ?_))); (case side2 => exact HC0.out); rintro e w5 ⟨rfl, hb⟩; refine ⟨_, rfl, ?_⟩; replace HB := bs_ w hb; (try clear hb); (try clear hb2); (try clear hk); (try clear hi)))
  go_loopg [6, 7] k (fun kq v6 v7 w' => ∃ (x6_1 : Int) (x7_1 : Int), v6 = .int .u64 x6_1 ∧ v7 = .int .i64 x7_1 ∧ Aside0 (spigotref04_Wait.l0 kq l0 a1 x6_1 x7_1 = some (r1, r2)) ∧ Aside0 (kq ≤ k) ∧ Aside0 (Below w.heap.size w w'))
  case atStart => exact ⟨(0), (0), (by first | rfl | (simp; done) | (simp [*]; done)), (by first | rfl | (simp; done) | (simp [*]; done)), H', ⟨Nat.le_refl _⟩, ⟨by repeat (first | (with_reducible first | exact HB.out | apply below_alloc | apply pw_below_drewN | apply below_drew1) | exact HB.out)⟩⟩
  case round =>
   clear H'
   try clear c2
   try clear p2
   try clear c4
   try clear c4b0
   try clear c4b1
   obtain ⟨x6_1, x7_1, rfl, rfl, HA, HK1, HB⟩ := hrel
   cases gk with
   | zero => exact absurd HA.out (by simp [spigotref04_Wait.l0])
   | succ k1 =>
    have H := HA.out
    clear HA
    simp only [spigotref04_Wait.l0] at H
    by_cases c6 : x7_1 < (l0.length : Int)
    ·rw [if_pos c6] at H
     have c6b0 : decide (x7_1 < (l0.length : Int)) = true := decide_eq_true c6
     clear c6
     by_cases c7 : 0 ≤ x7_1
     rotate_left
     ·rw [if_neg c7] at H; exact absurd H (by simp)
     rw [if_pos c7] at H
     have c7b0 : decide (0 ≤ x7_1) = true := decide_eq_true c7
     clear c7
     replace H := Option.bind_eq_some_iff.mp H
     obtain ⟨t442, A80, H⟩ := H
     replace H : (spigotref04_Wait.l0 k1 l0 a1 (mx x6_1 t442) (wrap64 (x7_1 + 1))) = some (r1, r2) := H
     have A8 := Aside0.mk A80
     clear A80
     obtain ⟨ji9, hji9⟩ : ∃ j_ : Int, (mx x6_1 t442) = j_ := ⟨_, rfl⟩
     replace H : (spigotref04_Wait.l0 k1 l0 a1 ji9 (wrap64 (x7_1 + 1))) = some (r1, r2) := by first | (rw [hji9] at H; exact H) | (simp only [hji9] at H ⊢; exact H)
     (try rw [hji9] at A8)
     have hji9_ : (if x6_1 < t442 then t442 else x6_1) = ji9 := hji9
     have H' := Aside0.mk H
     clear H
     have p441 : 0 ≤ (x7_1 : Int) := of_decide_eq_true (by first | (with_reducible assumption) | assumption)
     have q441 : x7_1 < (l0.length : Int) := of_decide_eq_true (by first | (with_reducible assumption) | assumption)
     obtain ⟨ad441, e441, hx441_0, hx441_1, hx441_2, hx441_3, hx441_4, hx441_5⟩ := at_T37 HR0.out x7_1 p441 q441
     cases e441
     replace hx441_0 := (HB.out.cell (World.block_lt_of_cell? w _ hx441_0)).trans hx441_0
     replace hx441_1 := (HB.out.cell (World.block_lt_of_cell? w _ hx441_1)).trans hx441_1
     replace hx441_2 := (HB.out.cell (World.block_lt_of_cell? w _ hx441_2)).trans hx441_2
     replace hx441_3 := (HB.out.cell (World.block_lt_of_cell? w _ hx441_3)).trans hx441_3
     replace hx441_4 := (HB.out.cell (World.block_lt_of_cell? w _ hx441_4)).trans hx441_4
     replace hx441_5 := (HB.out.cell (World.block_lt_of_cell? w _ hx441_5)).trans hx441_5
     replace p441 := eq_true p441
     replace q441 := eq_true q441
     go_wp2_with (first | ((with_reducible refine gate_callee (f := 43) rfl ?_); refine goesL_ (some 27) rfl rfl Try.func43 (by kernel_rfl) rfl #[.agg #[.int .i64 ((rd_T37 l0 x7_1).f0.f0), .int .i64 ((rd_T37 l0 x7_1).f0.f1), .int .i64 ((rd_T37 l0 x7_1).f0.f2), .int .i64 ((rd_T37 l0 x7_1).f1), .int .i64 ((rd_T37 l0 x7_1).f2), .int .u64 ((rd_T37 l0 x7_1).f3)], .int .i64 a1] rfl (by (try simp only [List.map_toArray, List.map_cons, List.map_nil]); first | done | rfl | (simp only [List.length_drop, List.length_take]; rfl)) ?_; (with_reducible refine (spigotref03_Waited.calls k1 ((rd_T37 l0 x7_1).f0.f0) ((rd_T37 l0 x7_1).f0.f1) ((rd_T37 l0 x7_1).f0.f2) ((rd_T37 l0 x7_1).f1) ((rd_T37 l0 x7_1).f2) ((rd_T37 l0 x7_1).f3) a1 t442 _ A8.out).mono ?_); rintro e w10 ⟨rfl, hb⟩; refine ⟨_, rfl, ?_⟩; replace HB := bs_ w hb; (try clear hb); (try clear hb2); (try clear hk); (try clear hi)))
     go_roundg k1
     case measure => have := HK1.out; omega
     case rel => exact ⟨(ji9), (wrap64 (x7_1 + 1)), (by first | rfl | (simp; done) | (simp only [← hji9] <;> (first | rfl | simp)) | (simp [*]; done)), (by first | rfl | (simp; done) | (simp [*]; done)), H', ⟨by have := HK1.out; omega⟩, ⟨by repeat (first | (with_reducible first | exact HB.out | apply below_alloc | apply pw_below_drewN | apply below_drew1) | exact HB.out)⟩⟩
    ·rw [if_neg c6] at H
     have c6b0 : decide (x7_1 < (l0.length : Int)) = false := decide_eq_false c6
     clear c6
     simp only [Option.some.injEq, Prod.mk.injEq] at H
     obtain ⟨rfl, rfl⟩ := H
     go_wp2
     go_ret2
     exact ⟨by first | rfl | (simp [errW_none, errW_some] <;> rfl) | (simp [*, errW_none, errW_some] <;> rfl), by repeat (first | (with_reducible first | exact HB.out | apply below_alloc | apply pw_below_drewN | apply below_drew1) | exact HB.out)⟩
 ·rw [if_neg c4] at H
  have c4b0 : (t439 == 0) = false := beq_eq_false_iff_ne.mpr c4
  have c4b1 : (t439 != 0) = true := bne_iff_ne.mpr c4
  replace H := Option.bind_eq_some_iff.mp H
  obtain ⟨t440, A110, H⟩ := H
  replace H : (some (0, t440)) = some (r1, r2) := H
  have A11 := Aside0.mk A110
  clear A110
  simp only [Option.some.injEq, Prod.mk.injEq] at H
  obtain ⟨rfl, rfl⟩ := H
  go_enter Try.func25, Try.ntmps25
  go_wp2_with (first | ((with_reducible refine gate_callee (f := 41) rfl ?_); refine goesL_ (some 10) rfl rfl Try.func41 (by kernel_rfl) rfl #[.slice A0 l0.length c0, .int .i64 a1] rfl (by (try simp only [List.map_toArray, List.map_cons, List.map_nil]); first | done | rfl | (simp only [List.length_drop, List.length_take]; rfl)) ?_; (with_reducible refine (spigotref04_asked.calls k _ _ l0 a1 t439 _ ?side1 ?side2 A3.out).mono ?_); (case side1 => repeat (first | exact HR0.out | (with_reducible refine Kd.C_alloc ?_ _) | (with_reducible refine Kd.C_drewN ?_ _) | (with_reducible refine Kd.C_drew ?_))); (case side2 => exact HC0.out); rintro e w12 ⟨rfl, hb⟩; refine ⟨_, rfl, ?_⟩; replace HB := bs_ w hb; (try clear hb); (try clear hb2); (try clear hk); (try clear hi)) | ((with_reducible refine gate_callee (f := 41) rfl ?_); refine goesL_ (some 14) rfl rfl Try.func41 (by kernel_rfl) rfl #[.slice A0 l0.length c0, .int .i64 a1] rfl (by (try simp only [List.map_toArray, List.map_cons, List.map_nil]); first | done | rfl | (simp only [List.length_drop, List.length_take]; rfl)) ?_; (with_reducible refine (spigotref04_asked.calls k _ _ l0 a1 t440 _ ?side1 ?side2 A11.out).mono ?_); (case side1 => repeat (first | exact (Kd.C_below HR0.out HB.out) | (with_reducible refine Kd.C_alloc ?_ _) | (with_reducible refine Kd.C_drewN ?_ _) | (with_reducible refine Kd.C_drew ?_))); (case side2 => exact HC0.out); rintro e w13 ⟨rfl, hb⟩; refine ⟨_, rfl, ?_⟩; replace HB := bs_ w hb; (try clear hb); (try clear hb2); (try clear hk); (try clear hi)))
  go_ret2
  exact ⟨by first | rfl | (simp [errW_none, errW_some] <;> rfl) | (simp [*, errW_none, errW_some] <;> rfl), by repeat (first | (with_reducible first | exact HB.out | apply below_alloc | apply pw_below_drewN | apply below_drew1) | exact HB.out)⟩

end Go.Proofs.Ytaegpnbgppjicaa.X
