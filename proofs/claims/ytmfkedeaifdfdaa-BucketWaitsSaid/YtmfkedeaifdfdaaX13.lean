-- written by xprint.py, a program of this session over the kit's print
import Derived.Test.YtmfkedeaifdfdaaX0
import Derived.Test.YtmfkedeaifdfdaaX7
import Derived.Test.YtmfkedeaifdfdaaX9
import Derived.Test.YtmfkedeaifdfdaaX10
import Derived.Test.YtmfkedeaifdfdaaX11
namespace Go.Proofs.Ytmfkedeaifdfdaa.X
open Go.RowKit Go.Proofs.YtmfkedeaifdfdaaW.PrintWords Go.Proofs.YtmfkedeaifdfdaaW.PrintLast Go.Proofs.YtmfkedeaifdfdaaW.PrintMore
attribute [local go_sem] max2_int min2_int max_two min_two max_three min_three max_four min_four   -- for this text's walks alone
set_option linter.unusedVariables false
set_option linter.unusedSimpArgs false

/-! ### spigotlaw03_BucketWaits: function 6 -/
def spigotlaw03_BucketWaits.j0 : Nat → Int → Bool → Int → Int → Int → Int → Int → Int → Option (Bool)
  | 0, _, _, _, _, _, _, _, _ => none
  | k + 1, x1, x23, x537000, x537001, x537002, x537003, x537004, x537005 => if x23 = true then ((spigotlaw03_alive.f k).bind fun t538 => (some t538)) else ((bucket_Wait.f k x537000 x537001 x537002 x537003 x537004 x537005 x1).bind fun bt539 => (if bt539.2 = 0 then ((bucket_Refill.f k x537000 x537001 x537002 x537003 x537004 x537005 18446744073709551615).bind fun bt541 => (if bt539.1 = 18446744073709551615 then (if bt541.2.2.2.2.2.2 = 0 then (if bt541.2.2.2.1 < x1 then ((spigotlaw03_alive.f k).bind fun t549 => (some t549)) else (none)) else (none)) else (if bt541.2.2.2.2.2.2 = 0 then (if bt541.2.2.2.1 < x1 then (none) else (if bt539.1 > (IntKind.u64.wrap (18446744073709551615 - x537005)) then (none) else (if bt539.1 > 1000000000000000000 then (none) else ((bucket_Refill.f k x537000 x537001 x537002 x537003 x537004 x537005 (IntKind.u64.wrap (x537005 + bt539.1))).bind fun bt550 => ((bucket_Charge.f bt550.1 bt550.2.1 bt550.2.2.1 bt550.2.2.2.1 bt550.2.2.2.2.1 bt550.2.2.2.2.2.1 x1).bind fun bt558 => (if bt550.2.2.2.2.2.2 = 0 then (if bt558.2.2.2.2.2.2 = 0 then (if bt539.1 = 0 then (if x537003 ≥ x1 then ((spigotlaw03_alive.f k).bind fun t566 => (some t566)) else (none)) else ((bucket_Refill.f k x537000 x537001 x537002 x537003 x537004 x537005 (IntKind.u64.wrap ((IntKind.u64.wrap (x537005 + bt539.1)) - 1))).bind fun bt567 => ((bucket_Charge.f bt567.1 bt567.2.1 bt567.2.2.1 bt567.2.2.2.1 bt567.2.2.2.2.1 bt567.2.2.2.2.2.1 x1).bind fun bt575 => (if bt567.2.2.2.2.2.2 = 0 then (if bt575.2.2.2.2.2.2 = 20 then ((spigotlaw03_alive.f k).bind fun t583 => (some t583)) else (none)) else (none))))) else (none)) else (none))))))) else (none)))) else (none)))
def spigotlaw03_BucketWaits.f (k : Nat) (a0_0 : Int) (a0_1 : Int) (a0_2 : Int) (a0_3 : Int) (a0_4 : Int) (a0_5 : Int) (a1 : Int) : Option (Bool) := (spigotref03_Check.f a0_0 a0_1 a0_2 a0_3 a0_4 a0_5).bind fun t537 => (if t537 = 0 then (spigotlaw03_BucketWaits.j0 k a1 (decide (a1 < 0)) a0_0 a0_1 a0_2 a0_3 a0_4 a0_5) else (spigotlaw03_BucketWaits.j0 k a1 true a0_0 a0_1 a0_2 a0_3 a0_4 a0_5))
theorem spigotlaw03_BucketWaits.mono_l : ∀ k, (∀ y0 y1 y2 y3 y4 y5 y6 y7, LeO (spigotlaw03_BucketWaits.j0 k y0 y1 y2 y3 y4 y5 y6 y7) (spigotlaw03_BucketWaits.j0 (k + 1) y0 y1 y2 y3 y4 y5 y6 y7))
  | 0 => fun _ _ _ _ _ _ _ _ r h => by simp [spigotlaw03_BucketWaits.j0] at h
  | k + 1 => by
    have ih0 := spigotlaw03_BucketWaits.mono_l k
    · intro y0 y1 y2 y3 y4 y5 y6 y7
      unfold spigotlaw03_BucketWaits.j0
      repeat' first
      | (with_reducible exact ih0 _ _ _ _ _ _ _ _)
      | (with_reducible exact bucket_Refill.mono _ _ _ _ _ _ _ _)
      | (with_reducible exact bucket_Wait.mono _ _ _ _ _ _ _ _)
      | (with_reducible exact spigotlaw03_alive.mono _)
      | (with_reducible exact LeO.refl _)
      | (with_reducible exact LeO.none _)
      | (with_reducible refine LeO.ite ?_ ?_)
      | (with_reducible refine LeO.bind ?_ (fun _ => ?_))
      | exact ih0 _ _ _ _ _ _ _ _
      | exact bucket_Refill.mono _ _ _ _ _ _ _ _
      | exact bucket_Wait.mono _ _ _ _ _ _ _ _
      | exact spigotlaw03_alive.mono _
      | exact LeO.none _
      | refine LeO.ite ?_ ?_
      | refine LeO.bind ?_ (fun _ => ?_)
theorem spigotlaw03_BucketWaits.mono : ∀ a0 a1 a2 a3 a4 a5 a6 k, LeO (spigotlaw03_BucketWaits.f k a0 a1 a2 a3 a4 a5 a6) (spigotlaw03_BucketWaits.f (k + 1) a0 a1 a2 a3 a4 a5 a6) := by
  intro a0 a1 a2 a3 a4 a5 a6 k
  have ih0 := spigotlaw03_BucketWaits.mono_l k
  unfold spigotlaw03_BucketWaits.f
  repeat' first
      | (with_reducible exact ih0 _ _ _ _ _ _ _ _)
      | (with_reducible exact bucket_Refill.mono _ _ _ _ _ _ _ _)
      | (with_reducible exact bucket_Wait.mono _ _ _ _ _ _ _ _)
      | (with_reducible exact spigotlaw03_alive.mono _)
      | (with_reducible exact LeO.refl _)
      | (with_reducible exact LeO.none _)
      | (with_reducible refine LeO.ite ?_ ?_)
      | (with_reducible refine LeO.bind ?_ (fun _ => ?_))
      | exact ih0 _ _ _ _ _ _ _ _
      | exact bucket_Refill.mono _ _ _ _ _ _ _ _
      | exact bucket_Wait.mono _ _ _ _ _ _ _ _
      | exact spigotlaw03_alive.mono _
      | exact LeO.none _
      | refine LeO.ite ?_ ?_
      | refine LeO.bind ?_ (fun _ => ?_)
set_option maxHeartbeats 8000000 in
set_option maxRecDepth 100000 in
theorem spigotlaw03_BucketWaits.calls (k : Nat) (a0_0 : Int) (a0_1 : Int) (a0_2 : Int) (a0_3 : Int) (a0_4 : Int) (a0_5 : Int) (a1 : Int) (r : Bool) (w : World) (h : spigotlaw03_BucketWaits.f k a0_0 a0_1 a0_2 a0_3 a0_4 a0_5 a1 = some r) :
  Calls Try.prog 6 #[.agg #[.int .i64 a0_0, .int .i64 a0_1, .int .i64 a0_2, .int .i64 a0_3, .int .i64 a0_4, .int .u64 a0_5], .int .i64 a1] w fun e w' => e = .returned (.bool r) ∧ Below w.heap.size w w' := by
 have hu26 := Try.underlying26
 have HB := Aside0.mk (Below.refl w.heap.size w)
 have H : ((spigotref03_Check.f a0_0 a0_1 a0_2 a0_3 a0_4 a0_5).bind fun t537 => (if t537 = 0 then (spigotlaw03_BucketWaits.j0 k a1 (decide (a1 < 0)) a0_0 a0_1 a0_2 a0_3 a0_4 a0_5) else (spigotlaw03_BucketWaits.j0 k a1 true a0_0 a0_1 a0_2 a0_3 a0_4 a0_5))) = some r := h
 clear h
 have HC3 := Aside0.mk H
 clear H
 go_enter Try.func6, Try.ntmps6
 go_upto_region 1 with (first | ((with_reducible refine gate_dst (N := 2) rfl ?_); refine box_event ?hg (N := 2) ?hd (cs := #[.int .i64 a0_0, .int .i64 a0_1, .int .i64 a0_2, .int .i64 a0_3, .int .i64 a0_4, .int .u64 a0_5]) (t := 26) ?hr ?_; (case hd => rfl); (case hg => rfl); (case hr => first | (go_simp; done) | (go_simp; rfl)); intro gb536 hg w4 hbox hb; have BK536 := Aside0.mk (hbox); have GW536 := bz_ w hg; have GE536 := GW536; replace HB := bs_ w hb; clear hb hbox hg))
 (try simp only [Act.put, List.setIfInBounds_toArray, List.set_cons_zero, List.set_cons_succ])
 go_cut [23] (fun v23 wc => ∃ (kq : Nat) (x23_2 : Bool), v23 = .bool x23_2 ∧ Aside0 (spigotlaw03_BucketWaits.j0 kq a1 x23_2 a0_0 a0_1 a0_2 a0_3 a0_4 a0_5 = some r) ∧ Aside0 (kq ≤ k) ∧ Aside0 (wc.heap[gb536]? = some (.cells #[.int .i64 a0_0, .int .i64 a0_1, .int .i64 a0_2, .int .i64 a0_3, .int .i64 a0_4, .int .u64 a0_5] 26 (0, 0))) ∧ Aside0 (Below w.heap.size w wc))
 case first =>
  have H := HC3.out
  clear HC3
  replace H := Option.bind_eq_some_iff.mp H
  obtain ⟨t537, A50, H⟩ := H
  try dsimp only at H
  have A5 := Aside0.mk A50
  clear A50
  by_cases c6 : t537 = 0
  ·rw [if_pos c6] at H
   have c6b0 : (t537 == 0) = true := beq_iff_eq.mpr c6
   have c6b1 : (t537 != 0) = false := bne_eq_false_iff_eq.mpr c6
   clear c6
   (first | rw [c6b0] | (simp only [i64_w, i32_w]; rw [c6b0]) | skip)
   have H' := Aside0.mk H
   clear H
   have hcz7_0 : w4.cell? ⟨gb536, 0, none⟩ = some (.int .i64 a0_0) := (blk_cell BK536.out 0).trans rfl
   have hcz7_1 : w4.cell? ⟨gb536, 1, none⟩ = some (.int .i64 a0_1) := (blk_cell BK536.out 1).trans rfl
   have hcz7_2 : w4.cell? ⟨gb536, 2, none⟩ = some (.int .i64 a0_2) := (blk_cell BK536.out 2).trans rfl
   have hcz7_3 : w4.cell? ⟨gb536, 3, none⟩ = some (.int .i64 a0_3) := (blk_cell BK536.out 3).trans rfl
   have hcz7_4 : w4.cell? ⟨gb536, 4, none⟩ = some (.int .i64 a0_4) := (blk_cell BK536.out 4).trans rfl
   have hcz7_5 : w4.cell? ⟨gb536, 5, none⟩ = some (.int .u64 a0_5) := (blk_cell BK536.out 5).trans rfl
   have hfz7_0 := blk_frozen BK536.out 0
   have hfz7_1 := blk_frozen BK536.out 1
   have hfz7_2 := blk_frozen BK536.out 2
   have hfz7_3 := blk_frozen BK536.out 3
   have hfz7_4 := blk_frozen BK536.out 4
   have hfz7_5 := blk_frozen BK536.out 5
   go_wp2_with (first | ((with_reducible refine gate_callee (f := 17) rfl ?_); refine goesL_ (some 18) rfl rfl Try.func17 (by kernel_rfl) rfl #[.agg #[.int .i64 a0_0, .int .i64 a0_1, .int .i64 a0_2, .int .i64 a0_3, .int .i64 a0_4, .int .u64 a0_5]] rfl (by (try simp only [List.map_toArray, List.map_cons, List.map_nil]); first | done | rfl | (simp only [List.length_drop, List.length_take]; rfl)) ?_; (with_reducible refine (spigotref03_Check.calls a0_0 a0_1 a0_2 a0_3 a0_4 a0_5 t537 _ A5.out).mono ?_); rintro e w8 ⟨rfl, hb⟩; refine ⟨_, rfl, ?_⟩; replace BK536 := bb_ BK536 hb; replace HB := bs_ w hb; (try clear hb); (try clear hb2); (try clear hk); (try clear hi)))
   go_meet
   case rel => exact ⟨_, (decide (a1 < 0)), (by first | rfl | (simp; done) | (simp [*]; done)), H', ⟨by first | omega | exact Nat.le_refl _⟩, ⟨bq_ BK536⟩, ⟨by repeat (first | (with_reducible first | exact HB.out | apply below_alloc | apply pw_below_drewN | apply below_drew1 | refine below_set ?_ GE536.out) | exact HB.out)⟩⟩
  ·rw [if_neg c6] at H
   have c6b0 : (t537 == 0) = false := beq_eq_false_iff_ne.mpr c6
   have c6b1 : (t537 != 0) = true := bne_iff_ne.mpr c6
   (first | rw [c6b0] | (simp only [i64_w, i32_w]; rw [c6b0]) | skip)
   have H' := Aside0.mk H
   clear H
   have hcz9_0 : w4.cell? ⟨gb536, 0, none⟩ = some (.int .i64 a0_0) := (blk_cell BK536.out 0).trans rfl
   have hcz9_1 : w4.cell? ⟨gb536, 1, none⟩ = some (.int .i64 a0_1) := (blk_cell BK536.out 1).trans rfl
   have hcz9_2 : w4.cell? ⟨gb536, 2, none⟩ = some (.int .i64 a0_2) := (blk_cell BK536.out 2).trans rfl
   have hcz9_3 : w4.cell? ⟨gb536, 3, none⟩ = some (.int .i64 a0_3) := (blk_cell BK536.out 3).trans rfl
   have hcz9_4 : w4.cell? ⟨gb536, 4, none⟩ = some (.int .i64 a0_4) := (blk_cell BK536.out 4).trans rfl
   have hcz9_5 : w4.cell? ⟨gb536, 5, none⟩ = some (.int .u64 a0_5) := (blk_cell BK536.out 5).trans rfl
   have hfz9_0 := blk_frozen BK536.out 0
   have hfz9_1 := blk_frozen BK536.out 1
   have hfz9_2 := blk_frozen BK536.out 2
   have hfz9_3 := blk_frozen BK536.out 3
   have hfz9_4 := blk_frozen BK536.out 4
   have hfz9_5 := blk_frozen BK536.out 5
   go_wp2_with (first | ((with_reducible refine gate_callee (f := 17) rfl ?_); refine goesL_ (some 18) rfl rfl Try.func17 (by kernel_rfl) rfl #[.agg #[.int .i64 a0_0, .int .i64 a0_1, .int .i64 a0_2, .int .i64 a0_3, .int .i64 a0_4, .int .u64 a0_5]] rfl (by (try simp only [List.map_toArray, List.map_cons, List.map_nil]); first | done | rfl | (simp only [List.length_drop, List.length_take]; rfl)) ?_; (with_reducible refine (spigotref03_Check.calls a0_0 a0_1 a0_2 a0_3 a0_4 a0_5 t537 _ A5.out).mono ?_); rintro e w10 ⟨rfl, hb⟩; refine ⟨_, rfl, ?_⟩; replace BK536 := bb_ BK536 hb; replace HB := bs_ w hb; (try clear hb); (try clear hb2); (try clear hk); (try clear hi)))
   go_meet
   case rel => exact ⟨_, (true), (by first | rfl | (simp; done) | (simp [*]; done)), H', ⟨by first | omega | exact Nat.le_refl _⟩, ⟨bq_ BK536⟩, ⟨by repeat (first | (with_reducible first | exact HB.out | apply below_alloc | apply pw_below_drewN | apply below_drew1 | refine below_set ?_ GE536.out) | exact HB.out)⟩⟩
 case rest =>
  clear HC3
  try clear c1
  try clear p2
  try clear c6
  try clear c6b0
  try clear c6b1
  try clear hcz7_0
  try clear hcz7_1
  try clear hcz7_2
  try clear hcz7_3
  try clear hcz7_4
  try clear hcz7_5
  try clear hcz9_0
  try clear hcz9_1
  try clear hcz9_2
  try clear hcz9_3
  try clear hcz9_4
  try clear hcz9_5
  try clear hfz7_0
  try clear hfz7_1
  try clear hfz7_2
  try clear hfz7_3
  try clear hfz7_4
  try clear hfz7_5
  try clear hfz9_0
  try clear hfz9_1
  try clear hfz9_2
  try clear hfz9_3
  try clear hfz9_4
  try clear hfz9_5
  obtain ⟨kq, x23_2, rfl, HA, HJ2, BK536, HB⟩ := hcut
  cases kq with
  | zero => exact absurd HA.out (by simp [spigotlaw03_BucketWaits.j0])
  | succ kj2 =>
   have H := HA.out
   clear HA
   simp only [spigotlaw03_BucketWaits.j0] at H
   by_cases c11 : x23_2 = true
   ·subst c11
    have H1 : ((spigotlaw03_alive.f kj2).bind fun t538 => (some t538)) = some r := by rw [if_pos rfl] at H; exact H
    clear H
    have H := H1
    clear H1
    replace H := Option.bind_eq_some_iff.mp H
    obtain ⟨t538, A120, H⟩ := H
    replace H : (some t538) = some r := H
    have A12 := Aside0.mk A120
    clear A120
    obtain rfl := Option.some.inj H
    go_wp2_with (first | ((with_reducible refine gate_callee (f := 27) rfl ?_); refine goesL_ (some 24) rfl rfl Try.func27 (by kernel_rfl) rfl #[] rfl (by (try simp only [List.map_toArray, List.map_cons, List.map_nil]); first | done | rfl | (simp only [List.length_drop, List.length_take]; rfl)) ?_; (with_reducible refine (spigotlaw03_alive.calls kj2  t538 _ A12.out).mono ?_); rintro e w13 ⟨rfl, hb⟩; refine ⟨_, rfl, ?_⟩; replace BK536 := bb_ BK536 hb; replace HB := bs_ w hb; (try clear hb); (try clear hb2); (try clear hk); (try clear hi)))
    go_ret
    exact ⟨by first | rfl | (simp [errW_none, errW_some] <;> rfl) | (simp [*, errW_none, errW_some] <;> rfl), by repeat (first | (with_reducible first | exact HB.out | apply below_alloc | apply pw_below_drewN | apply below_drew1 | refine below_set ?_ GE536.out) | exact HB.out)⟩
   ·replace c11 := Bool.eq_false_iff.mpr c11
    subst c11
    have H1 : ((bucket_Wait.f kj2 a0_0 a0_1 a0_2 a0_3 a0_4 a0_5 a1).bind fun bt539 => (if bt539.2 = 0 then ((bucket_Refill.f kj2 a0_0 a0_1 a0_2 a0_3 a0_4 a0_5 18446744073709551615).bind fun bt541 => (if bt539.1 = 18446744073709551615 then (if bt541.2.2.2.2.2.2 = 0 then (if bt541.2.2.2.1 < a1 then ((spigotlaw03_alive.f kj2).bind fun t549 => (some t549)) else (none)) else (none)) else (if bt541.2.2.2.2.2.2 = 0 then (if bt541.2.2.2.1 < a1 then (none) else (if bt539.1 > (IntKind.u64.wrap (18446744073709551615 - a0_5)) then (none) else (if bt539.1 > 1000000000000000000 then (none) else ((bucket_Refill.f kj2 a0_0 a0_1 a0_2 a0_3 a0_4 a0_5 (IntKind.u64.wrap (a0_5 + bt539.1))).bind fun bt550 => ((bucket_Charge.f bt550.1 bt550.2.1 bt550.2.2.1 bt550.2.2.2.1 bt550.2.2.2.2.1 bt550.2.2.2.2.2.1 a1).bind fun bt558 => (if bt550.2.2.2.2.2.2 = 0 then (if bt558.2.2.2.2.2.2 = 0 then (if bt539.1 = 0 then (if a0_3 ≥ a1 then ((spigotlaw03_alive.f kj2).bind fun t566 => (some t566)) else (none)) else ((bucket_Refill.f kj2 a0_0 a0_1 a0_2 a0_3 a0_4 a0_5 (IntKind.u64.wrap ((IntKind.u64.wrap (a0_5 + bt539.1)) - 1))).bind fun bt567 => ((bucket_Charge.f bt567.1 bt567.2.1 bt567.2.2.1 bt567.2.2.2.1 bt567.2.2.2.2.1 bt567.2.2.2.2.2.1 a1).bind fun bt575 => (if bt567.2.2.2.2.2.2 = 0 then (if bt575.2.2.2.2.2.2 = 20 then ((spigotlaw03_alive.f kj2).bind fun t583 => (some t583)) else (none)) else (none))))) else (none)) else (none))))))) else (none)))) else (none))) = some r := by rw [if_neg (show ¬ (false = true) by decide)] at H; exact H
    clear H
    have H := H1
    clear H1
    replace H := Option.bind_eq_some_iff.mp H
    obtain ⟨⟨t539, t540⟩, A140, H⟩ := H
    try dsimp only at H
    have A14 := Aside0.mk A140
    clear A140
    by_cases c15 : t540 = 0
    rotate_left
    ·rw [if_neg c15] at H; exact absurd H (by simp)
    rw [if_pos c15] at H
    have c15b0 : (t540 == 0) = true := beq_iff_eq.mpr c15
    have c15b1 : (t540 != 0) = false := bne_eq_false_iff_eq.mpr c15
    clear c15
    replace H := Option.bind_eq_some_iff.mp H
    obtain ⟨⟨t541, t542, t543, t544, t545, t546, t547⟩, A160, H⟩ := H
    try dsimp only at H
    have A16 := Aside0.mk A160
    clear A160
    by_cases c17 : t539 = 18446744073709551615
    ·rw [if_pos c17] at H
     have c17b0 : (t539 == 18446744073709551615) = true := beq_iff_eq.mpr c17
     have c17b1 : (t539 != 18446744073709551615) = false := bne_eq_false_iff_eq.mpr c17
     clear c17
     by_cases c18 : t547 = 0
     rotate_left
     ·rw [if_neg c18] at H; exact absurd H (by simp)
     rw [if_pos c18] at H
     have c18b0 : (t547 == 0) = true := beq_iff_eq.mpr c18
     have c18b1 : (t547 != 0) = false := bne_eq_false_iff_eq.mpr c18
     clear c18
     by_cases c19 : t544 < a1
     rotate_left
     ·rw [if_neg c19] at H; exact absurd H (by simp)
     rw [if_pos c19] at H
     have c19b0 : decide (t544 < a1) = true := decide_eq_true c19
     clear c19
     replace H := Option.bind_eq_some_iff.mp H
     obtain ⟨t549, A200, H⟩ := H
     replace H : (some t549) = some r := H
     have A20 := Aside0.mk A200
     clear A200
     obtain rfl := Option.some.inj H
     have hcz21_0 : wc.cell? ⟨gb536, 0, none⟩ = some (.int .i64 a0_0) := (blk_cell BK536.out 0).trans rfl
     have hcz21_1 : wc.cell? ⟨gb536, 1, none⟩ = some (.int .i64 a0_1) := (blk_cell BK536.out 1).trans rfl
     have hcz21_2 : wc.cell? ⟨gb536, 2, none⟩ = some (.int .i64 a0_2) := (blk_cell BK536.out 2).trans rfl
     have hcz21_3 : wc.cell? ⟨gb536, 3, none⟩ = some (.int .i64 a0_3) := (blk_cell BK536.out 3).trans rfl
     have hcz21_4 : wc.cell? ⟨gb536, 4, none⟩ = some (.int .i64 a0_4) := (blk_cell BK536.out 4).trans rfl
     have hcz21_5 : wc.cell? ⟨gb536, 5, none⟩ = some (.int .u64 a0_5) := (blk_cell BK536.out 5).trans rfl
     have hfz21_0 := blk_frozen BK536.out 0
     have hfz21_1 := blk_frozen BK536.out 1
     have hfz21_2 := blk_frozen BK536.out 2
     have hfz21_3 := blk_frozen BK536.out 3
     have hfz21_4 := blk_frozen BK536.out 4
     have hfz21_5 := blk_frozen BK536.out 5
     go_wp2_with (first | ((with_reducible refine gate_callee (f := 20) rfl ?_); refine goesL_ (some 28) rfl rfl Try.func20 (by kernel_rfl) rfl #[.agg #[.int .i64 a0_0, .int .i64 a0_1, .int .i64 a0_2, .int .i64 a0_3, .int .i64 a0_4, .int .u64 a0_5], .int .i64 a1] rfl (by (try simp only [List.map_toArray, List.map_cons, List.map_nil]); first | done | rfl | (simp only [List.length_drop, List.length_take]; rfl)) ?_; (with_reducible refine (bucket_Wait.calls kj2 a0_0 a0_1 a0_2 a0_3 a0_4 a0_5 a1 t539 t540 _ A14.out).mono ?_); rintro e w22 ⟨rfl, hb⟩; refine ⟨_, rfl, ?_⟩; replace BK536 := bb_ BK536 hb; replace HB := bs_ w hb; (try clear hb); (try clear hb2); (try clear hk); (try clear hi); have hcz23_0 : w22.cell? ⟨gb536, 0, none⟩ = some (.int .i64 a0_0) := (blk_cell BK536.out 0).trans rfl; have hcz23_1 : w22.cell? ⟨gb536, 1, none⟩ = some (.int .i64 a0_1) := (blk_cell BK536.out 1).trans rfl; have hcz23_2 : w22.cell? ⟨gb536, 2, none⟩ = some (.int .i64 a0_2) := (blk_cell BK536.out 2).trans rfl; have hcz23_3 : w22.cell? ⟨gb536, 3, none⟩ = some (.int .i64 a0_3) := (blk_cell BK536.out 3).trans rfl; have hcz23_4 : w22.cell? ⟨gb536, 4, none⟩ = some (.int .i64 a0_4) := (blk_cell BK536.out 4).trans rfl; have hcz23_5 : w22.cell? ⟨gb536, 5, none⟩ = some (.int .u64 a0_5) := (blk_cell BK536.out 5).trans rfl; have hfz23_0 := blk_frozen BK536.out 0; have hfz23_1 := blk_frozen BK536.out 1; have hfz23_2 := blk_frozen BK536.out 2; have hfz23_3 := blk_frozen BK536.out 3; have hfz23_4 := blk_frozen BK536.out 4; have hfz23_5 := blk_frozen BK536.out 5) | ((with_reducible refine gate_callee (f := 12) rfl ?_); refine goesL_ (some 35) rfl rfl Try.func12 (by kernel_rfl) rfl #[.agg #[.int .i64 a0_0, .int .i64 a0_1, .int .i64 a0_2, .int .i64 a0_3, .int .i64 a0_4, .int .u64 a0_5], .int .u64 18446744073709551615] rfl (by (try simp only [List.map_toArray, List.map_cons, List.map_nil]); first | done | rfl | (simp only [List.length_drop, List.length_take]; rfl)) ?_; (with_reducible refine (bucket_Refill.calls kj2 a0_0 a0_1 a0_2 a0_3 a0_4 a0_5 18446744073709551615 t541 t542 t543 t544 t545 t546 t547 _ A16.out).mono ?_); rintro e w24 ⟨rfl, hb⟩; refine ⟨_, rfl, ?_⟩; replace BK536 := bb_ BK536 hb; replace HB := bs_ w hb; (try clear hb); (try clear hb2); (try clear hk); (try clear hi)) | ((with_reducible refine gate_dst (N := 7) rfl ?_); refine box_event ?hg (N := 7) ?hd (cs := #[.int .i64 0, .int .i64 0, .int .i64 0, .int .i64 0, .int .i64 0, .int .u64 0]) (t := 26) ?hr ?_; (case hd => rfl); (case hg => rfl); (case hr => first | (go_simp; done) | (go_simp; rfl)); intro gb548 hg w25 hbox hb; have BK548 := Aside0.mk (hbox); have GW548 := bz_ w hg; have GE548 := GW548; have NB536_548 := bn_ BK536 hg; have NB548_536 := bm_ BK536 hg; replace BK536 := bb_ BK536 hb; replace HB := bs_ w hb; clear hb hbox hg; have hnb26 := NB548_536.out; have hnc26 := NB536_548.out; have hcz27_0 : w25.cell? ⟨gb548, 0, none⟩ = some (.int .i64 0) := (blk_cell BK548.out 0).trans rfl; have hcz27_1 : w25.cell? ⟨gb548, 1, none⟩ = some (.int .i64 0) := (blk_cell BK548.out 1).trans rfl; have hcz27_2 : w25.cell? ⟨gb548, 2, none⟩ = some (.int .i64 0) := (blk_cell BK548.out 2).trans rfl; have hcz27_3 : w25.cell? ⟨gb548, 3, none⟩ = some (.int .i64 0) := (blk_cell BK548.out 3).trans rfl; have hcz27_4 : w25.cell? ⟨gb548, 4, none⟩ = some (.int .i64 0) := (blk_cell BK548.out 4).trans rfl; have hcz27_5 : w25.cell? ⟨gb548, 5, none⟩ = some (.int .u64 0) := (blk_cell BK548.out 5).trans rfl; have hfz27_0 := blk_frozen BK548.out 0; have hfz27_1 := blk_frozen BK548.out 1; have hfz27_2 := blk_frozen BK548.out 2; have hfz27_3 := blk_frozen BK548.out 3; have hfz27_4 := blk_frozen BK548.out 4; have hfz27_5 := blk_frozen BK548.out 5) | (go_at_call 27; (with_reducible refine (spigotlaw03_alive.calls kj2  t549 _ A20.out).mono ?_); rintro e w28 ⟨rfl, hb⟩; replace BK536 := bf_ BK536 hb; replace BK548 := Aside0.mk (blk_below (g := gb548) (o := .cells #[.int .i64 t541, .int .i64 t542, .int .i64 t543, .int .i64 t544, .int .i64 t545, .int .u64 t546] 26 (0, 0)) (blk_put (cs := #[.int .i64 t541, .int .i64 t542, .int .i64 t543, .int .i64 t544, .int .i64 t545, .int .u64 0]) (blk_put (cs := #[.int .i64 t541, .int .i64 t542, .int .i64 t543, .int .i64 t544, .int .i64 0, .int .u64 0]) (blk_put (cs := #[.int .i64 t541, .int .i64 t542, .int .i64 t543, .int .i64 0, .int .i64 0, .int .u64 0]) (blk_put (cs := #[.int .i64 t541, .int .i64 t542, .int .i64 0, .int .i64 0, .int .i64 0, .int .u64 0]) (blk_put (cs := #[.int .i64 t541, .int .i64 0, .int .i64 0, .int .i64 0, .int .i64 0, .int .u64 0]) (blk_put (cs := #[.int .i64 0, .int .i64 0, .int .i64 0, .int .i64 0, .int .i64 0, .int .u64 0]) (bq_ BK548) 0 _ rfl) 1 _ rfl) 2 _ rfl) 3 _ rfl) 4 _ rfl) 5 _ rfl) hb); replace HB := bs_ w hb; (try clear hb); (try clear hb2); (try clear hk); (try clear hi)))
     go_ret
     exact ⟨by first | rfl | (simp [errW_none, errW_some] <;> rfl) | (simp [*, errW_none, errW_some] <;> rfl), by repeat (first | (with_reducible first | exact HB.out | apply below_alloc | apply pw_below_drewN | apply below_drew1 | refine below_set ?_ GE536.out | refine below_set ?_ GE548.out) | exact HB.out)⟩
    ·rw [if_neg c17] at H
     have c17b0 : (t539 == 18446744073709551615) = false := beq_eq_false_iff_ne.mpr c17
     have c17b1 : (t539 != 18446744073709551615) = true := bne_iff_ne.mpr c17
     by_cases c29 : t547 = 0
     rotate_left
     ·rw [if_neg c29] at H; exact absurd H (by simp)
     rw [if_pos c29] at H
     have c29b0 : (t547 == 0) = true := beq_iff_eq.mpr c29
     have c29b1 : (t547 != 0) = false := bne_eq_false_iff_eq.mpr c29
     clear c29
     by_cases c30 : t544 < a1
     ·rw [if_pos c30] at H; exact absurd H (by simp)
     rw [if_neg c30] at H
     have c30b0 : decide (t544 < a1) = false := decide_eq_false c30
     clear c30
     by_cases c31 : t539 > (IntKind.u64.wrap (18446744073709551615 - a0_5))
     ·rw [if_pos c31] at H; exact absurd H (by simp)
     rw [if_neg c31] at H
     have c31b0 : decide ((IntKind.u64.wrap (18446744073709551615 - a0_5)) < t539) = false := decide_eq_false c31
     clear c31
     by_cases c32 : t539 > 1000000000000000000
     ·rw [if_pos c32] at H; exact absurd H (by simp)
     rw [if_neg c32] at H
     have c32b0 : decide (1000000000000000000 < t539) = false := decide_eq_false c32
     clear c32
     replace H := Option.bind_eq_some_iff.mp H
     obtain ⟨⟨t550, t551, t552, t553, t554, t555, t556⟩, A330, H⟩ := H
     try dsimp only at H
     have A33 := Aside0.mk A330
     clear A330
     replace H := Option.bind_eq_some_iff.mp H
     obtain ⟨⟨t558, t559, t560, t561, t562, t563, t564⟩, A340, H⟩ := H
     try dsimp only at H
     have A34 := Aside0.mk A340
     clear A340
     by_cases c35 : t556 = 0
     rotate_left
     ·rw [if_neg c35] at H; exact absurd H (by simp)
     rw [if_pos c35] at H
     have c35b0 : (t556 == 0) = true := beq_iff_eq.mpr c35
     have c35b1 : (t556 != 0) = false := bne_eq_false_iff_eq.mpr c35
     clear c35
     by_cases c36 : t564 = 0
     rotate_left
     ·rw [if_neg c36] at H; exact absurd H (by simp)
     rw [if_pos c36] at H
     have c36b0 : (t564 == 0) = true := beq_iff_eq.mpr c36
     have c36b1 : (t564 != 0) = false := bne_eq_false_iff_eq.mpr c36
     clear c36
     by_cases c37 : t539 = 0
     ·rw [if_pos c37] at H
      have c37b0 : (t539 == 0) = true := beq_iff_eq.mpr c37
      have c37b1 : (t539 != 0) = false := bne_eq_false_iff_eq.mpr c37
      clear c37
      by_cases c38 : a0_3 ≥ a1
      rotate_left
      ·rw [if_neg c38] at H; exact absurd H (by simp)
      rw [if_pos c38] at H
      have c38b0 : decide (a1 ≤ a0_3) = true := decide_eq_true c38
      clear c38
      replace H := Option.bind_eq_some_iff.mp H
      obtain ⟨t566, A390, H⟩ := H
      replace H : (some t566) = some r := H
      have A39 := Aside0.mk A390
      clear A390
      obtain rfl := Option.some.inj H
      have hcz40_0 : wc.cell? ⟨gb536, 0, none⟩ = some (.int .i64 a0_0) := (blk_cell BK536.out 0).trans rfl
      have hcz40_1 : wc.cell? ⟨gb536, 1, none⟩ = some (.int .i64 a0_1) := (blk_cell BK536.out 1).trans rfl
      have hcz40_2 : wc.cell? ⟨gb536, 2, none⟩ = some (.int .i64 a0_2) := (blk_cell BK536.out 2).trans rfl
      have hcz40_3 : wc.cell? ⟨gb536, 3, none⟩ = some (.int .i64 a0_3) := (blk_cell BK536.out 3).trans rfl
      have hcz40_4 : wc.cell? ⟨gb536, 4, none⟩ = some (.int .i64 a0_4) := (blk_cell BK536.out 4).trans rfl
      have hcz40_5 : wc.cell? ⟨gb536, 5, none⟩ = some (.int .u64 a0_5) := (blk_cell BK536.out 5).trans rfl
      have hfz40_0 := blk_frozen BK536.out 0
      have hfz40_1 := blk_frozen BK536.out 1
      have hfz40_2 := blk_frozen BK536.out 2
      have hfz40_3 := blk_frozen BK536.out 3
      have hfz40_4 := blk_frozen BK536.out 4
      have hfz40_5 := blk_frozen BK536.out 5
      go_wp2_with (first | ((with_reducible refine gate_callee (f := 20) rfl ?_); refine goesL_ (some 28) rfl rfl Try.func20 (by kernel_rfl) rfl #[.agg #[.int .i64 a0_0, .int .i64 a0_1, .int .i64 a0_2, .int .i64 a0_3, .int .i64 a0_4, .int .u64 a0_5], .int .i64 a1] rfl (by (try simp only [List.map_toArray, List.map_cons, List.map_nil]); first | done | rfl | (simp only [List.length_drop, List.length_take]; rfl)) ?_; (with_reducible refine (bucket_Wait.calls kj2 a0_0 a0_1 a0_2 a0_3 a0_4 a0_5 a1 t539 t540 _ A14.out).mono ?_); rintro e w41 ⟨rfl, hb⟩; refine ⟨_, rfl, ?_⟩; replace BK536 := bb_ BK536 hb; replace HB := bs_ w hb; (try clear hb); (try clear hb2); (try clear hk); (try clear hi); have hcz42_0 : w41.cell? ⟨gb536, 0, none⟩ = some (.int .i64 a0_0) := (blk_cell BK536.out 0).trans rfl; have hcz42_1 : w41.cell? ⟨gb536, 1, none⟩ = some (.int .i64 a0_1) := (blk_cell BK536.out 1).trans rfl; have hcz42_2 : w41.cell? ⟨gb536, 2, none⟩ = some (.int .i64 a0_2) := (blk_cell BK536.out 2).trans rfl; have hcz42_3 : w41.cell? ⟨gb536, 3, none⟩ = some (.int .i64 a0_3) := (blk_cell BK536.out 3).trans rfl; have hcz42_4 : w41.cell? ⟨gb536, 4, none⟩ = some (.int .i64 a0_4) := (blk_cell BK536.out 4).trans rfl; have hcz42_5 : w41.cell? ⟨gb536, 5, none⟩ = some (.int .u64 a0_5) := (blk_cell BK536.out 5).trans rfl; have hfz42_0 := blk_frozen BK536.out 0; have hfz42_1 := blk_frozen BK536.out 1; have hfz42_2 := blk_frozen BK536.out 2; have hfz42_3 := blk_frozen BK536.out 3; have hfz42_4 := blk_frozen BK536.out 4; have hfz42_5 := blk_frozen BK536.out 5) | ((with_reducible refine gate_callee (f := 12) rfl ?_); refine goesL_ (some 35) rfl rfl Try.func12 (by kernel_rfl) rfl #[.agg #[.int .i64 a0_0, .int .i64 a0_1, .int .i64 a0_2, .int .i64 a0_3, .int .i64 a0_4, .int .u64 a0_5], .int .u64 18446744073709551615] rfl (by (try simp only [List.map_toArray, List.map_cons, List.map_nil]); first | done | rfl | (simp only [List.length_drop, List.length_take]; rfl)) ?_; (with_reducible refine (bucket_Refill.calls kj2 a0_0 a0_1 a0_2 a0_3 a0_4 a0_5 18446744073709551615 t541 t542 t543 t544 t545 t546 t547 _ A16.out).mono ?_); rintro e w43 ⟨rfl, hb⟩; refine ⟨_, rfl, ?_⟩; replace BK536 := bb_ BK536 hb; replace HB := bs_ w hb; (try clear hb); (try clear hb2); (try clear hk); (try clear hi)) | ((with_reducible refine gate_dst (N := 7) rfl ?_); refine box_event ?hg (N := 7) ?hd (cs := #[.int .i64 0, .int .i64 0, .int .i64 0, .int .i64 0, .int .i64 0, .int .u64 0]) (t := 26) ?hr ?_; (case hd => rfl); (case hg => rfl); (case hr => first | (go_simp; done) | (go_simp; rfl)); intro gb548 hg w44 hbox hb; have BK548 := Aside0.mk (hbox); have GW548 := bz_ w hg; have GE548 := GW548; have NB536_548 := bn_ BK536 hg; have NB548_536 := bm_ BK536 hg; replace BK536 := bb_ BK536 hb; replace HB := bs_ w hb; clear hb hbox hg; have hnb45 := NB548_536.out; have hnc45 := NB536_548.out; have hcz46_0 : w44.cell? ⟨gb548, 0, none⟩ = some (.int .i64 0) := (blk_cell BK548.out 0).trans rfl; have hcz46_1 : w44.cell? ⟨gb548, 1, none⟩ = some (.int .i64 0) := (blk_cell BK548.out 1).trans rfl; have hcz46_2 : w44.cell? ⟨gb548, 2, none⟩ = some (.int .i64 0) := (blk_cell BK548.out 2).trans rfl; have hcz46_3 : w44.cell? ⟨gb548, 3, none⟩ = some (.int .i64 0) := (blk_cell BK548.out 3).trans rfl; have hcz46_4 : w44.cell? ⟨gb548, 4, none⟩ = some (.int .i64 0) := (blk_cell BK548.out 4).trans rfl; have hcz46_5 : w44.cell? ⟨gb548, 5, none⟩ = some (.int .u64 0) := (blk_cell BK548.out 5).trans rfl; have hfz46_0 := blk_frozen BK548.out 0; have hfz46_1 := blk_frozen BK548.out 1; have hfz46_2 := blk_frozen BK548.out 2; have hfz46_3 := blk_frozen BK548.out 3; have hfz46_4 := blk_frozen BK548.out 4; have hfz46_5 := blk_frozen BK548.out 5; have hcz47_0 : w44.cell? ⟨gb536, 0, none⟩ = some (.int .i64 a0_0) := (blk_cell BK536.out 0).trans rfl; have hcz47_1 : w44.cell? ⟨gb536, 1, none⟩ = some (.int .i64 a0_1) := (blk_cell BK536.out 1).trans rfl; have hcz47_2 : w44.cell? ⟨gb536, 2, none⟩ = some (.int .i64 a0_2) := (blk_cell BK536.out 2).trans rfl; have hcz47_3 : w44.cell? ⟨gb536, 3, none⟩ = some (.int .i64 a0_3) := (blk_cell BK536.out 3).trans rfl; have hcz47_4 : w44.cell? ⟨gb536, 4, none⟩ = some (.int .i64 a0_4) := (blk_cell BK536.out 4).trans rfl; have hcz47_5 : w44.cell? ⟨gb536, 5, none⟩ = some (.int .u64 a0_5) := (blk_cell BK536.out 5).trans rfl; have hfz47_0 := blk_frozen BK536.out 0; have hfz47_1 := blk_frozen BK536.out 1; have hfz47_2 := blk_frozen BK536.out 2; have hfz47_3 := blk_frozen BK536.out 3; have hfz47_4 := blk_frozen BK536.out 4; have hfz47_5 := blk_frozen BK536.out 5) | ((with_reducible refine gate_callee (f := 12) rfl ?_); refine goesL_ (some 76) rfl rfl Try.func12 (by kernel_rfl) rfl #[.agg #[.int .i64 a0_0, .int .i64 a0_1, .int .i64 a0_2, .int .i64 a0_3, .int .i64 a0_4, .int .u64 a0_5], .int .u64 (IntKind.u64.wrap (a0_5 + t539))] rfl (by (try simp only [List.map_toArray, List.map_cons, List.map_nil]); first | done | rfl | (simp only [List.length_drop, List.length_take]; rfl)) ?_; (with_reducible refine (bucket_Refill.calls kj2 a0_0 a0_1 a0_2 a0_3 a0_4 a0_5 (IntKind.u64.wrap (a0_5 + t539)) t550 t551 t552 t553 t554 t555 t556 _ A33.out).mono ?_); rintro e w48 ⟨rfl, hb⟩; refine ⟨_, rfl, ?_⟩; replace BK536 := bf_ BK536 hb; replace BK548 := Aside0.mk (blk_below (g := gb548) (o := .cells #[.int .i64 t541, .int .i64 t542, .int .i64 t543, .int .i64 t544, .int .i64 t545, .int .u64 t546] 26 (0, 0)) (blk_put (cs := #[.int .i64 t541, .int .i64 t542, .int .i64 t543, .int .i64 t544, .int .i64 t545, .int .u64 0]) (blk_put (cs := #[.int .i64 t541, .int .i64 t542, .int .i64 t543, .int .i64 t544, .int .i64 0, .int .u64 0]) (blk_put (cs := #[.int .i64 t541, .int .i64 t542, .int .i64 t543, .int .i64 0, .int .i64 0, .int .u64 0]) (blk_put (cs := #[.int .i64 t541, .int .i64 t542, .int .i64 0, .int .i64 0, .int .i64 0, .int .u64 0]) (blk_put (cs := #[.int .i64 t541, .int .i64 0, .int .i64 0, .int .i64 0, .int .i64 0, .int .u64 0]) (blk_put (cs := #[.int .i64 0, .int .i64 0, .int .i64 0, .int .i64 0, .int .i64 0, .int .u64 0]) (bq_ BK548) 0 _ rfl) 1 _ rfl) 2 _ rfl) 3 _ rfl) 4 _ rfl) 5 _ rfl) hb); replace HB := bs_ w hb; (try clear hb); (try clear hb2); (try clear hk); (try clear hi)) | ((with_reducible refine gate_dst (N := 9) rfl ?_); refine box_event ?hg (N := 9) ?hd (cs := #[.int .i64 0, .int .i64 0, .int .i64 0, .int .i64 0, .int .i64 0, .int .u64 0]) (t := 26) ?hr ?_; (case hd => rfl); (case hg => rfl); (case hr => first | (go_simp; done) | (go_simp; rfl)); intro gb557 hg w49 hbox hb; have BK557 := Aside0.mk (hbox); have GW557 := bz_ w hg; have GE557 := GW557; have NB536_557 := bn_ BK536 hg; have NB557_536 := bm_ BK536 hg; have NB548_557 := bn_ BK548 hg; have NB557_548 := bm_ BK548 hg; replace BK536 := bb_ BK536 hb; replace BK548 := bb_ BK548 hb; replace HB := bs_ w hb; clear hb hbox hg; have hnb50 := NB557_536.out; have hnc50 := NB536_557.out; have hnb51 := NB557_548.out; have hnc51 := NB548_557.out; have hcz52_0 : w49.cell? ⟨gb557, 0, none⟩ = some (.int .i64 0) := (blk_cell BK557.out 0).trans rfl; have hcz52_1 : w49.cell? ⟨gb557, 1, none⟩ = some (.int .i64 0) := (blk_cell BK557.out 1).trans rfl; have hcz52_2 : w49.cell? ⟨gb557, 2, none⟩ = some (.int .i64 0) := (blk_cell BK557.out 2).trans rfl; have hcz52_3 : w49.cell? ⟨gb557, 3, none⟩ = some (.int .i64 0) := (blk_cell BK557.out 3).trans rfl; have hcz52_4 : w49.cell? ⟨gb557, 4, none⟩ = some (.int .i64 0) := (blk_cell BK557.out 4).trans rfl; have hcz52_5 : w49.cell? ⟨gb557, 5, none⟩ = some (.int .u64 0) := (blk_cell BK557.out 5).trans rfl; have hfz52_0 := blk_frozen BK557.out 0; have hfz52_1 := blk_frozen BK557.out 1; have hfz52_2 := blk_frozen BK557.out 2; have hfz52_3 := blk_frozen BK557.out 3; have hfz52_4 := blk_frozen BK557.out 4; have hfz52_5 := blk_frozen BK557.out 5) | ((with_reducible refine gate_callee (f := 18) rfl ?_); refine goesL_ (some 82) rfl rfl Try.func18 (by kernel_rfl) rfl #[.agg #[.int .i64 t550, .int .i64 t551, .int .i64 t552, .int .i64 t553, .int .i64 t554, .int .u64 t555], .int .i64 a1] rfl (by (try simp only [List.map_toArray, List.map_cons, List.map_nil]); first | done | rfl | (simp only [List.length_drop, List.length_take]; rfl)) ?_; (with_reducible refine (bucket_Charge.calls t550 t551 t552 t553 t554 t555 a1 t558 t559 t560 t561 t562 t563 t564 _ A34.out).mono ?_); rintro e w53 ⟨rfl, hb⟩; refine ⟨_, rfl, ?_⟩; replace BK536 := bf_ BK536 hb; replace BK548 := bf_ BK548 hb; replace BK557 := Aside0.mk (blk_below (g := gb557) (o := .cells #[.int .i64 t550, .int .i64 t551, .int .i64 t552, .int .i64 t553, .int .i64 t554, .int .u64 t555] 26 (0, 0)) (blk_put (cs := #[.int .i64 t550, .int .i64 t551, .int .i64 t552, .int .i64 t553, .int .i64 t554, .int .u64 0]) (blk_put (cs := #[.int .i64 t550, .int .i64 t551, .int .i64 t552, .int .i64 t553, .int .i64 0, .int .u64 0]) (blk_put (cs := #[.int .i64 t550, .int .i64 t551, .int .i64 t552, .int .i64 0, .int .i64 0, .int .u64 0]) (blk_put (cs := #[.int .i64 t550, .int .i64 t551, .int .i64 0, .int .i64 0, .int .i64 0, .int .u64 0]) (blk_put (cs := #[.int .i64 t550, .int .i64 0, .int .i64 0, .int .i64 0, .int .i64 0, .int .u64 0]) (blk_put (cs := #[.int .i64 0, .int .i64 0, .int .i64 0, .int .i64 0, .int .i64 0, .int .u64 0]) (bq_ BK557) 0 _ rfl) 1 _ rfl) 2 _ rfl) 3 _ rfl) 4 _ rfl) 5 _ rfl) hb); replace HB := bs_ w hb; (try clear hb); (try clear hb2); (try clear hk); (try clear hi)) | ((with_reducible refine gate_dst (N := 11) rfl ?_); refine box_event ?hg (N := 11) ?hd (cs := #[.int .i64 0, .int .i64 0, .int .i64 0, .int .i64 0, .int .i64 0, .int .u64 0]) (t := 26) ?hr ?_; (case hd => rfl); (case hg => rfl); (case hr => first | (go_simp; done) | (go_simp; rfl)); intro gb565 hg w54 hbox hb; have BK565 := Aside0.mk (hbox); have GW565 := bz_ w hg; have GE565 := GW565; have NB536_565 := bn_ BK536 hg; have NB565_536 := bm_ BK536 hg; have NB548_565 := bn_ BK548 hg; have NB565_548 := bm_ BK548 hg; have NB557_565 := bn_ BK557 hg; have NB565_557 := bm_ BK557 hg; replace BK536 := bb_ BK536 hb; replace BK548 := bb_ BK548 hb; replace BK557 := bb_ BK557 hb; replace HB := bs_ w hb; clear hb hbox hg; have hnb55 := NB565_536.out; have hnc55 := NB536_565.out; have hnb56 := NB565_548.out; have hnc56 := NB548_565.out; have hnb57 := NB565_557.out; have hnc57 := NB557_565.out; have hcz58_0 : w54.cell? ⟨gb565, 0, none⟩ = some (.int .i64 0) := (blk_cell BK565.out 0).trans rfl; have hcz58_1 : w54.cell? ⟨gb565, 1, none⟩ = some (.int .i64 0) := (blk_cell BK565.out 1).trans rfl; have hcz58_2 : w54.cell? ⟨gb565, 2, none⟩ = some (.int .i64 0) := (blk_cell BK565.out 2).trans rfl; have hcz58_3 : w54.cell? ⟨gb565, 3, none⟩ = some (.int .i64 0) := (blk_cell BK565.out 3).trans rfl; have hcz58_4 : w54.cell? ⟨gb565, 4, none⟩ = some (.int .i64 0) := (blk_cell BK565.out 4).trans rfl; have hcz58_5 : w54.cell? ⟨gb565, 5, none⟩ = some (.int .u64 0) := (blk_cell BK565.out 5).trans rfl; have hfz58_0 := blk_frozen BK565.out 0; have hfz58_1 := blk_frozen BK565.out 1; have hfz58_2 := blk_frozen BK565.out 2; have hfz58_3 := blk_frozen BK565.out 3; have hfz58_4 := blk_frozen BK565.out 4; have hfz58_5 := blk_frozen BK565.out 5; have hcz59_0 : w54.cell? ⟨gb536, 0, none⟩ = some (.int .i64 a0_0) := (blk_cell BK536.out 0).trans rfl; have hcz59_1 : w54.cell? ⟨gb536, 1, none⟩ = some (.int .i64 a0_1) := (blk_cell BK536.out 1).trans rfl; have hcz59_2 : w54.cell? ⟨gb536, 2, none⟩ = some (.int .i64 a0_2) := (blk_cell BK536.out 2).trans rfl; have hcz59_3 : w54.cell? ⟨gb536, 3, none⟩ = some (.int .i64 a0_3) := (blk_cell BK536.out 3).trans rfl; have hcz59_4 : w54.cell? ⟨gb536, 4, none⟩ = some (.int .i64 a0_4) := (blk_cell BK536.out 4).trans rfl; have hcz59_5 : w54.cell? ⟨gb536, 5, none⟩ = some (.int .u64 a0_5) := (blk_cell BK536.out 5).trans rfl; have hfz59_0 := blk_frozen BK536.out 0; have hfz59_1 := blk_frozen BK536.out 1; have hfz59_2 := blk_frozen BK536.out 2; have hfz59_3 := blk_frozen BK536.out 3; have hfz59_4 := blk_frozen BK536.out 4; have hfz59_5 := blk_frozen BK536.out 5) | (go_at_call 27; (with_reducible refine (spigotlaw03_alive.calls kj2  t566 _ A39.out).mono ?_); rintro e w60 ⟨rfl, hb⟩; replace BK536 := bf_ BK536 hb; replace BK548 := bf_ BK548 hb; replace BK557 := bf_ BK557 hb; replace BK565 := Aside0.mk (blk_below (g := gb565) (o := .cells #[.int .i64 t558, .int .i64 t559, .int .i64 t560, .int .i64 t561, .int .i64 t562, .int .u64 t563] 26 (0, 0)) (blk_put (cs := #[.int .i64 t558, .int .i64 t559, .int .i64 t560, .int .i64 t561, .int .i64 t562, .int .u64 0]) (blk_put (cs := #[.int .i64 t558, .int .i64 t559, .int .i64 t560, .int .i64 t561, .int .i64 0, .int .u64 0]) (blk_put (cs := #[.int .i64 t558, .int .i64 t559, .int .i64 t560, .int .i64 0, .int .i64 0, .int .u64 0]) (blk_put (cs := #[.int .i64 t558, .int .i64 t559, .int .i64 0, .int .i64 0, .int .i64 0, .int .u64 0]) (blk_put (cs := #[.int .i64 t558, .int .i64 0, .int .i64 0, .int .i64 0, .int .i64 0, .int .u64 0]) (blk_put (cs := #[.int .i64 0, .int .i64 0, .int .i64 0, .int .i64 0, .int .i64 0, .int .u64 0]) (bq_ BK565) 0 _ rfl) 1 _ rfl) 2 _ rfl) 3 _ rfl) 4 _ rfl) 5 _ rfl) hb); replace HB := bs_ w hb; (try clear hb); (try clear hb2); (try clear hk); (try clear hi)))
      go_ret
      exact ⟨by first | rfl | (simp [errW_none, errW_some] <;> rfl) | (simp [*, errW_none, errW_some] <;> rfl), by repeat (first | (with_reducible first | exact HB.out | apply below_alloc | apply pw_below_drewN | apply below_drew1 | refine below_set ?_ GE536.out | refine below_set ?_ GE548.out | refine below_set ?_ GE557.out | refine below_set ?_ GE565.out) | exact HB.out)⟩
     ·rw [if_neg c37] at H
      have c37b0 : (t539 == 0) = false := beq_eq_false_iff_ne.mpr c37
      have c37b1 : (t539 != 0) = true := bne_iff_ne.mpr c37
      replace H := Option.bind_eq_some_iff.mp H
      obtain ⟨⟨t567, t568, t569, t570, t571, t572, t573⟩, A610, H⟩ := H
      try dsimp only at H
      have A61 := Aside0.mk A610
      clear A610
      replace H := Option.bind_eq_some_iff.mp H
      obtain ⟨⟨t575, t576, t577, t578, t579, t580, t581⟩, A620, H⟩ := H
      replace H : (if t573 = 0 then (if t581 = 20 then ((spigotlaw03_alive.f kj2).bind fun t583 => (some t583)) else (none)) else (none)) = some r := H
      have A62 := Aside0.mk A620
      clear A620
      by_cases c63 : t573 = 0
      rotate_left
      ·rw [if_neg c63] at H; exact absurd H (by simp)
      rw [if_pos c63] at H
      have c63b0 : (t573 == 0) = true := beq_iff_eq.mpr c63
      have c63b1 : (t573 != 0) = false := bne_eq_false_iff_eq.mpr c63
      clear c63
      by_cases c64 : t581 = 20
      rotate_left
      ·rw [if_neg c64] at H; exact absurd H (by simp)
      rw [if_pos c64] at H
      have c64b0 : (t581 == 20) = true := beq_iff_eq.mpr c64
      have c64b1 : (t581 != 20) = false := bne_eq_false_iff_eq.mpr c64
      clear c64
      replace H := Option.bind_eq_some_iff.mp H
      obtain ⟨t583, A650, H⟩ := H
      replace H : (some t583) = some r := H
      have A65 := Aside0.mk A650
      clear A650
      obtain rfl := Option.some.inj H
      have hcz66_0 : wc.cell? ⟨gb536, 0, none⟩ = some (.int .i64 a0_0) := (blk_cell BK536.out 0).trans rfl
      have hcz66_1 : wc.cell? ⟨gb536, 1, none⟩ = some (.int .i64 a0_1) := (blk_cell BK536.out 1).trans rfl
      have hcz66_2 : wc.cell? ⟨gb536, 2, none⟩ = some (.int .i64 a0_2) := (blk_cell BK536.out 2).trans rfl
      have hcz66_3 : wc.cell? ⟨gb536, 3, none⟩ = some (.int .i64 a0_3) := (blk_cell BK536.out 3).trans rfl
      have hcz66_4 : wc.cell? ⟨gb536, 4, none⟩ = some (.int .i64 a0_4) := (blk_cell BK536.out 4).trans rfl
      have hcz66_5 : wc.cell? ⟨gb536, 5, none⟩ = some (.int .u64 a0_5) := (blk_cell BK536.out 5).trans rfl
      have hfz66_0 := blk_frozen BK536.out 0
      have hfz66_1 := blk_frozen BK536.out 1
      have hfz66_2 := blk_frozen BK536.out 2
      have hfz66_3 := blk_frozen BK536.out 3
      have hfz66_4 := blk_frozen BK536.out 4
      have hfz66_5 := blk_frozen BK536.out 5
      go_wp2_with (first | ((with_reducible refine gate_callee (f := 20) rfl ?_); refine goesL_ (some 28) rfl rfl Try.func20 (by kernel_rfl) rfl #[.agg #[.int .i64 a0_0, .int .i64 a0_1, .int .i64 a0_2, .int .i64 a0_3, .int .i64 a0_4, .int .u64 a0_5], .int .i64 a1] rfl (by (try simp only [List.map_toArray, List.map_cons, List.map_nil]); first | done | rfl | (simp only [List.length_drop, List.length_take]; rfl)) ?_; (with_reducible refine (bucket_Wait.calls kj2 a0_0 a0_1 a0_2 a0_3 a0_4 a0_5 a1 t539 t540 _ A14.out).mono ?_); rintro e w67 ⟨rfl, hb⟩; refine ⟨_, rfl, ?_⟩; replace BK536 := bb_ BK536 hb; replace HB := bs_ w hb; (try clear hb); (try clear hb2); (try clear hk); (try clear hi); have hcz68_0 : w67.cell? ⟨gb536, 0, none⟩ = some (.int .i64 a0_0) := (blk_cell BK536.out 0).trans rfl; have hcz68_1 : w67.cell? ⟨gb536, 1, none⟩ = some (.int .i64 a0_1) := (blk_cell BK536.out 1).trans rfl; have hcz68_2 : w67.cell? ⟨gb536, 2, none⟩ = some (.int .i64 a0_2) := (blk_cell BK536.out 2).trans rfl; have hcz68_3 : w67.cell? ⟨gb536, 3, none⟩ = some (.int .i64 a0_3) := (blk_cell BK536.out 3).trans rfl; have hcz68_4 : w67.cell? ⟨gb536, 4, none⟩ = some (.int .i64 a0_4) := (blk_cell BK536.out 4).trans rfl; have hcz68_5 : w67.cell? ⟨gb536, 5, none⟩ = some (.int .u64 a0_5) := (blk_cell BK536.out 5).trans rfl; have hfz68_0 := blk_frozen BK536.out 0; have hfz68_1 := blk_frozen BK536.out 1; have hfz68_2 := blk_frozen BK536.out 2; have hfz68_3 := blk_frozen BK536.out 3; have hfz68_4 := blk_frozen BK536.out 4; have hfz68_5 := blk_frozen BK536.out 5) | ((with_reducible refine gate_callee (f := 12) rfl ?_); refine goesL_ (some 35) rfl rfl Try.func12 (by kernel_rfl) rfl #[.agg #[.int .i64 a0_0, .int .i64 a0_1, .int .i64 a0_2, .int .i64 a0_3, .int .i64 a0_4, .int .u64 a0_5], .int .u64 18446744073709551615] rfl (by (try simp only [List.map_toArray, List.map_cons, List.map_nil]); first | done | rfl | (simp only [List.length_drop, List.length_take]; rfl)) ?_; (with_reducible refine (bucket_Refill.calls kj2 a0_0 a0_1 a0_2 a0_3 a0_4 a0_5 18446744073709551615 t541 t542 t543 t544 t545 t546 t547 _ A16.out).mono ?_); rintro e w69 ⟨rfl, hb⟩; refine ⟨_, rfl, ?_⟩; replace BK536 := bb_ BK536 hb; replace HB := bs_ w hb; (try clear hb); (try clear hb2); (try clear hk); (try clear hi)) | ((with_reducible refine gate_dst (N := 7) rfl ?_); refine box_event ?hg (N := 7) ?hd (cs := #[.int .i64 0, .int .i64 0, .int .i64 0, .int .i64 0, .int .i64 0, .int .u64 0]) (t := 26) ?hr ?_; (case hd => rfl); (case hg => rfl); (case hr => first | (go_simp; done) | (go_simp; rfl)); intro gb548 hg w70 hbox hb; have BK548 := Aside0.mk (hbox); have GW548 := bz_ w hg; have GE548 := GW548; have NB536_548 := bn_ BK536 hg; have NB548_536 := bm_ BK536 hg; replace BK536 := bb_ BK536 hb; replace HB := bs_ w hb; clear hb hbox hg; have hnb71 := NB548_536.out; have hnc71 := NB536_548.out; have hcz72_0 : w70.cell? ⟨gb548, 0, none⟩ = some (.int .i64 0) := (blk_cell BK548.out 0).trans rfl; have hcz72_1 : w70.cell? ⟨gb548, 1, none⟩ = some (.int .i64 0) := (blk_cell BK548.out 1).trans rfl; have hcz72_2 : w70.cell? ⟨gb548, 2, none⟩ = some (.int .i64 0) := (blk_cell BK548.out 2).trans rfl; have hcz72_3 : w70.cell? ⟨gb548, 3, none⟩ = some (.int .i64 0) := (blk_cell BK548.out 3).trans rfl; have hcz72_4 : w70.cell? ⟨gb548, 4, none⟩ = some (.int .i64 0) := (blk_cell BK548.out 4).trans rfl; have hcz72_5 : w70.cell? ⟨gb548, 5, none⟩ = some (.int .u64 0) := (blk_cell BK548.out 5).trans rfl; have hfz72_0 := blk_frozen BK548.out 0; have hfz72_1 := blk_frozen BK548.out 1; have hfz72_2 := blk_frozen BK548.out 2; have hfz72_3 := blk_frozen BK548.out 3; have hfz72_4 := blk_frozen BK548.out 4; have hfz72_5 := blk_frozen BK548.out 5; have hcz73_0 : w70.cell? ⟨gb536, 0, none⟩ = some (.int .i64 a0_0) := (blk_cell BK536.out 0).trans rfl; have hcz73_1 : w70.cell? ⟨gb536, 1, none⟩ = some (.int .i64 a0_1) := (blk_cell BK536.out 1).trans rfl; have hcz73_2 : w70.cell? ⟨gb536, 2, none⟩ = some (.int .i64 a0_2) := (blk_cell BK536.out 2).trans rfl; have hcz73_3 : w70.cell? ⟨gb536, 3, none⟩ = some (.int .i64 a0_3) := (blk_cell BK536.out 3).trans rfl; have hcz73_4 : w70.cell? ⟨gb536, 4, none⟩ = some (.int .i64 a0_4) := (blk_cell BK536.out 4).trans rfl; have hcz73_5 : w70.cell? ⟨gb536, 5, none⟩ = some (.int .u64 a0_5) := (blk_cell BK536.out 5).trans rfl; have hfz73_0 := blk_frozen BK536.out 0; have hfz73_1 := blk_frozen BK536.out 1; have hfz73_2 := blk_frozen BK536.out 2; have hfz73_3 := blk_frozen BK536.out 3; have hfz73_4 := blk_frozen BK536.out 4; have hfz73_5 := blk_frozen BK536.out 5) | ((with_reducible refine gate_callee (f := 12) rfl ?_); refine goesL_ (some 76) rfl rfl Try.func12 (by kernel_rfl) rfl #[.agg #[.int .i64 a0_0, .int .i64 a0_1, .int .i64 a0_2, .int .i64 a0_3, .int .i64 a0_4, .int .u64 a0_5], .int .u64 (IntKind.u64.wrap (a0_5 + t539))] rfl (by (try simp only [List.map_toArray, List.map_cons, List.map_nil]); first | done | rfl | (simp only [List.length_drop, List.length_take]; rfl)) ?_; (with_reducible refine (bucket_Refill.calls kj2 a0_0 a0_1 a0_2 a0_3 a0_4 a0_5 (IntKind.u64.wrap (a0_5 + t539)) t550 t551 t552 t553 t554 t555 t556 _ A33.out).mono ?_); rintro e w74 ⟨rfl, hb⟩; refine ⟨_, rfl, ?_⟩; replace BK536 := bf_ BK536 hb; replace BK548 := Aside0.mk (blk_below (g := gb548) (o := .cells #[.int .i64 t541, .int .i64 t542, .int .i64 t543, .int .i64 t544, .int .i64 t545, .int .u64 t546] 26 (0, 0)) (blk_put (cs := #[.int .i64 t541, .int .i64 t542, .int .i64 t543, .int .i64 t544, .int .i64 t545, .int .u64 0]) (blk_put (cs := #[.int .i64 t541, .int .i64 t542, .int .i64 t543, .int .i64 t544, .int .i64 0, .int .u64 0]) (blk_put (cs := #[.int .i64 t541, .int .i64 t542, .int .i64 t543, .int .i64 0, .int .i64 0, .int .u64 0]) (blk_put (cs := #[.int .i64 t541, .int .i64 t542, .int .i64 0, .int .i64 0, .int .i64 0, .int .u64 0]) (blk_put (cs := #[.int .i64 t541, .int .i64 0, .int .i64 0, .int .i64 0, .int .i64 0, .int .u64 0]) (blk_put (cs := #[.int .i64 0, .int .i64 0, .int .i64 0, .int .i64 0, .int .i64 0, .int .u64 0]) (bq_ BK548) 0 _ rfl) 1 _ rfl) 2 _ rfl) 3 _ rfl) 4 _ rfl) 5 _ rfl) hb); replace HB := bs_ w hb; (try clear hb); (try clear hb2); (try clear hk); (try clear hi)) | ((with_reducible refine gate_dst (N := 9) rfl ?_); refine box_event ?hg (N := 9) ?hd (cs := #[.int .i64 0, .int .i64 0, .int .i64 0, .int .i64 0, .int .i64 0, .int .u64 0]) (t := 26) ?hr ?_; (case hd => rfl); (case hg => rfl); (case hr => first | (go_simp; done) | (go_simp; rfl)); intro gb557 hg w75 hbox hb; have BK557 := Aside0.mk (hbox); have GW557 := bz_ w hg; have GE557 := GW557; have NB536_557 := bn_ BK536 hg; have NB557_536 := bm_ BK536 hg; have NB548_557 := bn_ BK548 hg; have NB557_548 := bm_ BK548 hg; replace BK536 := bb_ BK536 hb; replace BK548 := bb_ BK548 hb; replace HB := bs_ w hb; clear hb hbox hg; have hnb76 := NB557_536.out; have hnc76 := NB536_557.out; have hnb77 := NB557_548.out; have hnc77 := NB548_557.out; have hcz78_0 : w75.cell? ⟨gb557, 0, none⟩ = some (.int .i64 0) := (blk_cell BK557.out 0).trans rfl; have hcz78_1 : w75.cell? ⟨gb557, 1, none⟩ = some (.int .i64 0) := (blk_cell BK557.out 1).trans rfl; have hcz78_2 : w75.cell? ⟨gb557, 2, none⟩ = some (.int .i64 0) := (blk_cell BK557.out 2).trans rfl; have hcz78_3 : w75.cell? ⟨gb557, 3, none⟩ = some (.int .i64 0) := (blk_cell BK557.out 3).trans rfl; have hcz78_4 : w75.cell? ⟨gb557, 4, none⟩ = some (.int .i64 0) := (blk_cell BK557.out 4).trans rfl; have hcz78_5 : w75.cell? ⟨gb557, 5, none⟩ = some (.int .u64 0) := (blk_cell BK557.out 5).trans rfl; have hfz78_0 := blk_frozen BK557.out 0; have hfz78_1 := blk_frozen BK557.out 1; have hfz78_2 := blk_frozen BK557.out 2; have hfz78_3 := blk_frozen BK557.out 3; have hfz78_4 := blk_frozen BK557.out 4; have hfz78_5 := blk_frozen BK557.out 5) | ((with_reducible refine gate_callee (f := 18) rfl ?_); refine goesL_ (some 82) rfl rfl Try.func18 (by kernel_rfl) rfl #[.agg #[.int .i64 t550, .int .i64 t551, .int .i64 t552, .int .i64 t553, .int .i64 t554, .int .u64 t555], .int .i64 a1] rfl (by (try simp only [List.map_toArray, List.map_cons, List.map_nil]); first | done | rfl | (simp only [List.length_drop, List.length_take]; rfl)) ?_; (with_reducible refine (bucket_Charge.calls t550 t551 t552 t553 t554 t555 a1 t558 t559 t560 t561 t562 t563 t564 _ A34.out).mono ?_); rintro e w79 ⟨rfl, hb⟩; refine ⟨_, rfl, ?_⟩; replace BK536 := bf_ BK536 hb; replace BK548 := bf_ BK548 hb; replace BK557 := Aside0.mk (blk_below (g := gb557) (o := .cells #[.int .i64 t550, .int .i64 t551, .int .i64 t552, .int .i64 t553, .int .i64 t554, .int .u64 t555] 26 (0, 0)) (blk_put (cs := #[.int .i64 t550, .int .i64 t551, .int .i64 t552, .int .i64 t553, .int .i64 t554, .int .u64 0]) (blk_put (cs := #[.int .i64 t550, .int .i64 t551, .int .i64 t552, .int .i64 t553, .int .i64 0, .int .u64 0]) (blk_put (cs := #[.int .i64 t550, .int .i64 t551, .int .i64 t552, .int .i64 0, .int .i64 0, .int .u64 0]) (blk_put (cs := #[.int .i64 t550, .int .i64 t551, .int .i64 0, .int .i64 0, .int .i64 0, .int .u64 0]) (blk_put (cs := #[.int .i64 t550, .int .i64 0, .int .i64 0, .int .i64 0, .int .i64 0, .int .u64 0]) (blk_put (cs := #[.int .i64 0, .int .i64 0, .int .i64 0, .int .i64 0, .int .i64 0, .int .u64 0]) (bq_ BK557) 0 _ rfl) 1 _ rfl) 2 _ rfl) 3 _ rfl) 4 _ rfl) 5 _ rfl) hb); replace HB := bs_ w hb; (try clear hb); (try clear hb2); (try clear hk); (try clear hi)) | ((with_reducible refine gate_dst (N := 11) rfl ?_); refine box_event ?hg (N := 11) ?hd (cs := #[.int .i64 0, .int .i64 0, .int .i64 0, .int .i64 0, .int .i64 0, .int .u64 0]) (t := 26) ?hr ?_; (case hd => rfl); (case hg => rfl); (case hr => first | (go_simp; done) | (go_simp; rfl)); intro gb565 hg w80 hbox hb; have BK565 := Aside0.mk (hbox); have GW565 := bz_ w hg; have GE565 := GW565; have NB536_565 := bn_ BK536 hg; have NB565_536 := bm_ BK536 hg; have NB548_565 := bn_ BK548 hg; have NB565_548 := bm_ BK548 hg; have NB557_565 := bn_ BK557 hg; have NB565_557 := bm_ BK557 hg; replace BK536 := bb_ BK536 hb; replace BK548 := bb_ BK548 hb; replace BK557 := bb_ BK557 hb; replace HB := bs_ w hb; clear hb hbox hg; have hnb81 := NB565_536.out; have hnc81 := NB536_565.out; have hnb82 := NB565_548.out; have hnc82 := NB548_565.out; have hnb83 := NB565_557.out; have hnc83 := NB557_565.out; have hcz84_0 : w80.cell? ⟨gb565, 0, none⟩ = some (.int .i64 0) := (blk_cell BK565.out 0).trans rfl; have hcz84_1 : w80.cell? ⟨gb565, 1, none⟩ = some (.int .i64 0) := (blk_cell BK565.out 1).trans rfl; have hcz84_2 : w80.cell? ⟨gb565, 2, none⟩ = some (.int .i64 0) := (blk_cell BK565.out 2).trans rfl; have hcz84_3 : w80.cell? ⟨gb565, 3, none⟩ = some (.int .i64 0) := (blk_cell BK565.out 3).trans rfl; have hcz84_4 : w80.cell? ⟨gb565, 4, none⟩ = some (.int .i64 0) := (blk_cell BK565.out 4).trans rfl; have hcz84_5 : w80.cell? ⟨gb565, 5, none⟩ = some (.int .u64 0) := (blk_cell BK565.out 5).trans rfl; have hfz84_0 := blk_frozen BK565.out 0; have hfz84_1 := blk_frozen BK565.out 1; have hfz84_2 := blk_frozen BK565.out 2; have hfz84_3 := blk_frozen BK565.out 3; have hfz84_4 := blk_frozen BK565.out 4; have hfz84_5 := blk_frozen BK565.out 5; have hcz85_0 : w80.cell? ⟨gb536, 0, none⟩ = some (.int .i64 a0_0) := (blk_cell BK536.out 0).trans rfl; have hcz85_1 : w80.cell? ⟨gb536, 1, none⟩ = some (.int .i64 a0_1) := (blk_cell BK536.out 1).trans rfl; have hcz85_2 : w80.cell? ⟨gb536, 2, none⟩ = some (.int .i64 a0_2) := (blk_cell BK536.out 2).trans rfl; have hcz85_3 : w80.cell? ⟨gb536, 3, none⟩ = some (.int .i64 a0_3) := (blk_cell BK536.out 3).trans rfl; have hcz85_4 : w80.cell? ⟨gb536, 4, none⟩ = some (.int .i64 a0_4) := (blk_cell BK536.out 4).trans rfl; have hcz85_5 : w80.cell? ⟨gb536, 5, none⟩ = some (.int .u64 a0_5) := (blk_cell BK536.out 5).trans rfl; have hfz85_0 := blk_frozen BK536.out 0; have hfz85_1 := blk_frozen BK536.out 1; have hfz85_2 := blk_frozen BK536.out 2; have hfz85_3 := blk_frozen BK536.out 3; have hfz85_4 := blk_frozen BK536.out 4; have hfz85_5 := blk_frozen BK536.out 5) | ((with_reducible refine gate_callee (f := 12) rfl ?_); refine goesL_ (some 107) rfl rfl Try.func12 (by kernel_rfl) rfl #[.agg #[.int .i64 a0_0, .int .i64 a0_1, .int .i64 a0_2, .int .i64 a0_3, .int .i64 a0_4, .int .u64 a0_5], .int .u64 (IntKind.u64.wrap ((IntKind.u64.wrap (a0_5 + t539)) - 1))] rfl (by (try simp only [List.map_toArray, List.map_cons, List.map_nil]); first | done | rfl | (simp only [List.length_drop, List.length_take]; rfl)) ?_; (with_reducible refine (bucket_Refill.calls kj2 a0_0 a0_1 a0_2 a0_3 a0_4 a0_5 (IntKind.u64.wrap ((IntKind.u64.wrap (a0_5 + t539)) - 1)) t567 t568 t569 t570 t571 t572 t573 _ A61.out).mono ?_); rintro e w86 ⟨rfl, hb⟩; refine ⟨_, rfl, ?_⟩; replace BK536 := bf_ BK536 hb; replace BK548 := bf_ BK548 hb; replace BK557 := bf_ BK557 hb; replace BK565 := Aside0.mk (blk_below (g := gb565) (o := .cells #[.int .i64 t558, .int .i64 t559, .int .i64 t560, .int .i64 t561, .int .i64 t562, .int .u64 t563] 26 (0, 0)) (blk_put (cs := #[.int .i64 t558, .int .i64 t559, .int .i64 t560, .int .i64 t561, .int .i64 t562, .int .u64 0]) (blk_put (cs := #[.int .i64 t558, .int .i64 t559, .int .i64 t560, .int .i64 t561, .int .i64 0, .int .u64 0]) (blk_put (cs := #[.int .i64 t558, .int .i64 t559, .int .i64 t560, .int .i64 0, .int .i64 0, .int .u64 0]) (blk_put (cs := #[.int .i64 t558, .int .i64 t559, .int .i64 0, .int .i64 0, .int .i64 0, .int .u64 0]) (blk_put (cs := #[.int .i64 t558, .int .i64 0, .int .i64 0, .int .i64 0, .int .i64 0, .int .u64 0]) (blk_put (cs := #[.int .i64 0, .int .i64 0, .int .i64 0, .int .i64 0, .int .i64 0, .int .u64 0]) (bq_ BK565) 0 _ rfl) 1 _ rfl) 2 _ rfl) 3 _ rfl) 4 _ rfl) 5 _ rfl) hb); replace HB := bs_ w hb; (try clear hb); (try clear hb2); (try clear hk); (try clear hi)) | ((with_reducible refine gate_dst (N := 13) rfl ?_); refine box_event ?hg (N := 13) ?hd (cs := #[.int .i64 0, .int .i64 0, .int .i64 0, .int .i64 0, .int .i64 0, .int .u64 0]) (t := 26) ?hr ?_; (case hd => rfl); (case hg => rfl); (case hr => first | (go_simp; done) | (go_simp; rfl)); intro gb574 hg w87 hbox hb; have BK574 := Aside0.mk (hbox); have GW574 := bz_ w hg; have GE574 := GW574; have NB536_574 := bn_ BK536 hg; have NB574_536 := bm_ BK536 hg; have NB548_574 := bn_ BK548 hg; have NB574_548 := bm_ BK548 hg; have NB557_574 := bn_ BK557 hg; have NB574_557 := bm_ BK557 hg; have NB565_574 := bn_ BK565 hg; have NB574_565 := bm_ BK565 hg; replace BK536 := bb_ BK536 hb; replace BK548 := bb_ BK548 hb; replace BK557 := bb_ BK557 hb; replace BK565 := bb_ BK565 hb; replace HB := bs_ w hb; clear hb hbox hg; have hnb88 := NB574_536.out; have hnc88 := NB536_574.out; have hnb89 := NB574_548.out; have hnc89 := NB548_574.out; have hnb90 := NB574_557.out; have hnc90 := NB557_574.out; have hnb91 := NB574_565.out; have hnc91 := NB565_574.out; have hcz92_0 : w87.cell? ⟨gb574, 0, none⟩ = some (.int .i64 0) := (blk_cell BK574.out 0).trans rfl; have hcz92_1 : w87.cell? ⟨gb574, 1, none⟩ = some (.int .i64 0) := (blk_cell BK574.out 1).trans rfl; have hcz92_2 : w87.cell? ⟨gb574, 2, none⟩ = some (.int .i64 0) := (blk_cell BK574.out 2).trans rfl; have hcz92_3 : w87.cell? ⟨gb574, 3, none⟩ = some (.int .i64 0) := (blk_cell BK574.out 3).trans rfl; have hcz92_4 : w87.cell? ⟨gb574, 4, none⟩ = some (.int .i64 0) := (blk_cell BK574.out 4).trans rfl; have hcz92_5 : w87.cell? ⟨gb574, 5, none⟩ = some (.int .u64 0) := (blk_cell BK574.out 5).trans rfl; have hfz92_0 := blk_frozen BK574.out 0; have hfz92_1 := blk_frozen BK574.out 1; have hfz92_2 := blk_frozen BK574.out 2; have hfz92_3 := blk_frozen BK574.out 3; have hfz92_4 := blk_frozen BK574.out 4; have hfz92_5 := blk_frozen BK574.out 5) | ((with_reducible refine gate_callee (f := 18) rfl ?_); refine goesL_ (some 113) rfl rfl Try.func18 (by kernel_rfl) rfl #[.agg #[.int .i64 t567, .int .i64 t568, .int .i64 t569, .int .i64 t570, .int .i64 t571, .int .u64 t572], .int .i64 a1] rfl (by (try simp only [List.map_toArray, List.map_cons, List.map_nil]); first | done | rfl | (simp only [List.length_drop, List.length_take]; rfl)) ?_; (with_reducible refine (bucket_Charge.calls t567 t568 t569 t570 t571 t572 a1 t575 t576 t577 t578 t579 t580 t581 _ A62.out).mono ?_); rintro e w93 ⟨rfl, hb⟩; refine ⟨_, rfl, ?_⟩; replace BK536 := bf_ BK536 hb; replace BK548 := bf_ BK548 hb; replace BK557 := bf_ BK557 hb; replace BK565 := bf_ BK565 hb; replace BK574 := Aside0.mk (blk_below (g := gb574) (o := .cells #[.int .i64 t567, .int .i64 t568, .int .i64 t569, .int .i64 t570, .int .i64 t571, .int .u64 t572] 26 (0, 0)) (blk_put (cs := #[.int .i64 t567, .int .i64 t568, .int .i64 t569, .int .i64 t570, .int .i64 t571, .int .u64 0]) (blk_put (cs := #[.int .i64 t567, .int .i64 t568, .int .i64 t569, .int .i64 t570, .int .i64 0, .int .u64 0]) (blk_put (cs := #[.int .i64 t567, .int .i64 t568, .int .i64 t569, .int .i64 0, .int .i64 0, .int .u64 0]) (blk_put (cs := #[.int .i64 t567, .int .i64 t568, .int .i64 0, .int .i64 0, .int .i64 0, .int .u64 0]) (blk_put (cs := #[.int .i64 t567, .int .i64 0, .int .i64 0, .int .i64 0, .int .i64 0, .int .u64 0]) (blk_put (cs := #[.int .i64 0, .int .i64 0, .int .i64 0, .int .i64 0, .int .i64 0, .int .u64 0]) (bq_ BK574) 0 _ rfl) 1 _ rfl) 2 _ rfl) 3 _ rfl) 4 _ rfl) 5 _ rfl) hb); replace HB := bs_ w hb; (try clear hb); (try clear hb2); (try clear hk); (try clear hi)) | ((with_reducible refine gate_dst (N := 15) rfl ?_); refine box_event ?hg (N := 15) ?hd (cs := #[.int .i64 0, .int .i64 0, .int .i64 0, .int .i64 0, .int .i64 0, .int .u64 0]) (t := 26) ?hr ?_; (case hd => rfl); (case hg => rfl); (case hr => first | (go_simp; done) | (go_simp; rfl)); intro gb582 hg w94 hbox hb; have BK582 := Aside0.mk (hbox); have GW582 := bz_ w hg; have GE582 := GW582; have NB536_582 := bn_ BK536 hg; have NB582_536 := bm_ BK536 hg; have NB548_582 := bn_ BK548 hg; have NB582_548 := bm_ BK548 hg; have NB557_582 := bn_ BK557 hg; have NB582_557 := bm_ BK557 hg; have NB565_582 := bn_ BK565 hg; have NB582_565 := bm_ BK565 hg; have NB574_582 := bn_ BK574 hg; have NB582_574 := bm_ BK574 hg; replace BK536 := bb_ BK536 hb; replace BK548 := bb_ BK548 hb; replace BK557 := bb_ BK557 hb; replace BK565 := bb_ BK565 hb; replace BK574 := bb_ BK574 hb; replace HB := bs_ w hb; clear hb hbox hg; have hnb95 := NB582_536.out; have hnc95 := NB536_582.out; have hnb96 := NB582_548.out; have hnc96 := NB548_582.out; have hnb97 := NB582_557.out; have hnc97 := NB557_582.out; have hnb98 := NB582_565.out; have hnc98 := NB565_582.out; have hnb99 := NB582_574.out; have hnc99 := NB574_582.out; have hcz100_0 : w94.cell? ⟨gb582, 0, none⟩ = some (.int .i64 0) := (blk_cell BK582.out 0).trans rfl; have hcz100_1 : w94.cell? ⟨gb582, 1, none⟩ = some (.int .i64 0) := (blk_cell BK582.out 1).trans rfl; have hcz100_2 : w94.cell? ⟨gb582, 2, none⟩ = some (.int .i64 0) := (blk_cell BK582.out 2).trans rfl; have hcz100_3 : w94.cell? ⟨gb582, 3, none⟩ = some (.int .i64 0) := (blk_cell BK582.out 3).trans rfl; have hcz100_4 : w94.cell? ⟨gb582, 4, none⟩ = some (.int .i64 0) := (blk_cell BK582.out 4).trans rfl; have hcz100_5 : w94.cell? ⟨gb582, 5, none⟩ = some (.int .u64 0) := (blk_cell BK582.out 5).trans rfl; have hfz100_0 := blk_frozen BK582.out 0; have hfz100_1 := blk_frozen BK582.out 1; have hfz100_2 := blk_frozen BK582.out 2; have hfz100_3 := blk_frozen BK582.out 3; have hfz100_4 := blk_frozen BK582.out 4; have hfz100_5 := blk_frozen BK582.out 5) | (go_at_call 27; (with_reducible refine (spigotlaw03_alive.calls kj2  t583 _ A65.out).mono ?_); rintro e w101 ⟨rfl, hb⟩; replace BK536 := bf_ BK536 hb; replace BK548 := bf_ BK548 hb; replace BK557 := bf_ BK557 hb; replace BK565 := bf_ BK565 hb; replace BK574 := bf_ BK574 hb; replace BK582 := Aside0.mk (blk_below (g := gb582) (o := .cells #[.int .i64 t575, .int .i64 t576, .int .i64 t577, .int .i64 t578, .int .i64 t579, .int .u64 t580] 26 (0, 0)) (blk_put (cs := #[.int .i64 t575, .int .i64 t576, .int .i64 t577, .int .i64 t578, .int .i64 t579, .int .u64 0]) (blk_put (cs := #[.int .i64 t575, .int .i64 t576, .int .i64 t577, .int .i64 t578, .int .i64 0, .int .u64 0]) (blk_put (cs := #[.int .i64 t575, .int .i64 t576, .int .i64 t577, .int .i64 0, .int .i64 0, .int .u64 0]) (blk_put (cs := #[.int .i64 t575, .int .i64 t576, .int .i64 0, .int .i64 0, .int .i64 0, .int .u64 0]) (blk_put (cs := #[.int .i64 t575, .int .i64 0, .int .i64 0, .int .i64 0, .int .i64 0, .int .u64 0]) (blk_put (cs := #[.int .i64 0, .int .i64 0, .int .i64 0, .int .i64 0, .int .i64 0, .int .u64 0]) (bq_ BK582) 0 _ rfl) 1 _ rfl) 2 _ rfl) 3 _ rfl) 4 _ rfl) 5 _ rfl) hb); replace HB := bs_ w hb; (try clear hb); (try clear hb2); (try clear hk); (try clear hi)))
      go_ret
      exact ⟨by first | rfl | (simp [errW_none, errW_some] <;> rfl) | (simp [*, errW_none, errW_some] <;> rfl), by repeat (first | (with_reducible first | exact HB.out | apply below_alloc | apply pw_below_drewN | apply below_drew1 | refine below_set ?_ GE536.out | refine below_set ?_ GE548.out | refine below_set ?_ GE557.out | refine below_set ?_ GE565.out | refine below_set ?_ GE574.out | refine below_set ?_ GE582.out) | exact HB.out)⟩

/-! ### spigotlaw03_more: function 28 -/
def spigotlaw03_more.f (a0_0 : Int) (a0_1 : Int) (a0_2 : Int) (a0_3 : Int) (a0_4 : Int) (a0_5 : Int) (a1_0 : Int) (a1_1 : Int) (a1_2 : Int) (a1_3 : Int) (a1_4 : Int) (a1_5 : Int) : Option (Bool) := if a0_3 > a1_3 then (some true) else (if a0_3 = a1_3 then (some (decide (a0_4 ≥ a1_4))) else (some false))
set_option maxHeartbeats 8000000 in
set_option maxRecDepth 100000 in
theorem spigotlaw03_more.calls (a0_0 : Int) (a0_1 : Int) (a0_2 : Int) (a0_3 : Int) (a0_4 : Int) (a0_5 : Int) (a1_0 : Int) (a1_1 : Int) (a1_2 : Int) (a1_3 : Int) (a1_4 : Int) (a1_5 : Int) (r : Bool) (w : World) (h : spigotlaw03_more.f a0_0 a0_1 a0_2 a0_3 a0_4 a0_5 a1_0 a1_1 a1_2 a1_3 a1_4 a1_5 = some r) :
  Calls Try.prog 28 #[.agg #[.int .i64 a0_0, .int .i64 a0_1, .int .i64 a0_2, .int .i64 a0_3, .int .i64 a0_4, .int .u64 a0_5], .agg #[.int .i64 a1_0, .int .i64 a1_1, .int .i64 a1_2, .int .i64 a1_3, .int .i64 a1_4, .int .u64 a1_5]] w fun e w' => e = .returned (.bool r) ∧ Below w.heap.size w w' := by
 have hu26 := Try.underlying26
 have HB := Aside0.mk (Below.refl w.heap.size w)
 have H : (if a0_3 > a1_3 then (some true) else (if a0_3 = a1_3 then (some (decide (a0_4 ≥ a1_4))) else (some false))) = some r := h
 clear h
 by_cases c3 : a0_3 > a1_3
 ·rw [if_pos c3] at H
  have c3b0 : decide (a1_3 < a0_3) = true := decide_eq_true c3
  clear c3
  obtain rfl := Option.some.inj H
  go_enter Try.func28, Try.ntmps28
  go_wp2_with (first | ((with_reducible refine gate_dst (N := 2) rfl ?_); refine box_event ?hg (N := 2) ?hd (cs := #[.int .i64 a0_0, .int .i64 a0_1, .int .i64 a0_2, .int .i64 a0_3, .int .i64 a0_4, .int .u64 a0_5]) (t := 26) ?hr ?_; (case hd => rfl); (case hg => rfl); (case hr => first | (go_simp; done) | (go_simp; rfl)); intro gb584 hg w4 hbox hb; have BK584 := Aside0.mk (hbox); have GW584 := bz_ w hg; have GE584 := GW584; replace HB := bs_ w hb; clear hb hbox hg) | ((with_reducible refine gate_dst (N := 3) rfl ?_); refine box_event ?hg (N := 3) ?hd (cs := #[.int .i64 a1_0, .int .i64 a1_1, .int .i64 a1_2, .int .i64 a1_3, .int .i64 a1_4, .int .u64 a1_5]) (t := 26) ?hr ?_; (case hd => rfl); (case hg => rfl); (case hr => first | (go_simp; done) | (go_simp; rfl)); intro gb585 hg w5 hbox hb; have BK585 := Aside0.mk (hbox); have GW585 := bz_ w hg; have GE585 := GW585; have NB584_585 := bn_ BK584 hg; have NB585_584 := bm_ BK584 hg; replace BK584 := bb_ BK584 hb; replace HB := bs_ w hb; clear hb hbox hg; have hnb6 := NB584_585.out; have hnc6 := NB585_584.out; have hcz7_0 : w5.cell? ⟨gb584, 0, none⟩ = some (.int .i64 a0_0) := (blk_cell BK584.out 0).trans rfl; have hcz7_1 : w5.cell? ⟨gb584, 1, none⟩ = some (.int .i64 a0_1) := (blk_cell BK584.out 1).trans rfl; have hcz7_2 : w5.cell? ⟨gb584, 2, none⟩ = some (.int .i64 a0_2) := (blk_cell BK584.out 2).trans rfl; have hcz7_3 : w5.cell? ⟨gb584, 3, none⟩ = some (.int .i64 a0_3) := (blk_cell BK584.out 3).trans rfl; have hcz7_4 : w5.cell? ⟨gb584, 4, none⟩ = some (.int .i64 a0_4) := (blk_cell BK584.out 4).trans rfl; have hcz7_5 : w5.cell? ⟨gb584, 5, none⟩ = some (.int .u64 a0_5) := (blk_cell BK584.out 5).trans rfl; have hfz7_0 := blk_frozen BK584.out 0; have hfz7_1 := blk_frozen BK584.out 1; have hfz7_2 := blk_frozen BK584.out 2; have hfz7_3 := blk_frozen BK584.out 3; have hfz7_4 := blk_frozen BK584.out 4; have hfz7_5 := blk_frozen BK584.out 5; have hcz8_0 : w5.cell? ⟨gb585, 0, none⟩ = some (.int .i64 a1_0) := (blk_cell BK585.out 0).trans rfl; have hcz8_1 : w5.cell? ⟨gb585, 1, none⟩ = some (.int .i64 a1_1) := (blk_cell BK585.out 1).trans rfl; have hcz8_2 : w5.cell? ⟨gb585, 2, none⟩ = some (.int .i64 a1_2) := (blk_cell BK585.out 2).trans rfl; have hcz8_3 : w5.cell? ⟨gb585, 3, none⟩ = some (.int .i64 a1_3) := (blk_cell BK585.out 3).trans rfl; have hcz8_4 : w5.cell? ⟨gb585, 4, none⟩ = some (.int .i64 a1_4) := (blk_cell BK585.out 4).trans rfl; have hcz8_5 : w5.cell? ⟨gb585, 5, none⟩ = some (.int .u64 a1_5) := (blk_cell BK585.out 5).trans rfl; have hfz8_0 := blk_frozen BK585.out 0; have hfz8_1 := blk_frozen BK585.out 1; have hfz8_2 := blk_frozen BK585.out 2; have hfz8_3 := blk_frozen BK585.out 3; have hfz8_4 := blk_frozen BK585.out 4; have hfz8_5 := blk_frozen BK585.out 5))
  go_ret
  exact ⟨by first | rfl | (simp [errW_none, errW_some] <;> rfl) | (simp [*, errW_none, errW_some] <;> rfl), by repeat (first | (with_reducible first | exact HB.out | apply below_alloc | apply pw_below_drewN | apply below_drew1 | refine below_set ?_ GE584.out | refine below_set ?_ GE585.out) | exact HB.out)⟩
 ·rw [if_neg c3] at H
  have c3b0 : decide (a1_3 < a0_3) = false := decide_eq_false c3
  clear c3
  by_cases c9 : a0_3 = a1_3
  ·rw [if_pos c9] at H
   have c9b0 : (a0_3 == a1_3) = true := beq_iff_eq.mpr c9
   have c9b1 : (a0_3 != a1_3) = false := bne_eq_false_iff_eq.mpr c9
   clear c9
   obtain rfl := Option.some.inj H
   go_enter Try.func28, Try.ntmps28
   go_wp2_with (first | ((with_reducible refine gate_dst (N := 2) rfl ?_); refine box_event ?hg (N := 2) ?hd (cs := #[.int .i64 a0_0, .int .i64 a0_1, .int .i64 a0_2, .int .i64 a0_3, .int .i64 a0_4, .int .u64 a0_5]) (t := 26) ?hr ?_; (case hd => rfl); (case hg => rfl); (case hr => first | (go_simp; done) | (go_simp; rfl)); intro gb584 hg w10 hbox hb; have BK584 := Aside0.mk (hbox); have GW584 := bz_ w hg; have GE584 := GW584; replace HB := bs_ w hb; clear hb hbox hg) | ((with_reducible refine gate_dst (N := 3) rfl ?_); refine box_event ?hg (N := 3) ?hd (cs := #[.int .i64 a1_0, .int .i64 a1_1, .int .i64 a1_2, .int .i64 a1_3, .int .i64 a1_4, .int .u64 a1_5]) (t := 26) ?hr ?_; (case hd => rfl); (case hg => rfl); (case hr => first | (go_simp; done) | (go_simp; rfl)); intro gb585 hg w11 hbox hb; have BK585 := Aside0.mk (hbox); have GW585 := bz_ w hg; have GE585 := GW585; have NB584_585 := bn_ BK584 hg; have NB585_584 := bm_ BK584 hg; replace BK584 := bb_ BK584 hb; replace HB := bs_ w hb; clear hb hbox hg; have hnb12 := NB584_585.out; have hnc12 := NB585_584.out; have hcz13_0 : w11.cell? ⟨gb584, 0, none⟩ = some (.int .i64 a0_0) := (blk_cell BK584.out 0).trans rfl; have hcz13_1 : w11.cell? ⟨gb584, 1, none⟩ = some (.int .i64 a0_1) := (blk_cell BK584.out 1).trans rfl; have hcz13_2 : w11.cell? ⟨gb584, 2, none⟩ = some (.int .i64 a0_2) := (blk_cell BK584.out 2).trans rfl; have hcz13_3 : w11.cell? ⟨gb584, 3, none⟩ = some (.int .i64 a0_3) := (blk_cell BK584.out 3).trans rfl; have hcz13_4 : w11.cell? ⟨gb584, 4, none⟩ = some (.int .i64 a0_4) := (blk_cell BK584.out 4).trans rfl; have hcz13_5 : w11.cell? ⟨gb584, 5, none⟩ = some (.int .u64 a0_5) := (blk_cell BK584.out 5).trans rfl; have hfz13_0 := blk_frozen BK584.out 0; have hfz13_1 := blk_frozen BK584.out 1; have hfz13_2 := blk_frozen BK584.out 2; have hfz13_3 := blk_frozen BK584.out 3; have hfz13_4 := blk_frozen BK584.out 4; have hfz13_5 := blk_frozen BK584.out 5; have hcz14_0 : w11.cell? ⟨gb585, 0, none⟩ = some (.int .i64 a1_0) := (blk_cell BK585.out 0).trans rfl; have hcz14_1 : w11.cell? ⟨gb585, 1, none⟩ = some (.int .i64 a1_1) := (blk_cell BK585.out 1).trans rfl; have hcz14_2 : w11.cell? ⟨gb585, 2, none⟩ = some (.int .i64 a1_2) := (blk_cell BK585.out 2).trans rfl; have hcz14_3 : w11.cell? ⟨gb585, 3, none⟩ = some (.int .i64 a1_3) := (blk_cell BK585.out 3).trans rfl; have hcz14_4 : w11.cell? ⟨gb585, 4, none⟩ = some (.int .i64 a1_4) := (blk_cell BK585.out 4).trans rfl; have hcz14_5 : w11.cell? ⟨gb585, 5, none⟩ = some (.int .u64 a1_5) := (blk_cell BK585.out 5).trans rfl; have hfz14_0 := blk_frozen BK585.out 0; have hfz14_1 := blk_frozen BK585.out 1; have hfz14_2 := blk_frozen BK585.out 2; have hfz14_3 := blk_frozen BK585.out 3; have hfz14_4 := blk_frozen BK585.out 4; have hfz14_5 := blk_frozen BK585.out 5))
   go_ret
   exact ⟨by first | rfl | (simp [errW_none, errW_some] <;> rfl) | (simp [*, errW_none, errW_some] <;> rfl), by repeat (first | (with_reducible first | exact HB.out | apply below_alloc | apply pw_below_drewN | apply below_drew1 | refine below_set ?_ GE584.out | refine below_set ?_ GE585.out) | exact HB.out)⟩
  ·rw [if_neg c9] at H
   have c9b0 : (a0_3 == a1_3) = false := beq_eq_false_iff_ne.mpr c9
   have c9b1 : (a0_3 != a1_3) = true := bne_iff_ne.mpr c9
   obtain rfl := Option.some.inj H
   go_enter Try.func28, Try.ntmps28
   go_wp2_with (first | ((with_reducible refine gate_dst (N := 2) rfl ?_); refine box_event ?hg (N := 2) ?hd (cs := #[.int .i64 a0_0, .int .i64 a0_1, .int .i64 a0_2, .int .i64 a0_3, .int .i64 a0_4, .int .u64 a0_5]) (t := 26) ?hr ?_; (case hd => rfl); (case hg => rfl); (case hr => first | (go_simp; done) | (go_simp; rfl)); intro gb584 hg w15 hbox hb; have BK584 := Aside0.mk (hbox); have GW584 := bz_ w hg; have GE584 := GW584; replace HB := bs_ w hb; clear hb hbox hg) | ((with_reducible refine gate_dst (N := 3) rfl ?_); refine box_event ?hg (N := 3) ?hd (cs := #[.int .i64 a1_0, .int .i64 a1_1, .int .i64 a1_2, .int .i64 a1_3, .int .i64 a1_4, .int .u64 a1_5]) (t := 26) ?hr ?_; (case hd => rfl); (case hg => rfl); (case hr => first | (go_simp; done) | (go_simp; rfl)); intro gb585 hg w16 hbox hb; have BK585 := Aside0.mk (hbox); have GW585 := bz_ w hg; have GE585 := GW585; have NB584_585 := bn_ BK584 hg; have NB585_584 := bm_ BK584 hg; replace BK584 := bb_ BK584 hb; replace HB := bs_ w hb; clear hb hbox hg; have hnb17 := NB584_585.out; have hnc17 := NB585_584.out; have hcz18_0 : w16.cell? ⟨gb584, 0, none⟩ = some (.int .i64 a0_0) := (blk_cell BK584.out 0).trans rfl; have hcz18_1 : w16.cell? ⟨gb584, 1, none⟩ = some (.int .i64 a0_1) := (blk_cell BK584.out 1).trans rfl; have hcz18_2 : w16.cell? ⟨gb584, 2, none⟩ = some (.int .i64 a0_2) := (blk_cell BK584.out 2).trans rfl; have hcz18_3 : w16.cell? ⟨gb584, 3, none⟩ = some (.int .i64 a0_3) := (blk_cell BK584.out 3).trans rfl; have hcz18_4 : w16.cell? ⟨gb584, 4, none⟩ = some (.int .i64 a0_4) := (blk_cell BK584.out 4).trans rfl; have hcz18_5 : w16.cell? ⟨gb584, 5, none⟩ = some (.int .u64 a0_5) := (blk_cell BK584.out 5).trans rfl; have hfz18_0 := blk_frozen BK584.out 0; have hfz18_1 := blk_frozen BK584.out 1; have hfz18_2 := blk_frozen BK584.out 2; have hfz18_3 := blk_frozen BK584.out 3; have hfz18_4 := blk_frozen BK584.out 4; have hfz18_5 := blk_frozen BK584.out 5; have hcz19_0 : w16.cell? ⟨gb585, 0, none⟩ = some (.int .i64 a1_0) := (blk_cell BK585.out 0).trans rfl; have hcz19_1 : w16.cell? ⟨gb585, 1, none⟩ = some (.int .i64 a1_1) := (blk_cell BK585.out 1).trans rfl; have hcz19_2 : w16.cell? ⟨gb585, 2, none⟩ = some (.int .i64 a1_2) := (blk_cell BK585.out 2).trans rfl; have hcz19_3 : w16.cell? ⟨gb585, 3, none⟩ = some (.int .i64 a1_3) := (blk_cell BK585.out 3).trans rfl; have hcz19_4 : w16.cell? ⟨gb585, 4, none⟩ = some (.int .i64 a1_4) := (blk_cell BK585.out 4).trans rfl; have hcz19_5 : w16.cell? ⟨gb585, 5, none⟩ = some (.int .u64 a1_5) := (blk_cell BK585.out 5).trans rfl; have hfz19_0 := blk_frozen BK585.out 0; have hfz19_1 := blk_frozen BK585.out 1; have hfz19_2 := blk_frozen BK585.out 2; have hfz19_3 := blk_frozen BK585.out 3; have hfz19_4 := blk_frozen BK585.out 4; have hfz19_5 := blk_frozen BK585.out 5))
   go_ret
   exact ⟨by first | rfl | (simp [errW_none, errW_some] <;> rfl) | (simp [*, errW_none, errW_some] <;> rfl), by repeat (first | (with_reducible first | exact HB.out | apply below_alloc | apply pw_below_drewN | apply below_drew1 | refine below_set ?_ GE584.out | refine below_set ?_ GE585.out) | exact HB.out)⟩

end Go.Proofs.Ytmfkedeaifdfdaa.X
