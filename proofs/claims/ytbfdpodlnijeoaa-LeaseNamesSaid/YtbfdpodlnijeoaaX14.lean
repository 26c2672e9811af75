-- written by xprint.py, a program of this session over the kit's print
import Derived.Test.YtbfdpodlnijeoaaX0
import Derived.Test.YtbfdpodlnijeoaaX5
import Derived.Test.YtbfdpodlnijeoaaX11
import Derived.Test.YtbfdpodlnijeoaaX12
namespace Go.Proofs.Ytbfdpodlnijeoaa.X
open Go.RowKit Go.Proofs.YtbfdpodlnijeoaaW.PrintWords Go.Proofs.YtbfdpodlnijeoaaW.PrintLast Go.Proofs.YtbfdpodlnijeoaaW.PrintMore
attribute [local go_sem] max2_int min2_int max_two min_two max_three min_three max_four min_four   -- for this text's walks alone
set_option linter.unusedVariables false
set_option linter.unusedSimpArgs false

/-! ### lease_Run: function 16 -/
def lease_Run.l0 : Nat → List Int → List (S31) → Int → Int → Int → Int → Int → Int → Int → Int → Int → List Int → Option (Int × Int × Int × Int × Int × Int × Int × List Int × List Int × Int)
  | 0, _, _, _, _, _, _, _, _, _, _, _, _ => none
  | k + 1, x9, x33, x34, x35, x204000, x204001, x204002, x204003, x204004, x204005, x204006, x204007 => if x35 < x34 then (if 0 ≤ x35 then (if x35 < (x33.length : Int) then ((lease_Step.f k x204000 x204001 x204002 x204003 x204004 x204005 x204006 x204007 ((rd_T31 x33 x35).f0) ((rd_T31 x33 x35).f1) ((rd_T31 x33 x35).f2) ((rd_T31 x33 x35).f3)).bind fun bt206 => (if bt206.2.2.2.2.2.2.2.2.2 = 0 then (if x9.length < 17592186044416 then (lease_Run.l0 k (x9 ++ [bt206.2.2.2.2.2.2.2.2.1]) x33 x34 (wrap64 (x35 + 1)) bt206.1 bt206.2.1 bt206.2.2.1 bt206.2.2.2.1 bt206.2.2.2.2.1 bt206.2.2.2.2.2.1 bt206.2.2.2.2.2.2.1 bt206.2.2.2.2.2.2.2.1) else (none)) else (some (0, 0, 0, 0, 0, 0, 0, ([] : List Int), ([] : List Int), bt206.2.2.2.2.2.2.2.2.2)))) else (none)) else (none)) else (some (x204000, x204001, x204002, x204003, x204004, x204005, x204006, x204007, x9, 0))
def lease_Run.f (k : Nat) (a0_0 : Int) (a0_1 : Int) (a0_2 : Int) (a0_3 : Int) (a0_4 : Int) (a0_5 : Int) (a0_6 : Int) (l0_7 : List Int) (l1 : List (S31)) : Option (Int × Int × Int × Int × Int × Int × Int × List Int × List Int × Int) := (lease_Check.f k a0_0 a0_1 a0_2 a0_3 a0_4 a0_5 a0_6 l0_7).bind fun t199 => (if t199 = 0 then (if (l1.length : Int) > 100 then (some (0, 0, 0, 0, 0, 0, 0, ([] : List Int), ([] : List Int), 4)) else ((slices_Clone_int64.f l0_7).bind fun t200 => (lease_Run.l0 k ([] : List Int) l1 (l1.length : Int) 0 a0_0 a0_1 a0_2 a0_3 a0_4 a0_5 a0_6 t200))) else (some (0, 0, 0, 0, 0, 0, 0, ([] : List Int), ([] : List Int), t199)))
theorem lease_Run.mono_l : ∀ k, (∀ y0 y1 y2 y3 y4 y5 y6 y7 y8 y9 y10 y11, LeO (lease_Run.l0 k y0 y1 y2 y3 y4 y5 y6 y7 y8 y9 y10 y11) (lease_Run.l0 (k + 1) y0 y1 y2 y3 y4 y5 y6 y7 y8 y9 y10 y11))
  | 0 => fun _ _ _ _ _ _ _ _ _ _ _ _ r h => by simp [lease_Run.l0] at h
  | k + 1 => by
    have ih0 := lease_Run.mono_l k
    · intro y0 y1 y2 y3 y4 y5 y6 y7 y8 y9 y10 y11
      unfold lease_Run.l0
      repeat' first
      | (with_reducible exact ih0 _ _ _ _ _ _ _ _ _ _ _ _)
      | (with_reducible exact lease_Check.mono _ _ _ _ _ _ _ _ _)
      | (with_reducible exact lease_Step.mono _ _ _ _ _ _ _ _ _ _ _ _ _)
      | (with_reducible exact LeO.refl _)
      | (with_reducible exact LeO.none _)
      | (with_reducible refine LeO.ite ?_ ?_)
      | (with_reducible refine LeO.bind ?_ (fun _ => ?_))
      | exact ih0 _ _ _ _ _ _ _ _ _ _ _ _
      | exact lease_Check.mono _ _ _ _ _ _ _ _ _
      | exact lease_Step.mono _ _ _ _ _ _ _ _ _ _ _ _ _
      | exact LeO.none _
      | refine LeO.ite ?_ ?_
      | refine LeO.bind ?_ (fun _ => ?_)
theorem lease_Run.mono : ∀ a0 a1 a2 a3 a4 a5 a6 a7 a8 k, LeO (lease_Run.f k a0 a1 a2 a3 a4 a5 a6 a7 a8) (lease_Run.f (k + 1) a0 a1 a2 a3 a4 a5 a6 a7 a8) := by
  intro a0 a1 a2 a3 a4 a5 a6 a7 a8 k
  have ih0 := lease_Run.mono_l k
  unfold lease_Run.f
  repeat' first
      | (with_reducible exact ih0 _ _ _ _ _ _ _ _ _ _ _ _)
      | (with_reducible exact lease_Check.mono _ _ _ _ _ _ _ _ _)
      | (with_reducible exact lease_Step.mono _ _ _ _ _ _ _ _ _ _ _ _ _)
      | (with_reducible exact LeO.refl _)
      | (with_reducible exact LeO.none _)
      | (with_reducible refine LeO.ite ?_ ?_)
      | (with_reducible refine LeO.bind ?_ (fun _ => ?_))
      | exact ih0 _ _ _ _ _ _ _ _ _ _ _ _
      | exact lease_Check.mono _ _ _ _ _ _ _ _ _
      | exact lease_Step.mono _ _ _ _ _ _ _ _ _ _ _ _ _
      | exact LeO.none _
      | refine LeO.ite ?_ ?_
      | refine LeO.bind ?_ (fun _ => ?_)
def lease_Run.T6 : Bool × List (List Nat × List Nat) := (true, [([], []), ([0], [0]), ([], []), ([2], [2]), ([], []), ([4], [4]), ([5], [5]), ([1, 3, 6], [1, 3, 6]), ([], []), ([8, 7, 6, 0, 1, 2, 3, 4, 5, 6, 7, 8], [7, 8])])
def lease_Run.B6 : List Nat := [0, 1, 0, 4, 0, 16, 48, 127, 0, 511]
theorem lease_Run.tab6 : rtab .any (opsOf Try.f16 6) = lease_Run.T6 := by kernel_rfl
theorem lease_Run.bits6 : waitsOk lease_Run.T6.2 lease_Run.B6 = true := by kernel_rfl
set_option maxHeartbeats 8000000 in
set_option maxRecDepth 100000 in
theorem lease_Run.calls (k : Nat) (a0_0 : Int) (a0_1 : Int) (a0_2 : Int) (a0_3 : Int) (a0_4 : Int) (a0_5 : Int) (a0_6 : Int) (A0_7 : Option Addr) (c0_7 : Nat) (l0_7 : List Int) (A1 : Option Addr) (c1 : Nat) (l1 : List (S31)) (r1 : Int) (r2 : Int) (r3 : Int) (r4 : Int) (r5 : Int) (r6 : Int) (r7 : Int) (r8 : List Int) (r9 : List Int) (r10 : Int) (w : World) (hr0_7 : Kd.C (Kd.int .i64) w A0_7 l0_7.length l0_7) (hc0_7 : l0_7.length ≤ c0_7) (hr1 : Kd.C k31 w A1 l1.length l1) (hc1 : l1.length ≤ c1) (h : lease_Run.f k a0_0 a0_1 a0_2 a0_3 a0_4 a0_5 a0_6 l0_7 l1 = some (r1, r2, r3, r4, r5, r6, r7, r8, r9, r10)) :
  Calls Try.prog 16 #[.agg #[.int .i64 a0_0, .int .i64 a0_1, .int .i64 a0_2, .int .i64 a0_3, .int .i64 a0_4, .int .u64 a0_5, .int .i64 a0_6, .slice A0_7 l0_7.length c0_7], .slice A1 l1.length c1] w fun e w' => ∃ v7_ v8_ : Value, e = .returned (.tuple #[.agg #[.int .i64 r1, .int .i64 r2, .int .i64 r3, .int .i64 r4, .int .i64 r5, .int .u64 r6, .int .i64 r7, v7_], v8_, .int .i64 r10]) ∧ Kd.R (Kd.int .i64) 2 w' w.heap.size (fun k_ => some k_ ≠ (v8_ : Value).ownBlock) v7_ r8 ∧ Kd.R (Kd.int .i64) 2 w' w.heap.size (fun k_ => some k_ ≠ (v7_ : Value).ownBlock) v8_ r9 ∧ Below w.heap.size w w' := by
 have hu29 := Try.underlying29
 have hu26 := Try.underlying26
 have hu31 := Try.underlying31
 have HR0_7 := Aside0.mk hr0_7
 have HC0_7 := Aside0.mk hc0_7
 clear hr0_7 hc0_7
 have HR1 := Aside0.mk hr1
 have HC1 := Aside0.mk hc1
 clear hr1 hc1
 have HB := Aside0.mk (Below.refl w.heap.size w)
 have H : ((lease_Check.f k a0_0 a0_1 a0_2 a0_3 a0_4 a0_5 a0_6 l0_7).bind fun t199 => (if t199 = 0 then (if (l1.length : Int) > 100 then (some (0, 0, 0, 0, 0, 0, 0, ([] : List Int), ([] : List Int), 4)) else ((slices_Clone_int64.f l0_7).bind fun t200 => (lease_Run.l0 k ([] : List Int) l1 (l1.length : Int) 0 a0_0 a0_1 a0_2 a0_3 a0_4 a0_5 a0_6 t200))) else (some (0, 0, 0, 0, 0, 0, 0, ([] : List Int), ([] : List Int), t199)))) = some (r1, r2, r3, r4, r5, r6, r7, r8, r9, r10) := h
 clear h
 have H0_ := bo_ H; clear H; obtain ⟨t199, A3, H⟩ := H0_
 try dsimp only at H
 by_cases c4 : t199 = 0
 ·rw [if_pos c4] at H
  have c4b0 : (t199 == 0) = true := beq_iff_eq.mpr c4
  have c4b1 : (t199 != 0) = false := bne_eq_false_iff_eq.mpr c4
  clear c4
  by_cases c5 : (l1.length : Int) > 100
  ·rw [if_pos c5] at H
   have c5b0 : decide (100 < (l1.length : Int)) = true := decide_eq_true c5
   have c5b1 : decide (100 < l1.length) = true := decide_eq_true (by omega)
   clear c5
   simp only [Option.some.injEq, Prod.mk.injEq] at H
   obtain ⟨rfl, rfl, rfl, rfl, rfl, rfl, rfl, rfl, rfl, rfl⟩ := H
   go_enter Try.func16, Try.ntmps16
   go_wp2_with (first | ((with_reducible refine gate_dst (N := 2) rfl ?_); refine bx_ #[.int .i64 a0_0, .int .i64 a0_1, .int .i64 a0_2, .int .i64 a0_3, .int .i64 a0_4, .int .u64 a0_5, .int .i64 a0_6, .slice A0_7 l0_7.length c0_7] 29 ?_; intro gb197 hg w6 BK197 hb; have GW197 := bz_ w hg; have GE197 := GW197; replace HB := bs_ w hb; clear hb hg) | ((with_reducible refine gate_dst (N := 4) rfl ?_); refine bx_ #[.int .i64 0, .int .i64 0, .int .i64 0, .int .i64 0, .int .i64 0, .int .u64 0, .int .i64 0, .slice none 0 0] 29 ?_; intro gb198 hg w7 BK198 hb; have GW198 := bz_ w hg; have GE198 := GW198; have NB197_198 := bn_ BK197 hg; have NB198_197 := bm_ BK197 hg; replace BK197 := bb_ BK197 hb; replace HB := bs_ w hb; clear hb hg; replace hn197_198 := NB197_198.out; replace hn198_197 := NB198_197.out; replace hc197 := ce8_ BK197) | ((with_reducible refine gate_callee (f := 27) rfl ?_); refine goesA_ (some 16) Try.func27 #[.agg #[.int .i64 a0_0, .int .i64 a0_1, .int .i64 a0_2, .int .i64 a0_3, .int .i64 a0_4, .int .u64 a0_5, .int .i64 a0_6, .slice A0_7 l0_7.length c0_7]] ?_; (with_reducible refine (lease_Check.calls k a0_0 a0_1 a0_2 a0_3 a0_4 a0_5 a0_6 _ _ l0_7 t199 _ ?side1 ?side2 A3.out).mono ?_); (case side1 => exact cs_ HR0_7 HB); (case side2 => exact HC0_7.out); rintro e w10 ⟨rfl, hb⟩; refine ⟨_, rfl, ?_⟩; replace BK197 := bb_ BK197 hb; replace BK198 := bb_ BK198 hb; replace HB := bs_ w hb; clear hb; replace hc198 := ce8_ BK198))
   refine bodyPost_ret (results_ctt rfl _ _ gb198 29 #[.int .i64 0, .int .i64 0, .int .i64 0, .int .i64 0, .int .i64 0, .int .u64 0, .int .i64 0, .slice none 0 0] (0, 0) _ rfl (bp8_ (bq_ BK198)) Try.underlying29 rfl (by kernel_rfl)) rfl ?_
   exact ⟨_, _, by first | rfl | (simp [errW_none, errW_some] <;> rfl) | (simp [*, errW_none, errW_some] <;> rfl), by first | exact Kd.R_nil _ _ _ _ _ | exact Kd.N_nil _ _ _ _ _ | exact Kd.V_nil _ _ _ _ _ | exact Kd.Q_nil _ _ _ _ _ | exact Kd.S_nil _ _ _ _ _, by first | exact Kd.R_nil _ _ _ _ _ | exact Kd.N_nil _ _ _ _ _ | exact Kd.V_nil _ _ _ _ _ | exact Kd.Q_nil _ _ _ _ _ | exact Kd.S_nil _ _ _ _ _, by repeat (first | (with_reducible first | exact HB.out | apply below_alloc | apply pw_below_drewN | apply below_drew1 | refine below_set ?_ GE197.out | refine below_set ?_ GE198.out) | exact HB.out)⟩
  ·rw [if_neg c5] at H
   have c5b0 : decide (100 < (l1.length : Int)) = false := decide_eq_false c5
   have c5b1 : decide (100 < l1.length) = false := decide_eq_false (by omega)
   clear c5
   have H0_ := bo_ H; clear H; obtain ⟨t200, A12, H⟩ := H0_
   replace H : (lease_Run.l0 k ([] : List Int) l1 (l1.length : Int) 0 a0_0 a0_1 a0_2 a0_3 a0_4 a0_5 a0_6 t200) = some (r1, r2, r3, r4, r5, r6, r7, r8, r9, r10) := H
   have H' := Aside0.mk H
   clear H
   go_enter Try.func16, Try.ntmps16
   try go_wp2_with (first | ((with_reducible refine gate_dst (N := 2) rfl ?_); refine bx_ #[.int .i64 a0_0, .int .i64 a0_1, .int .i64 a0_2, .int .i64 a0_3, .int .i64 a0_4, .int .u64 a0_5, .int .i64 a0_6, .slice A0_7 l0_7.length c0_7] 29 ?_; intro gb197 hg w13 BK197 hb; have GW197 := bz_ w hg; have GE197 := GW197; replace HB := bs_ w hb; clear hb hg) | ((with_reducible refine gate_dst (N := 4) rfl ?_); refine bx_ #[.int .i64 0, .int .i64 0, .int .i64 0, .int .i64 0, .int .i64 0, .int .u64 0, .int .i64 0, .slice none 0 0] 29 ?_; intro gb198 hg w14 BK198 hb; have GW198 := bz_ w hg; have GE198 := GW198; have NB197_198 := bn_ BK197 hg; have NB198_197 := bm_ BK197 hg; replace BK197 := bb_ BK197 hb; replace HB := bs_ w hb; clear hb hg; replace hn197_198 := NB197_198.out; replace hn198_197 := NB198_197.out; replace hc197 := ce8_ BK197) | ((with_reducible refine gate_callee (f := 27) rfl ?_); refine goesA_ (some 16) Try.func27 #[.agg #[.int .i64 a0_0, .int .i64 a0_1, .int .i64 a0_2, .int .i64 a0_3, .int .i64 a0_4, .int .u64 a0_5, .int .i64 a0_6, .slice A0_7 l0_7.length c0_7]] ?_; (with_reducible refine (lease_Check.calls k a0_0 a0_1 a0_2 a0_3 a0_4 a0_5 a0_6 _ _ l0_7 t199 _ ?side1 ?side2 A3.out).mono ?_); (case side1 => exact cs_ HR0_7 HB); (case side2 => exact HC0_7.out); rintro e w17 ⟨rfl, hb⟩; refine ⟨_, rfl, ?_⟩; replace BK197 := bb_ BK197 hb; replace BK198 := bb_ BK198 hb; replace HB := bs_ w hb; clear hb))
   replace BK197 := Aside0.mk (blk_drew BK197.out)
   replace BK198 := Aside0.mk (blk_drew BK198.out)
   replace HB := Aside0.mk (below_drew1 HB.out)
   refine start_ (n := 10) (S := fun w' => w'.cell? ⟨gb197, 0, none⟩ = some (.int .i64 a0_0) ∧ w'.cell? ⟨gb197, 1, none⟩ = some (.int .i64 a0_1) ∧ w'.cell? ⟨gb197, 2, none⟩ = some (.int .i64 a0_2) ∧ w'.cell? ⟨gb197, 3, none⟩ = some (.int .i64 a0_3) ∧ w'.cell? ⟨gb197, 4, none⟩ = some (.int .i64 a0_4) ∧ w'.cell? ⟨gb197, 5, none⟩ = some (.int .u64 a0_5) ∧ w'.cell? ⟨gb197, 6, none⟩ = some (.int .i64 a0_6) ∧ w'.cell? ⟨gb197, 7, none⟩ = some (.slice A0_7 l0_7.length c0_7)) (ds := []) (bl_ 10 0) (by kernel_rfl) rfl (by kernel_rfl) ⟨(blk_cell BK197.out 0).trans rfl, (blk_cell BK197.out 1).trans rfl, (blk_cell BK197.out 2).trans rfl, (blk_cell BK197.out 3).trans rfl, (blk_cell BK197.out 4).trans rfl, (blk_cell BK197.out 5).trans rfl, (blk_cell BK197.out 6).trans rfl, (blk_cell BK197.out 7).trans rfl⟩ (fun hHeld => ?_); refine with_tabW lease_Run.tab6 lease_Run.bits6 (fun HT_ HW_ => ?_)
   generalize w17.drew = w18 at BK197 BK198 HB hHeld ⊢
   refine pa_ 0 (some 25) (bl_ 10 1) HT_ ?_
   refine pa_ 2 (some 27) (bl_ 10 5) HT_ ?_
   refine pa_ 4 (some 29) (bl_ 10 21) HT_ ?_
   refine ta_ 1 (some 26) (bl_ 10 23) HT_ HW_ hHeld ?_
   refine ta_ 3 (some 28) (bl_ 10 31) HT_ HW_ hHeld ?_
   refine ta_ 5 (some 30) (bl_ 10 63) HT_ HW_ hHeld ?_
   refine join_ (σ := Value × Nat) 1 (bl_ 10 511) (fun s_ => [(31, s_.1), (8, .pointer (some ⟨s_.2, 0, none⟩)), (32, .agg #[.int .i64 a0_0, .int .i64 a0_1, .int .i64 a0_2, .int .i64 a0_3, .int .i64 a0_4, .int .u64 a0_5, .int .i64 a0_6, s_.1])]) (fun s_ w' => (w'.cell? ⟨gb197, 0, none⟩ = some (.int .i64 a0_0) ∧ w'.cell? ⟨gb197, 1, none⟩ = some (.int .i64 a0_1) ∧ w'.cell? ⟨gb197, 2, none⟩ = some (.int .i64 a0_2) ∧ w'.cell? ⟨gb197, 3, none⟩ = some (.int .i64 a0_3) ∧ w'.cell? ⟨gb197, 4, none⟩ = some (.int .i64 a0_4) ∧ w'.cell? ⟨gb197, 5, none⟩ = some (.int .u64 a0_5) ∧ w'.cell? ⟨gb197, 6, none⟩ = some (.int .i64 a0_6) ∧ w'.cell? ⟨gb197, 7, none⟩ = some (.slice A0_7 l0_7.length c0_7)) ∧ (Kd.R (Kd.int .i64) 2 w' w.heap.size (fun _ => True) s_.1 t200) ∧ (w'.heap[gb197]? = some (.cells #[.int .i64 a0_0, .int .i64 a0_1, .int .i64 a0_2, .int .i64 a0_3, .int .i64 a0_4, .int .u64 a0_5, .int .i64 a0_6, .slice A0_7 l0_7.length c0_7] 29 (0, 0))) ∧ (w'.heap[gb198]? = some (.cells #[.int .i64 0, .int .i64 0, .int .i64 0, .int .i64 0, .int .i64 0, .int .u64 0, .int .i64 0, .slice none 0 0] 29 (0, 0))) ∧ (w'.heap[s_.2]? = some (.cells #[.int .i64 0, .int .i64 0, .int .i64 0, .int .i64 0, .int .i64 0, .int .u64 0, .int .i64 0, .slice none 0 0] 29 (0, 0))) ∧ (w.heap.size ≤ s_.2) ∧ (w.heap.size ≤ s_.2) ∧ (gb197 ≠ s_.2) ∧ (s_.2 ≠ gb197) ∧ (gb198 ≠ s_.2) ∧ (s_.2 ≠ gb198) ∧ (Below w.heap.size w w')) ?_ ?_
   rotate_left
   ·intro hCont
    refine tw_ 6 8 (some 31) (some 8) (bl_ 10 127) (bl_ 10 319) HT_ (fun K hK => ?_) fun K hK => ?_
    ·refine goesB_ Try.func32 #[.slice A0_7 l0_7.length c0_7] ?_
     with_reducible refine (slices_Clone_int64.calls _ _ l0_7 t200 _ ?side1 ?side2 A12.out).mono ?_
     (case side1 => exact cs_ HR0_7 HB)
     (case side2 => exact HC0_7.out)
     rintro e w19 ⟨v201, rfl, ho0, hb⟩
     refine ⟨_, rfl, ?_⟩
     have HO202 := Aside0.mk (Kd.R_lower ho0 (below_size bh_))
     replace BK197 := bb_ BK197 hb
     replace BK198 := bb_ BK198 hb
     replace HB := bs_ w hb
     (try clear hb)
     (try clear ho0)
     obtain ⟨Ao20, co20, eo20⟩ := Kd.R_slice HO202.out
     (first | subst eo20 | (injection eo20 with f1_ f2_ f3_; have f4_ := f1_.symm; have f5_ := f3_.symm; clear f1_ f2_ f3_; subst f4_; subst f5_))
     refine hK.out _ _ ⟨(blk_cell BK197.out 0).trans rfl, (blk_cell BK197.out 1).trans rfl, (blk_cell BK197.out 2).trans rfl, (blk_cell BK197.out 3).trans rfl, (blk_cell BK197.out 4).trans rfl, (blk_cell BK197.out 5).trans rfl, (blk_cell BK197.out 6).trans rfl, (blk_cell BK197.out 7).trans rfl⟩ (fun hHeld => ?_)
     clear hK K
     refine nm_ (some 31) ?_
     refine pa_ 7 (some 32) (bl_ 10 255) HT_ ?_
     refine oa_ 8 (some 8) (bl_ 10 511) HT_ fun K hK => ?_
     refine bs2_ #[.int .i64 0, .int .i64 0, .int .i64 0, .int .i64 0, .int .i64 0, .int .u64 0, .int .i64 0, .slice none 0 0] 29 ?_
     intro gb203 hg w21 BK203 hb
     have GW203 := bz_ w hg
     have GE203 := GW203
     have NB197_203 := bn_ BK197 hg
     have NB203_197 := bm_ BK197 hg
     have NB198_203 := bn_ BK198 hg
     have NB203_198 := bm_ BK198 hg
     replace HO202 := rb_ HO202 hb
     replace BK197 := bb_ BK197 hb
     replace BK198 := bb_ BK198 hb
     replace HB := bs_ w hb
     clear hb hg
     refine hK.out _ _ ⟨(blk_cell BK197.out 0).trans rfl, (blk_cell BK197.out 1).trans rfl, (blk_cell BK197.out 2).trans rfl, (blk_cell BK197.out 3).trans rfl, (blk_cell BK197.out 4).trans rfl, (blk_cell BK197.out 5).trans rfl, (blk_cell BK197.out 6).trans rfl, (blk_cell BK197.out 7).trans rfl⟩ (fun hHeld => ?_)
     clear hK K
     refine nm_ (some 8) ?_
     exact no_ (hCont (.slice Ao20 t200.length co20, gb203) _ ⟨hHeld, (rs_ HO202), (bq_ BK197), (bq_ BK198), (bq_ BK203), GW203.out, GE203.out, NB197_203.out, NB203_197.out, NB198_203.out, NB203_198.out, bh_⟩)
    ·refine bs2_ #[.int .i64 0, .int .i64 0, .int .i64 0, .int .i64 0, .int .i64 0, .int .u64 0, .int .i64 0, .slice none 0 0] 29 ?_
     intro gb203 hg w19 BK203 hb
     have GW203 := bz_ w hg
     have GE203 := GW203
     have NB197_203 := bn_ BK197 hg
     have NB203_197 := bm_ BK197 hg
     have NB198_203 := bn_ BK198 hg
     have NB203_198 := bm_ BK198 hg
     replace BK197 := bb_ BK197 hb
     replace BK198 := bb_ BK198 hb
     replace HB := bs_ w hb
     clear hb hg
     refine hK.out _ _ ⟨(blk_cell BK197.out 0).trans rfl, (blk_cell BK197.out 1).trans rfl, (blk_cell BK197.out 2).trans rfl, (blk_cell BK197.out 3).trans rfl, (blk_cell BK197.out 4).trans rfl, (blk_cell BK197.out 5).trans rfl, (blk_cell BK197.out 6).trans rfl, (blk_cell BK197.out 7).trans rfl⟩ (fun hHeld => ?_)
     clear hK K
     refine nm_ (some 8) ?_
     refine oa_ 6 (some 31) (bl_ 10 383) HT_ fun K hK => ?_
     refine goesB_ Try.func32 #[.slice A0_7 l0_7.length c0_7] ?_
     with_reducible refine (slices_Clone_int64.calls _ _ l0_7 t200 _ ?side1 ?side2 A12.out).mono ?_
     (case side1 => exact cs_ HR0_7 HB)
     (case side2 => exact HC0_7.out)
     rintro e w20 ⟨v201, rfl, ho0, hb⟩
     refine ⟨_, rfl, ?_⟩
     have HO202 := Aside0.mk (Kd.R_lower ho0 (below_size bh_))
     replace BK197 := bb_ BK197 hb
     replace BK198 := bb_ BK198 hb
     replace BK203 := bb_ BK203 hb
     replace HB := bs_ w hb
     (try clear hb)
     (try clear ho0)
     obtain ⟨Ao21, co21, eo21⟩ := Kd.R_slice HO202.out
     (first | subst eo21 | (injection eo21 with f1_ f2_ f3_; have f4_ := f1_.symm; have f5_ := f3_.symm; clear f1_ f2_ f3_; subst f4_; subst f5_))
     refine hK.out _ _ ⟨(blk_cell BK197.out 0).trans rfl, (blk_cell BK197.out 1).trans rfl, (blk_cell BK197.out 2).trans rfl, (blk_cell BK197.out 3).trans rfl, (blk_cell BK197.out 4).trans rfl, (blk_cell BK197.out 5).trans rfl, (blk_cell BK197.out 6).trans rfl, (blk_cell BK197.out 7).trans rfl⟩ (fun hHeld => ?_)
     clear hK K
     refine nm_ (some 31) ?_
     refine pa_ 7 (some 32) (bl_ 10 511) HT_ ?_
     exact no_ (hCont (.slice Ao21 t200.length co21, gb203) _ ⟨hHeld, (rs_ HO202), (bq_ BK197), (bq_ BK198), (bq_ BK203), GW203.out, GE203.out, NB197_203.out, NB203_197.out, NB198_203.out, NB203_198.out, bh_⟩)
   rintro ⟨v201, gb203⟩ w22 hS0_
   dsimp only at hS0_
   obtain ⟨hS_, h0_, h1_, h2_, h3_, h4_, h5_, h6_, h7_, h8_, h9_, h10_⟩ := hS0_
   have HO202 : Aside0 (Kd.R (Kd.int .i64) 2 w22 w.heap.size (fun _ => True) v201 t200) := ⟨h0_⟩
   have BK203 := Aside0.mk h3_
   have GW203 := Aside0.mk h4_
   have GE203 := Aside0.mk h5_
   have NB197_203 := Aside0.mk h6_
   have NB203_197 := Aside0.mk h7_
   have NB198_203 := Aside0.mk h8_
   have NB203_198 := Aside0.mk h9_
   replace BK197 := Aside0.mk h1_
   replace BK198 := Aside0.mk h2_
   replace HB := Aside0.mk h10_
   clear h0_ h1_ h2_ h3_ h4_ h5_ h6_ h7_ h8_ h9_ h10_
   have hHeld := hS_
   obtain ⟨Ao23, co23, eo23⟩ := Kd.R_slice HO202.out
   (first | subst eo23 | (injection eo23 with f1_ f2_ f3_; have f4_ := f1_.symm; have f5_ := f3_.symm; clear f1_ f2_ f3_; subst f4_; subst f5_))
   refine nq_ ?_
   refine oa_ 9 none (bl_ 10 1023) HT_ fun K hK => ?_
   have hs24 : w22.cell? ⟨gb203, 0, none⟩ = some (.int .i64 0) := (blk_cell BK203.out 0).trans rfl
   have hfs24 := blk_frozen BK203.out 0
   have hns24_0 := NB197_203.out
   have hns24_1 := NB198_203.out
   have hms24_0 := NB203_197.out
   have hms24_1 := NB203_198.out
   have hs25 : w22.cell? ⟨gb203, 1, none⟩ = some (.int .i64 0) := (blk_cell BK203.out 1).trans rfl
   have hfs25 := blk_frozen BK203.out 1
   have hns25_0 := NB197_203.out
   have hns25_1 := NB198_203.out
   have hms25_0 := NB203_197.out
   have hms25_1 := NB203_198.out
   have hs26 : w22.cell? ⟨gb203, 2, none⟩ = some (.int .i64 0) := (blk_cell BK203.out 2).trans rfl
   have hfs26 := blk_frozen BK203.out 2
   have hns26_0 := NB197_203.out
   have hns26_1 := NB198_203.out
   have hms26_0 := NB203_197.out
   have hms26_1 := NB203_198.out
   have hs27 : w22.cell? ⟨gb203, 3, none⟩ = some (.int .i64 0) := (blk_cell BK203.out 3).trans rfl
   have hfs27 := blk_frozen BK203.out 3
   have hns27_0 := NB197_203.out
   have hns27_1 := NB198_203.out
   have hms27_0 := NB203_197.out
   have hms27_1 := NB203_198.out
   have hs28 : w22.cell? ⟨gb203, 4, none⟩ = some (.int .i64 0) := (blk_cell BK203.out 4).trans rfl
   have hfs28 := blk_frozen BK203.out 4
   have hns28_0 := NB197_203.out
   have hns28_1 := NB198_203.out
   have hms28_0 := NB203_197.out
   have hms28_1 := NB203_198.out
   have hs29 : w22.cell? ⟨gb203, 5, none⟩ = some (.int .u64 0) := (blk_cell BK203.out 5).trans rfl
   have hfs29 := blk_frozen BK203.out 5
   have hns29_0 := NB197_203.out
   have hns29_1 := NB198_203.out
   have hms29_0 := NB203_197.out
   have hms29_1 := NB203_198.out
   have hs30 : w22.cell? ⟨gb203, 6, none⟩ = some (.int .i64 0) := (blk_cell BK203.out 6).trans rfl
   have hfs30 := blk_frozen BK203.out 6
   have hns30_0 := NB197_203.out
   have hns30_1 := NB198_203.out
   have hms30_0 := NB203_197.out
   have hms30_1 := NB203_198.out
   have hs31 : w22.cell? ⟨gb203, 7, none⟩ = some (.slice none 0 0) := (blk_cell BK203.out 7).trans rfl
   have hfs31 := blk_frozen BK203.out 7
   have hns31_0 := NB197_203.out
   have hns31_1 := NB198_203.out
   have hms31_0 := NB203_197.out
   have hms31_1 := NB203_198.out
   refine sk_ ?_
   refine hK.out _ _ ⟨((cell_far (p := ⟨gb203, _, none⟩) NB197_203.out _).trans (((cell_far (p := ⟨gb203, _, none⟩) NB197_203.out _).trans (((cell_far (p := ⟨gb203, _, none⟩) NB197_203.out _).trans (((cell_far (p := ⟨gb203, _, none⟩) NB197_203.out _).trans (((cell_far (p := ⟨gb203, _, none⟩) NB197_203.out _).trans (((cell_far (p := ⟨gb203, _, none⟩) NB197_203.out _).trans (((cell_far (p := ⟨gb203, _, none⟩) NB197_203.out _).trans (((cell_far (p := ⟨gb203, _, none⟩) NB197_203.out _).trans (hHeld.1)))))))))))))))), ((cell_far (p := ⟨gb203, _, none⟩) NB197_203.out _).trans (((cell_far (p := ⟨gb203, _, none⟩) NB197_203.out _).trans (((cell_far (p := ⟨gb203, _, none⟩) NB197_203.out _).trans (((cell_far (p := ⟨gb203, _, none⟩) NB197_203.out _).trans (((cell_far (p := ⟨gb203, _, none⟩) NB197_203.out _).trans (((cell_far (p := ⟨gb203, _, none⟩) NB197_203.out _).trans (((cell_far (p := ⟨gb203, _, none⟩) NB197_203.out _).trans (((cell_far (p := ⟨gb203, _, none⟩) NB197_203.out _).trans (hHeld.2.1)))))))))))))))), ((cell_far (p := ⟨gb203, _, none⟩) NB197_203.out _).trans (((cell_far (p := ⟨gb203, _, none⟩) NB197_203.out _).trans (((cell_far (p := ⟨gb203, _, none⟩) NB197_203.out _).trans (((cell_far (p := ⟨gb203, _, none⟩) NB197_203.out _).trans (((cell_far (p := ⟨gb203, _, none⟩) NB197_203.out _).trans (((cell_far (p := ⟨gb203, _, none⟩) NB197_203.out _).trans (((cell_far (p := ⟨gb203, _, none⟩) NB197_203.out _).trans (((cell_far (p := ⟨gb203, _, none⟩) NB197_203.out _).trans (hHeld.2.2.1)))))))))))))))), ((cell_far (p := ⟨gb203, _, none⟩) NB197_203.out _).trans (((cell_far (p := ⟨gb203, _, none⟩) NB197_203.out _).trans (((cell_far (p := ⟨gb203, _, none⟩) NB197_203.out _).trans (((cell_far (p := ⟨gb203, _, none⟩) NB197_203.out _).trans (((cell_far (p := ⟨gb203, _, none⟩) NB197_203.out _).trans (((cell_far (p := ⟨gb203, _, none⟩) NB197_203.out _).trans (((cell_far (p := ⟨gb203, _, none⟩) NB197_203.out _).trans (((cell_far (p := ⟨gb203, _, none⟩) NB197_203.out _).trans (hHeld.2.2.2.1)))))))))))))))), ((cell_far (p := ⟨gb203, _, none⟩) NB197_203.out _).trans (((cell_far (p := ⟨gb203, _, none⟩) NB197_203.out _).trans (((cell_far (p := ⟨gb203, _, none⟩) NB197_203.out _).trans (((cell_far (p := ⟨gb203, _, none⟩) NB197_203.out _).trans (((cell_far (p := ⟨gb203, _, none⟩) NB197_203.out _).trans (((cell_far (p := ⟨gb203, _, none⟩) NB197_203.out _).trans (((cell_far (p := ⟨gb203, _, none⟩) NB197_203.out _).trans (((cell_far (p := ⟨gb203, _, none⟩) NB197_203.out _).trans (hHeld.2.2.2.2.1)))))))))))))))), ((cell_far (p := ⟨gb203, _, none⟩) NB197_203.out _).trans (((cell_far (p := ⟨gb203, _, none⟩) NB197_203.out _).trans (((cell_far (p := ⟨gb203, _, none⟩) NB197_203.out _).trans (((cell_far (p := ⟨gb203, _, none⟩) NB197_203.out _).trans (((cell_far (p := ⟨gb203, _, none⟩) NB197_203.out _).trans (((cell_far (p := ⟨gb203, _, none⟩) NB197_203.out _).trans (((cell_far (p := ⟨gb203, _, none⟩) NB197_203.out _).trans (((cell_far (p := ⟨gb203, _, none⟩) NB197_203.out _).trans (hHeld.2.2.2.2.2.1)))))))))))))))), ((cell_far (p := ⟨gb203, _, none⟩) NB197_203.out _).trans (((cell_far (p := ⟨gb203, _, none⟩) NB197_203.out _).trans (((cell_far (p := ⟨gb203, _, none⟩) NB197_203.out _).trans (((cell_far (p := ⟨gb203, _, none⟩) NB197_203.out _).trans (((cell_far (p := ⟨gb203, _, none⟩) NB197_203.out _).trans (((cell_far (p := ⟨gb203, _, none⟩) NB197_203.out _).trans (((cell_far (p := ⟨gb203, _, none⟩) NB197_203.out _).trans (((cell_far (p := ⟨gb203, _, none⟩) NB197_203.out _).trans (hHeld.2.2.2.2.2.2.1)))))))))))))))), ((cell_far (p := ⟨gb203, _, none⟩) NB197_203.out _).trans (((cell_far (p := ⟨gb203, _, none⟩) NB197_203.out _).trans (((cell_far (p := ⟨gb203, _, none⟩) NB197_203.out _).trans (((cell_far (p := ⟨gb203, _, none⟩) NB197_203.out _).trans (((cell_far (p := ⟨gb203, _, none⟩) NB197_203.out _).trans (((cell_far (p := ⟨gb203, _, none⟩) NB197_203.out _).trans (((cell_far (p := ⟨gb203, _, none⟩) NB197_203.out _).trans (((cell_far (p := ⟨gb203, _, none⟩) NB197_203.out _).trans (hHeld.2.2.2.2.2.2.2))))))))))))))))⟩ (fun hHeld => ?_)
   clear hK K
   refine done_ (done_of HT_.out (by kernel_rfl)) ?_
   try go_wp2
   go_loopg [9, 35] k (fun kq v9 v35 w' => ∃ (x9_1 : List Int) (x35_1 : Int) (x199000_1 : Int) (x199001_1 : Int) (x199002_1 : Int) (x199003_1 : Int) (x199004_1 : Int) (x199005_1 : Int) (x199006_1 : Int) (x204000_1 : Int) (x204001_1 : Int) (x204002_1 : Int) (x204003_1 : Int) (x204004_1 : Int) (x204005_1 : Int) (x204006_1 : Int) (x204007_1 : List Int) (u204007 : Value), v35 = .int .i64 x35_1 ∧ Aside0 (lease_Run.l0 kq x9_1 l1 (l1.length : Int) x35_1 x204000_1 x204001_1 x204002_1 x204003_1 x204004_1 x204005_1 x204006_1 x204007_1 = some (r1, r2, r3, r4, r5, r6, r7, r8, r9, r10)) ∧ Aside0 (kq ≤ k) ∧ Aside0 (Kd.R (Kd.int .i64) 2 w' w.heap.size (fun k_ => some k_ ≠ (u204007 : Value).ownBlock) v9 x9_1) ∧ Aside0 (Kd.R (Kd.int .i64) 2 w' w.heap.size (fun k_ => some k_ ≠ (v9 : Value).ownBlock) u204007 x204007_1) ∧ Aside0 (w'.heap[gb197]? = some (.cells #[.int .i64 a0_0, .int .i64 a0_1, .int .i64 a0_2, .int .i64 a0_3, .int .i64 a0_4, .int .u64 a0_5, .int .i64 a0_6, (.slice A0_7 l0_7.length c0_7)] 29 (0, 0))) ∧ Aside0 (w'.heap[gb198]? = some (.cells #[.int .i64 x199000_1, .int .i64 x199001_1, .int .i64 x199002_1, .int .i64 x199003_1, .int .i64 x199004_1, .int .u64 x199005_1, .int .i64 x199006_1, (.slice none 0 0)] 29 (0, 0))) ∧ Aside0 (w'.heap[gb203]? = some (.cells #[.int .i64 x204000_1, .int .i64 x204001_1, .int .i64 x204002_1, .int .i64 x204003_1, .int .i64 x204004_1, .int .u64 x204005_1, .int .i64 x204006_1, u204007] 29 (0, 0))) ∧ Aside0 (Below w.heap.size w w'))
   case atStart => exact ⟨(([] : List Int)), (0), (0), (0), (0), (0), (0), (0), (0), (a0_0), (a0_1), (a0_2), (a0_3), (a0_4), (a0_5), (a0_6), (t200), (.slice Ao23 t200.length co23), rf_, H', ⟨Nat.le_refl _⟩, ⟨by first | exact Kd.R_nil _ _ _ _ _ | exact Kd.N_nil _ _ _ _ _ | exact Kd.V_nil _ _ _ _ _ | exact Kd.Q_nil _ _ _ _ _ | exact Kd.S_nil _ _ _ _ _⟩, ⟨by (with_reducible repeat (first | apply Kd.R_alloc | apply Kd.R_drewN | apply Kd.R_drew)); exact Kd.R_mono (rf8_ (g := gb203) (Kd.R_types HO202.out BK203.out (by decide)) (fun _ hk => hk.2)) (fun _ hk => (by simp [Value.ownBlock]))⟩, ⟨(bt_ BK197)⟩, ⟨(bt_ BK198)⟩, ⟨(bp8_ (bq_ BK203))⟩, bw_⟩
   case round =>
    clear H'
    try clear c1
    try clear c4
    try clear c4b0
    try clear c4b1
    try clear c5
    try clear c5b0
    try clear c5b1
    obtain ⟨x9_1, x35_1, x199000_1, x199001_1, x199002_1, x199003_1, x199004_1, x199005_1, x199006_1, x204000_1, x204001_1, x204002_1, x204003_1, x204004_1, x204005_1, x204006_1, x204007_1, u204007, rfl, HA, HK1, HO_9, HO_204007, BK197, BK198, BK203, HB⟩ := hrel
    cases gk with
    | zero => exact absurd HA.out (by simp [lease_Run.l0])
    | succ k1 =>
     have H := HA.out
     clear HA
     simp only [lease_Run.l0] at H
     by_cases c32 : x35_1 < (l1.length : Int)
     ·rw [if_pos c32] at H
      have c32b0 : decide (x35_1 < (l1.length : Int)) = true := decide_eq_true c32
      clear c32
      by_cases c33 : 0 ≤ x35_1
      rotate_left
      ·rw [if_neg c33] at H; exact absurd H (by simp)
      rw [if_pos c33] at H
      have c33b0 : decide (0 ≤ x35_1) = true := decide_eq_true c33
      clear c33
      by_cases c34 : x35_1 < (l1.length : Int)
      rotate_left
      ·rw [if_neg c34] at H; exact absurd H (by simp)
      rw [if_pos c34] at H
      have c34b0 : decide (x35_1 < (l1.length : Int)) = true := decide_eq_true c34
      clear c34
      have H0_ := bo_ H; clear H; obtain ⟨⟨t206, t207, t208, t209, t210, t211, t212, t213, t216, t217⟩, A35, H⟩ := H0_
      try dsimp only at H
      by_cases c36 : t217 = 0
      ·rw [if_pos c36] at H
       have c36b0 : (t217 == 0) = true := beq_iff_eq.mpr c36
       have c36b1 : (t217 != 0) = false := bne_eq_false_iff_eq.mpr c36
       clear c36
       by_cases c37 : x9_1.length < 17592186044416
       rotate_left
       ·rw [if_neg c37] at H; exact absurd H (by simp)
       rw [if_pos c37] at H
       have LMc37 := Aside0.mk c37
       clear c37
       obtain ⟨y219, hy219⟩ : ∃ y_ : List Int, y_ = (x9_1 ++ [t216]) := ⟨_, rfl⟩
       replace H : (lease_Run.l0 k1 y219 l1 (l1.length : Int) (wrap64 (x35_1 + 1)) t206 t207 t208 t209 t210 t211 t212 t213) = some (r1, r2, r3, r4, r5, r6, r7, r8, r9, r10) := by first | (rw [hy219]; with_reducible exact H) | (have H2_ := (Option.bind_some _ _).symm.trans H; rw [hy219]; with_reducible exact H2_) | (have H2_ := (Option.bind_some _ _).symm.trans H; with_reducible exact H2_) | with_reducible exact H | (rw [hy219]; exact H) | exact H
       have Ny219 := Aside0.mk hy219
       clear hy219
       have H' := Aside0.mk H
       clear H
       have p204 : 0 ≤ (x35_1 : Int) := of_decide_eq_true (by first | (with_reducible assumption) | assumption)
       have q204 : x35_1 < (l1.length : Int) := of_decide_eq_true (by first | (with_reducible assumption) | assumption)
       obtain ⟨ad204, e204, hx204_0, hx204_1, hx204_2, hx204_3⟩ := at_T31 HR1.out x35_1 p204 q204
       cases e204
       replace hx204_0 := (HB.out.cell (World.block_lt_of_cell? w _ hx204_0)).trans hx204_0
       replace hx204_1 := (HB.out.cell (World.block_lt_of_cell? w _ hx204_1)).trans hx204_1
       replace hx204_2 := (HB.out.cell (World.block_lt_of_cell? w _ hx204_2)).trans hx204_2
       replace hx204_3 := (HB.out.cell (World.block_lt_of_cell? w _ hx204_3)).trans hx204_3
       replace p204 := eq_true p204
       replace q204 := eq_true q204
       go_wp2_with (first | ((with_reducible refine gate_dst (N := 11) rfl ?_); refine bx_ #[.int .u8 0, .int .i64 0, .int .u64 0, .int .i64 0] 31 ?_; intro gb205 hg w38 BK205 hb; have GW205 := bz_ w hg; have GE205 := GW205; have NB197_205 := bn_ BK197 hg; have NB205_197 := bm_ BK197 hg; have NB198_205 := bn_ BK198 hg; have NB205_198 := bm_ BK198 hg; have NB203_205 := bn_ BK203 hg; have NB205_203 := bm_ BK203 hg; replace HO_9 := rb_ HO_9 hb; replace HO_204007 := rb_ HO_204007 hb; replace BK197 := bb_ BK197 hb; replace BK198 := bb_ BK198 hb; replace BK203 := bb_ BK203 hb; replace HB := bs_ w hb; clear hb hg; replace hn205_197 := NB205_197.out; replace hn197_205 := NB197_205.out; replace hn205_198 := NB205_198.out; replace hn198_205 := NB198_205.out; replace hn205_203 := NB205_203.out; replace hn203_205 := NB203_205.out; replace hc205 := ce4_ BK205; replace hn203_197 := NB203_197.out; replace hn197_203 := NB197_203.out; replace hn203_198 := NB203_198.out; replace hn198_203 := NB198_203.out; replace hc203 := ce8_ BK203; obtain ⟨Ao46, co46, eo46⟩ := Kd.R_slice HO_204007.out; subst eo46) | ((with_reducible refine gate_callee (f := 14) rfl ?_); refine goesA_ (some 42) Try.func14 #[.agg #[.int .i64 x204000_1, .int .i64 x204001_1, .int .i64 x204002_1, .int .i64 x204003_1, .int .i64 x204004_1, .int .u64 x204005_1, .int .i64 x204006_1, .slice Ao46 x204007_1.length co46], .agg #[.int .u8 ((rd_T31 l1 x35_1).f0), .int .i64 ((rd_T31 l1 x35_1).f1), .int .u64 ((rd_T31 l1 x35_1).f2), .int .i64 ((rd_T31 l1 x35_1).f3)]] ?_; (with_reducible refine (lease_Step.calls k1 x204000_1 x204001_1 x204002_1 x204003_1 x204004_1 x204005_1 x204006_1 _ _ x204007_1 ((rd_T31 l1 x35_1).f0) ((rd_T31 l1 x35_1).f1) ((rd_T31 l1 x35_1).f2) ((rd_T31 l1 x35_1).f3) t206 t207 t208 t209 t210 t211 t212 t213 t216 t217 _ ?side1 ?side2 A35.out).mono ?_); (case side1 => refine (Kd.R_reads' (e := 2) (base := w.heap.size) (ok := fun k_ => some k_ ≠ (u9 : Value).ownBlock) (n := x204007_1.length) (c := co46) ?_).2.2; exact (by (with_reducible repeat (first | apply Kd.R_alloc | apply Kd.R_drewN | apply Kd.R_drew)); exact (Kd.R_mono (rf4_ (g := gb205) (Kd.R_types HO_204007.out BK205.out (by decide)) (fun _ hk => hk.2)) (fun _ h_ => h_.1)))); (case side2 => exact (Kd.R_reads' HO_204007.out).2.1); rintro e w47 ⟨v214, rfl, ho0, hb⟩; refine ⟨_, rfl, ?_⟩; have HO215 := Aside0.mk (Kd.R_lower (Kd.R_new' (Kd.R_new' ho0 (Kd.R_lt (by (with_reducible repeat (first | apply Kd.R_alloc | apply Kd.R_drewN | apply Kd.R_drew)); exact (Kd.R_mono (rf4_ (g := gb205) (Kd.R_types HO_9.out BK205.out (by decide)) (fun _ hk => hk.2)) (fun _ h_ => h_.1))))) (Kd.R_lt (by (with_reducible repeat (first | apply Kd.R_alloc | apply Kd.R_drewN | apply Kd.R_drew)); exact (Kd.R_mono (rf4_ (g := gb205) (Kd.R_types HO_204007.out BK205.out (by decide)) (fun _ hk => hk.2)) (fun _ h_ => h_.1))))) (below_size bh_)); replace HO_9 := Aside0.mk (Kd.R_elder' (by (with_reducible repeat (first | apply Kd.R_alloc | apply Kd.R_drewN | apply Kd.R_drew)); exact (Kd.R_mono (rf4_ (g := gb205) (Kd.R_types HO_9.out BK205.out (by decide)) (fun _ hk => hk.2)) (fun _ h_ => h_.1))) (Kd.R_base ho0) hb); replace HO_204007 := Aside0.mk (Kd.R_elder' (by (with_reducible repeat (first | apply Kd.R_alloc | apply Kd.R_drewN | apply Kd.R_drew)); exact (Kd.R_mono (rf4_ (g := gb205) (Kd.R_types HO_204007.out BK205.out (by decide)) (fun _ hk => hk.2)) (fun _ h_ => h_.1))) (Kd.R_base ho0) hb); replace BK197 := bf_ BK197 hb; replace BK198 := bf_ BK198 hb; replace BK203 := bf_ BK203 hb; replace BK205 := Aside0.mk (blk_below (g := gb205) (o := .cells #[.int .u8 ((rd_T31 l1 x35_1).f0), .int .i64 ((rd_T31 l1 x35_1).f1), .int .u64 ((rd_T31 l1 x35_1).f2), .int .i64 ((rd_T31 l1 x35_1).f3)] 31 (0, 0)) (bp4_ (bq_ BK205)) hb); replace HB := bs_ w hb; (try clear hb); (try clear hb2); (try clear hk); (try clear hi); (try clear ho0)) | ((with_reducible refine gate_dst (N := 12) rfl ?_); refine bx_ #[.int .i64 0, .int .i64 0, .int .i64 0, .int .i64 0, .int .i64 0, .int .u64 0, .int .i64 0, .slice none 0 0] 29 ?_; intro gb218 hg w48 BK218 hb; have GW218 := bz_ w hg; have GE218 := GW218; have NB197_218 := bn_ BK197 hg; have NB218_197 := bm_ BK197 hg; have NB198_218 := bn_ BK198 hg; have NB218_198 := bm_ BK198 hg; have NB203_218 := bn_ BK203 hg; have NB218_203 := bm_ BK203 hg; have NB205_218 := bn_ BK205 hg; have NB218_205 := bm_ BK205 hg; replace HO_9 := rb_ HO_9 hb; replace HO_204007 := rb_ HO_204007 hb; replace HO215 := rb_ HO215 hb; replace BK197 := bb_ BK197 hb; replace BK198 := bb_ BK198 hb; replace BK203 := bb_ BK203 hb; replace BK205 := bb_ BK205 hb; replace HB := bs_ w hb; clear hb hg; replace hn218_197 := NB218_197.out; replace hn197_218 := NB197_218.out; replace hn218_198 := NB218_198.out; replace hn198_218 := NB198_218.out; replace hn218_203 := NB218_203.out; replace hn203_218 := NB203_218.out; replace hn218_205 := NB218_205.out; replace hn205_218 := NB205_218.out; replace hc218 := ce8_ BK218; obtain ⟨Ao54, co54, eo54⟩ := Kd.R_slice HO215.out; subst eo54; replace hc203 := ce8_ BK203) | ((with_reducible refine gate_builtin (b := .append) (xs := #[.tmp 51, .tmp 53]) rfl ?_); at_builtin; refine Kd.R_append (Kd.int .i64) (w0 := w) w.heap.size rfl (.tmp 51) (.tmp 53) 27 2 (.int .i64 0) 8 rfl Try.underlying27 info2 rfl (by decide) (by omega) u9 x9_1 t216 [.int .i64 t216] (fun k_ => some k_ ≠ (.slice Ao46 x204007_1.length co46 : Value).ownBlock ∧ some k_ ≠ (.slice Ao54 t213.length co54 : Value).ownBlock) (fun _ => False) rfl (by first | (go_simp; done) | (go_simp; rfl)) ?aP (fun _ hk => hk.elim) ?aF ?aO ?aB ?aS ?aL ?_; (case aP => exact rfl); (case aB => exact bh_); (case aF => exact (fun k_ hk => ⟨Kd.fresh' (Kd.R_lt (by (with_reducible repeat (first | apply Kd.R_alloc | apply Kd.R_drewN | apply Kd.R_drew)); exact (Kd.R_mono (Kd.R_mono (rf8_ (g := gb203) (rf8_ (g := gb218) (Kd.R_types (Kd.R_types HO_204007.out BK218.out (by decide)) BK203.out (by decide)) (fun _ hk => hk.1.2)) (fun _ hk => hk.2)) (fun _ h_ => h_.1)) (fun _ h_ => h_.1)))) k_ hk, Kd.fresh' (Kd.R_lt (by (with_reducible repeat (first | apply Kd.R_alloc | apply Kd.R_drewN | apply Kd.R_drew)); exact (Kd.R_mono (Kd.R_mono (rf8_ (g := gb203) (rf8_ (g := gb218) (Kd.R_types (Kd.R_types HO215.out BK218.out (by decide)) BK203.out (by decide)) (fun _ hk => hk.1.2)) (fun _ hk => hk.2)) (fun _ h_ => h_.1)) (fun _ h_ => h_.1)))) k_ hk⟩)); (case aO => exact (by (with_reducible repeat (first | apply Kd.R_alloc | apply Kd.R_drewN | apply Kd.R_drew)); exact Kd.R_mono (rf8_ (g := gb203) (rf8_ (g := gb218) (Kd.R_types (Kd.R_types HO_9.out BK218.out (by decide)) BK203.out (by decide)) (fun _ hk => hk.1.2)) (fun _ hk => hk.2)) (fun _ hk => ⟨hk.1.1.1, hk.1.1.2⟩))); (case aS => exact (below_size bh_)); (case aL => have := LMc37.out; omega); intro v220 w56 ho hb hg hat; rw [← Ny219.out] at ho; have HO221 := Aside0.mk (ho); replace HO_204007 := Aside0.mk (Kd.R_after (ok := (fun k_ => some k_ ≠ (.slice Ao54 t213.length co54 : Value).ownBlock)) (by (with_reducible repeat (first | apply Kd.R_alloc | apply Kd.R_drewN | apply Kd.R_drew)); exact Kd.R_mono (rf8_ (g := gb203) (rf8_ (g := gb218) (Kd.R_types (Kd.R_types HO_204007.out BK218.out (by decide)) BK203.out (by decide)) (fun _ hk => hk.1.2)) (fun _ hk => hk.2)) (fun _ hk => ⟨hk.1.1.2, hk.1.1.1⟩)) hg hat); replace BK197 := Aside0.mk (blk_grown (g := gb197) (o := .cells #[.int .i64 a0_0, .int .i64 a0_1, .int .i64 a0_2, .int .i64 a0_3, .int .i64 a0_4, .int .u64 a0_5, .int .i64 a0_6, .slice A0_7 l0_7.length c0_7] 29 (0, 0)) (bt_ BK197) hg (Kd.R_ne HO_9.out BK197.out (by decide))); replace BK198 := Aside0.mk (blk_grown (g := gb198) (o := .cells #[.int .i64 x199000_1, .int .i64 x199001_1, .int .i64 x199002_1, .int .i64 x199003_1, .int .i64 x199004_1, .int .u64 x199005_1, .int .i64 x199006_1, .slice none 0 0] 29 (0, 0)) (bt_ BK198) hg (Kd.R_ne HO_9.out BK198.out (by decide))); replace BK205 := Aside0.mk (blk_grown (g := gb205) (o := .cells #[.int .u8 ((rd_T31 l1 x35_1).f0), .int .i64 ((rd_T31 l1 x35_1).f1), .int .u64 ((rd_T31 l1 x35_1).f2), .int .i64 ((rd_T31 l1 x35_1).f3)] 31 (0, 0)) (bt_ BK205) hg (Kd.R_ne HO_9.out BK205.out (by decide))); replace HO215 := Aside0.mk (Kd.R_after (ok := (fun k_ => some k_ ≠ (.slice Ao46 x204007_1.length co46 : Value).ownBlock)) (by (with_reducible repeat (first | apply Kd.R_alloc | apply Kd.R_drewN | apply Kd.R_drew)); exact Kd.R_mono (rf8_ (g := gb203) (rf8_ (g := gb218) (Kd.R_types (Kd.R_types HO215.out BK218.out (by decide)) BK203.out (by decide)) (fun _ hk => hk.1.2)) (fun _ hk => hk.2)) (fun _ hk => ⟨hk.1.1.2, hk.1.1.1.2⟩)) hg hat); replace BK203 := Aside0.mk (blk_grown (g := gb203) (o := .cells #[.int .i64 t206, .int .i64 t207, .int .i64 t208, .int .i64 t209, .int .i64 t210, .int .u64 t211, .int .i64 t212, .slice Ao54 t213.length co54] 29 (0, 0)) (bp8_ (bt_ BK203)) hg (Kd.R_ne HO_9.out BK203.out (by decide))); replace BK218 := Aside0.mk (blk_grown (g := gb218) (o := .cells #[.int .i64 t206, .int .i64 t207, .int .i64 t208, .int .i64 t209, .int .i64 t210, .int .u64 t211, .int .i64 t212, .slice Ao54 t213.length co54] 29 (0, 0)) (fr8_ (bp8_ (bq_ BK218)) NB218_203.out) hg (Kd.R_ne HO_9.out BK218.out (by decide))); replace HB := Aside0.mk (hb); clear HO_9; clear ho hb hg hat))
       go_roundg k1
       case measure => have := HK1.out; omega
       case rel => exact ⟨(y219), (wrap64 (x35_1 + 1)), (x199000_1), (x199001_1), (x199002_1), (x199003_1), (x199004_1), (x199005_1), (x199006_1), (t206), (t207), (t208), (t209), (t210), (t211), (t212), (t213), (.slice Ao54 t213.length co54), rf_, H', ⟨by have := HK1.out; omega⟩, ⟨by (with_reducible repeat (first | apply Kd.R_alloc | apply Kd.R_drewN | apply Kd.R_drew)); exact Kd.R_mono HO221.out (fun _ hk => hk.2)⟩, ⟨by (with_reducible repeat (first | apply Kd.R_alloc | apply Kd.R_drewN | apply Kd.R_drew)); exact Kd.R_mono HO215.out (fun _ hk => hk.2)⟩, ⟨bq_ BK197⟩, ⟨bq_ BK198⟩, ⟨bq_ BK203⟩, bw_⟩
      ·rw [if_neg c36] at H
       have c36b0 : (t217 == 0) = false := beq_eq_false_iff_ne.mpr c36
       have c36b1 : (t217 != 0) = true := bne_iff_ne.mpr c36
       simp only [Option.some.injEq, Prod.mk.injEq] at H
       obtain ⟨rfl, rfl, rfl, rfl, rfl, rfl, rfl, rfl, rfl, rfl⟩ := H
       have p204 : 0 ≤ (x35_1 : Int) := of_decide_eq_true (by first | (with_reducible assumption) | assumption)
       have q204 : x35_1 < (l1.length : Int) := of_decide_eq_true (by first | (with_reducible assumption) | assumption)
       obtain ⟨ad204, e204, hx204_0, hx204_1, hx204_2, hx204_3⟩ := at_T31 HR1.out x35_1 p204 q204
       cases e204
       replace hx204_0 := (HB.out.cell (World.block_lt_of_cell? w _ hx204_0)).trans hx204_0
       replace hx204_1 := (HB.out.cell (World.block_lt_of_cell? w _ hx204_1)).trans hx204_1
       replace hx204_2 := (HB.out.cell (World.block_lt_of_cell? w _ hx204_2)).trans hx204_2
       replace hx204_3 := (HB.out.cell (World.block_lt_of_cell? w _ hx204_3)).trans hx204_3
       replace p204 := eq_true p204
       replace q204 := eq_true q204
       go_wp2_with (first | ((with_reducible refine gate_dst (N := 11) rfl ?_); refine bx_ #[.int .u8 0, .int .i64 0, .int .u64 0, .int .i64 0] 31 ?_; intro gb205 hg w57 BK205 hb; have GW205 := bz_ w hg; have GE205 := GW205; have NB197_205 := bn_ BK197 hg; have NB205_197 := bm_ BK197 hg; have NB198_205 := bn_ BK198 hg; have NB205_198 := bm_ BK198 hg; have NB203_205 := bn_ BK203 hg; have NB205_203 := bm_ BK203 hg; replace HO_9 := rb_ HO_9 hb; replace HO_204007 := rb_ HO_204007 hb; replace BK197 := bb_ BK197 hb; replace BK198 := bb_ BK198 hb; replace BK203 := bb_ BK203 hb; replace HB := bs_ w hb; clear hb hg; replace hn205_197 := NB205_197.out; replace hn197_205 := NB197_205.out; replace hn205_198 := NB205_198.out; replace hn198_205 := NB198_205.out; replace hn205_203 := NB205_203.out; replace hn203_205 := NB203_205.out; replace hc205 := ce4_ BK205; replace hn203_197 := NB203_197.out; replace hn197_203 := NB197_203.out; replace hn203_198 := NB203_198.out; replace hn198_203 := NB198_203.out; replace hc203 := ce8_ BK203; obtain ⟨Ao65, co65, eo65⟩ := Kd.R_slice HO_204007.out; subst eo65) | ((with_reducible refine gate_callee (f := 14) rfl ?_); refine goesA_ (some 42) Try.func14 #[.agg #[.int .i64 x204000_1, .int .i64 x204001_1, .int .i64 x204002_1, .int .i64 x204003_1, .int .i64 x204004_1, .int .u64 x204005_1, .int .i64 x204006_1, .slice Ao65 x204007_1.length co65], .agg #[.int .u8 ((rd_T31 l1 x35_1).f0), .int .i64 ((rd_T31 l1 x35_1).f1), .int .u64 ((rd_T31 l1 x35_1).f2), .int .i64 ((rd_T31 l1 x35_1).f3)]] ?_; (with_reducible refine (lease_Step.calls k1 x204000_1 x204001_1 x204002_1 x204003_1 x204004_1 x204005_1 x204006_1 _ _ x204007_1 ((rd_T31 l1 x35_1).f0) ((rd_T31 l1 x35_1).f1) ((rd_T31 l1 x35_1).f2) ((rd_T31 l1 x35_1).f3) t206 t207 t208 t209 t210 t211 t212 t213 t216 t217 _ ?side1 ?side2 A35.out).mono ?_); (case side1 => refine (Kd.R_reads' (e := 2) (base := w.heap.size) (ok := fun k_ => some k_ ≠ (u9 : Value).ownBlock) (n := x204007_1.length) (c := co65) ?_).2.2; exact (by (with_reducible repeat (first | apply Kd.R_alloc | apply Kd.R_drewN | apply Kd.R_drew)); exact (Kd.R_mono (rf4_ (g := gb205) (Kd.R_types HO_204007.out BK205.out (by decide)) (fun _ hk => hk.2)) (fun _ h_ => h_.1)))); (case side2 => exact (Kd.R_reads' HO_204007.out).2.1); rintro e w66 ⟨v214, rfl, ho0, hb⟩; refine ⟨_, rfl, ?_⟩; have HO215 := Aside0.mk (Kd.R_lower (Kd.R_new' (Kd.R_new' ho0 (Kd.R_lt (by (with_reducible repeat (first | apply Kd.R_alloc | apply Kd.R_drewN | apply Kd.R_drew)); exact (Kd.R_mono (rf4_ (g := gb205) (Kd.R_types HO_9.out BK205.out (by decide)) (fun _ hk => hk.2)) (fun _ h_ => h_.1))))) (Kd.R_lt (by (with_reducible repeat (first | apply Kd.R_alloc | apply Kd.R_drewN | apply Kd.R_drew)); exact (Kd.R_mono (rf4_ (g := gb205) (Kd.R_types HO_204007.out BK205.out (by decide)) (fun _ hk => hk.2)) (fun _ h_ => h_.1))))) (below_size bh_)); replace HO_9 := Aside0.mk (Kd.R_elder' (by (with_reducible repeat (first | apply Kd.R_alloc | apply Kd.R_drewN | apply Kd.R_drew)); exact (Kd.R_mono (rf4_ (g := gb205) (Kd.R_types HO_9.out BK205.out (by decide)) (fun _ hk => hk.2)) (fun _ h_ => h_.1))) (Kd.R_base ho0) hb); replace HO_204007 := Aside0.mk (Kd.R_elder' (by (with_reducible repeat (first | apply Kd.R_alloc | apply Kd.R_drewN | apply Kd.R_drew)); exact (Kd.R_mono (rf4_ (g := gb205) (Kd.R_types HO_204007.out BK205.out (by decide)) (fun _ hk => hk.2)) (fun _ h_ => h_.1))) (Kd.R_base ho0) hb); replace BK197 := bf_ BK197 hb; replace BK198 := bf_ BK198 hb; replace BK203 := bf_ BK203 hb; replace BK205 := Aside0.mk (blk_below (g := gb205) (o := .cells #[.int .u8 ((rd_T31 l1 x35_1).f0), .int .i64 ((rd_T31 l1 x35_1).f1), .int .u64 ((rd_T31 l1 x35_1).f2), .int .i64 ((rd_T31 l1 x35_1).f3)] 31 (0, 0)) (bp4_ (bq_ BK205)) hb); replace HB := bs_ w hb; (try clear hb); (try clear hb2); (try clear hk); (try clear hi); (try clear ho0)) | ((with_reducible refine gate_dst (N := 12) rfl ?_); refine bx_ #[.int .i64 0, .int .i64 0, .int .i64 0, .int .i64 0, .int .i64 0, .int .u64 0, .int .i64 0, .slice none 0 0] 29 ?_; intro gb218 hg w67 BK218 hb; have GW218 := bz_ w hg; have GE218 := GW218; have NB197_218 := bn_ BK197 hg; have NB218_197 := bm_ BK197 hg; have NB198_218 := bn_ BK198 hg; have NB218_198 := bm_ BK198 hg; have NB203_218 := bn_ BK203 hg; have NB218_203 := bm_ BK203 hg; have NB205_218 := bn_ BK205 hg; have NB218_205 := bm_ BK205 hg; replace HO_9 := rb_ HO_9 hb; replace HO_204007 := rb_ HO_204007 hb; replace HO215 := rb_ HO215 hb; replace BK197 := bb_ BK197 hb; replace BK198 := bb_ BK198 hb; replace BK203 := bb_ BK203 hb; replace BK205 := bb_ BK205 hb; replace HB := bs_ w hb; clear hb hg; replace hn218_197 := NB218_197.out; replace hn197_218 := NB197_218.out; replace hn218_198 := NB218_198.out; replace hn198_218 := NB198_218.out; replace hn218_203 := NB218_203.out; replace hn203_218 := NB203_218.out; replace hn218_205 := NB218_205.out; replace hn205_218 := NB205_218.out; replace hc218 := ce8_ BK218; obtain ⟨Ao73, co73, eo73⟩ := Kd.R_slice HO215.out; subst eo73; replace hn198_197 := NB198_197.out; replace hn197_198 := NB197_198.out; replace hc198 := ce8_ BK198))
       refine bodyPost_ret (results_ctt rfl _ _ gb198 29 #[.int .i64 0, .int .i64 0, .int .i64 0, .int .i64 0, .int .i64 0, .int .u64 0, .int .i64 0, .slice none 0 0] (0, 0) _ rfl (bp8_ (bt_ BK198)) Try.underlying29 rfl (by kernel_rfl)) rfl ?_
       exact ⟨_, _, by first | rfl | (simp [errW_none, errW_some] <;> rfl) | (simp [*, errW_none, errW_some] <;> rfl), by first | exact Kd.R_nil _ _ _ _ _ | exact Kd.N_nil _ _ _ _ _ | exact Kd.V_nil _ _ _ _ _ | exact Kd.Q_nil _ _ _ _ _ | exact Kd.S_nil _ _ _ _ _, by first | exact Kd.R_nil _ _ _ _ _ | exact Kd.N_nil _ _ _ _ _ | exact Kd.V_nil _ _ _ _ _ | exact Kd.Q_nil _ _ _ _ _ | exact Kd.S_nil _ _ _ _ _, by repeat (first | (with_reducible first | exact HB.out | apply below_alloc | apply pw_below_drewN | apply below_drew1 | refine below_set ?_ GE197.out | refine below_set ?_ GE198.out | refine below_set ?_ GE203.out | refine below_set ?_ GE205.out | refine below_set ?_ GE218.out) | exact HB.out)⟩
     ·rw [if_neg c32] at H
      have c32b0 : decide (x35_1 < (l1.length : Int)) = false := decide_eq_false c32
      clear c32
      simp only [Option.some.injEq, Prod.mk.injEq] at H
      obtain ⟨rfl, rfl, rfl, rfl, rfl, rfl, rfl, rfl, rfl, rfl⟩ := H
      replace hn203_197 := NB203_197.out
      replace hn197_203 := NB197_203.out
      replace hn203_198 := NB203_198.out
      replace hn198_203 := NB198_203.out
      replace hc203 := ce8_ BK203
      replace hn198_197 := NB198_197.out
      replace hn197_198 := NB197_198.out
      replace hc198 := ce8_ BK198
      obtain ⟨Ao81, co81, eo81⟩ := Kd.R_slice HO_204007.out
      subst eo81
      go_wp2
      refine bodyPost_ret (results_ctt rfl _ _ gb198 29 #[.int .i64 x204000_1, .int .i64 x204001_1, .int .i64 x204002_1, .int .i64 x204003_1, .int .i64 x204004_1, .int .u64 x204005_1, .int .i64 x204006_1, .slice Ao81 x204007_1.length co81] (0, 0) _ rfl (bp8_ (bq_ BK198)) Try.underlying29 rfl (by kernel_rfl)) rfl ?_
      exact ⟨_, _, by first | rfl | (simp [errW_none, errW_some] <;> rfl) | (simp [*, errW_none, errW_some] <;> rfl), by (with_reducible repeat (first | apply Kd.R_alloc | apply Kd.R_drewN | apply Kd.R_drew)); exact Kd.R_mono (rf8_ (g := gb198) (Kd.R_types HO_204007.out BK198.out (by decide)) (fun _ hk => hk.2)) (fun _ hk => hk.1), by (with_reducible repeat (first | apply Kd.R_alloc | apply Kd.R_drewN | apply Kd.R_drew)); exact Kd.R_mono (rf8_ (g := gb198) (Kd.R_types HO_9.out BK198.out (by decide)) (fun _ hk => hk.2)) (fun _ hk => hk.1), by repeat (first | (with_reducible first | exact HB.out | apply below_alloc | apply pw_below_drewN | apply below_drew1 | refine below_set ?_ GE197.out | refine below_set ?_ GE198.out | refine below_set ?_ GE203.out) | exact HB.out)⟩
 ·rw [if_neg c4] at H
  have c4b0 : (t199 == 0) = false := beq_eq_false_iff_ne.mpr c4
  have c4b1 : (t199 != 0) = true := bne_iff_ne.mpr c4
  simp only [Option.some.injEq, Prod.mk.injEq] at H
  obtain ⟨rfl, rfl, rfl, rfl, rfl, rfl, rfl, rfl, rfl, rfl⟩ := H
  go_enter Try.func16, Try.ntmps16
  go_wp2_with (first | ((with_reducible refine gate_dst (N := 2) rfl ?_); refine bx_ #[.int .i64 a0_0, .int .i64 a0_1, .int .i64 a0_2, .int .i64 a0_3, .int .i64 a0_4, .int .u64 a0_5, .int .i64 a0_6, .slice A0_7 l0_7.length c0_7] 29 ?_; intro gb197 hg w82 BK197 hb; have GW197 := bz_ w hg; have GE197 := GW197; replace HB := bs_ w hb; clear hb hg) | ((with_reducible refine gate_dst (N := 4) rfl ?_); refine bx_ #[.int .i64 0, .int .i64 0, .int .i64 0, .int .i64 0, .int .i64 0, .int .u64 0, .int .i64 0, .slice none 0 0] 29 ?_; intro gb198 hg w83 BK198 hb; have GW198 := bz_ w hg; have GE198 := GW198; have NB197_198 := bn_ BK197 hg; have NB198_197 := bm_ BK197 hg; replace BK197 := bb_ BK197 hb; replace HB := bs_ w hb; clear hb hg; replace hn197_198 := NB197_198.out; replace hn198_197 := NB198_197.out; replace hc197 := ce8_ BK197) | ((with_reducible refine gate_callee (f := 27) rfl ?_); refine goesA_ (some 16) Try.func27 #[.agg #[.int .i64 a0_0, .int .i64 a0_1, .int .i64 a0_2, .int .i64 a0_3, .int .i64 a0_4, .int .u64 a0_5, .int .i64 a0_6, .slice A0_7 l0_7.length c0_7]] ?_; (with_reducible refine (lease_Check.calls k a0_0 a0_1 a0_2 a0_3 a0_4 a0_5 a0_6 _ _ l0_7 t199 _ ?side1 ?side2 A3.out).mono ?_); (case side1 => exact cs_ HR0_7 HB); (case side2 => exact HC0_7.out); rintro e w86 ⟨rfl, hb⟩; refine ⟨_, rfl, ?_⟩; replace BK197 := bb_ BK197 hb; replace BK198 := bb_ BK198 hb; replace HB := bs_ w hb; clear hb; replace hc198 := ce8_ BK198))
  refine bodyPost_ret (results_ctt rfl _ _ gb198 29 #[.int .i64 0, .int .i64 0, .int .i64 0, .int .i64 0, .int .i64 0, .int .u64 0, .int .i64 0, .slice none 0 0] (0, 0) _ rfl (bp8_ (bq_ BK198)) Try.underlying29 rfl (by kernel_rfl)) rfl ?_
  exact ⟨_, _, by first | rfl | (simp [errW_none, errW_some] <;> rfl) | (simp [*, errW_none, errW_some] <;> rfl), by first | exact Kd.R_nil _ _ _ _ _ | exact Kd.N_nil _ _ _ _ _ | exact Kd.V_nil _ _ _ _ _ | exact Kd.Q_nil _ _ _ _ _ | exact Kd.S_nil _ _ _ _ _, by first | exact Kd.R_nil _ _ _ _ _ | exact Kd.N_nil _ _ _ _ _ | exact Kd.V_nil _ _ _ _ _ | exact Kd.Q_nil _ _ _ _ _ | exact Kd.S_nil _ _ _ _ _, by repeat (first | (with_reducible first | exact HB.out | apply below_alloc | apply pw_below_drewN | apply below_drew1 | refine below_set ?_ GE197.out | refine below_set ?_ GE198.out) | exact HB.out)⟩

end Go.Proofs.Ytbfdpodlnijeoaa.X
