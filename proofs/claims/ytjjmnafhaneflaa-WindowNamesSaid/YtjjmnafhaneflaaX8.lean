-- written by xprint.py, a program of this session over the kit's print
import Derived.Test.YtjjmnafhaneflaaX0
import Derived.Test.YtjjmnafhaneflaaX6
import Derived.Test.YtjjmnafhaneflaaX7
namespace Go.Proofs.Ytjjmnafhaneflaa.X
open Go.RowKit Go.Proofs.YtjjmnafhaneflaaW.PrintWords Go.Proofs.YtjjmnafhaneflaaW.PrintLast Go.Proofs.YtjjmnafhaneflaaW.PrintMore
attribute [local go_sem] max2_int min2_int max_two min_two max_three min_three max_four min_four   -- for this text's walks alone
set_option linter.unusedVariables false
set_option linter.unusedSimpArgs false

/-! ### window_Counts: function 10 -/
def window_Counts.l0 : Nat → List (S56) → List (S58) → Int → Int → Int → Int → Option ((List (S56)) × Int)
  | 0, _, _, _, _, _, _ => none
  | k + 1, x7, x17, x18, x19, x114000, x114001 => if x19 < x18 then (if 0 ≤ x19 then (if x19 < (x17.length : Int) then ((window_begin.f x114000 x114001 ((rd_T58 x17 x19).f0)).bind fun t117 => (if (x7.length : Int) = 0 then (if x7.length < 8796093022208 then ((some (x7 ++ [(⟨t117, 0⟩ : S56)] : List (S56))).bind fun y118 => (if 0 ≤ (wrap64 ((y118.length : Int) - 1)) then (if (wrap64 ((y118.length : Int) - 1)) < (y118.length : Int) then (window_Counts.l0 k (y118.set ((wrap64 ((y118.length : Int) - 1)) : Int).toNat (⟨(rd_T56 y118 (wrap64 ((y118.length : Int) - 1))).f0, wrap64 (((rd_T56 y118 (wrap64 ((y118.length : Int) - 1))).f1) + ((rd_T58 x17 x19).f1))⟩ : S56)) x17 x18 (wrap64 (x19 + 1)) x114000 x114001) else (none)) else (none))) else (none)) else (if 0 ≤ (wrap64 ((x7.length : Int) - 1)) then (if (wrap64 ((x7.length : Int) - 1)) < (x7.length : Int) then (if ((rd_T56 x7 (wrap64 ((x7.length : Int) - 1))).f0) = t117 then (window_Counts.l0 k (x7.set ((wrap64 ((x7.length : Int) - 1)) : Int).toNat (⟨(rd_T56 x7 (wrap64 ((x7.length : Int) - 1))).f0, wrap64 (((rd_T56 x7 (wrap64 ((x7.length : Int) - 1))).f1) + ((rd_T58 x17 x19).f1))⟩ : S56)) x17 x18 (wrap64 (x19 + 1)) x114000 x114001) else (if x7.length < 8796093022208 then ((some (x7 ++ [(⟨t117, 0⟩ : S56)] : List (S56))).bind fun y126 => (if 0 ≤ (wrap64 ((y126.length : Int) - 1)) then (if (wrap64 ((y126.length : Int) - 1)) < (y126.length : Int) then (window_Counts.l0 k (y126.set ((wrap64 ((y126.length : Int) - 1)) : Int).toNat (⟨(rd_T56 y126 (wrap64 ((y126.length : Int) - 1))).f0, wrap64 (((rd_T56 y126 (wrap64 ((y126.length : Int) - 1))).f1) + ((rd_T58 x17 x19).f1))⟩ : S56)) x17 x18 (wrap64 (x19 + 1)) x114000 x114001) else (none)) else (none))) else (none))) else (none)) else (none)))) else (none)) else (none)) else (some (x7, 0))
def window_Counts.f (k : Nat) (a0_0 : Int) (a0_1 : Int) (l1 : List (S58)) : Option ((List (S56)) × Int) := (window_both.f k a0_0 a0_1 l1).bind fun t114 => (if t114 = 0 then (window_Counts.l0 k ([] : List (S56)) l1 (l1.length : Int) 0 a0_0 a0_1) else (some (([] : List (S56)), t114)))
theorem window_Counts.mono_l : ∀ k, (∀ y0 y1 y2 y3 y4 y5, LeO (window_Counts.l0 k y0 y1 y2 y3 y4 y5) (window_Counts.l0 (k + 1) y0 y1 y2 y3 y4 y5))
  | 0 => fun _ _ _ _ _ _ r h => by simp [window_Counts.l0] at h
  | k + 1 => by
    have ih0 := window_Counts.mono_l k
    · intro y0 y1 y2 y3 y4 y5
      unfold window_Counts.l0
      repeat' first
      | (with_reducible exact ih0 _ _ _ _ _ _)
      | (with_reducible exact window_both.mono _ _ _ _)
      | (with_reducible exact LeO.refl _)
      | (with_reducible exact LeO.none _)
      | (with_reducible refine LeO.ite ?_ ?_)
      | (with_reducible refine LeO.bind ?_ (fun _ => ?_))
      | exact ih0 _ _ _ _ _ _
      | exact window_both.mono _ _ _ _
      | exact LeO.none _
      | refine LeO.ite ?_ ?_
      | refine LeO.bind ?_ (fun _ => ?_)
theorem window_Counts.mono : ∀ a0 a1 a2 k, LeO (window_Counts.f k a0 a1 a2) (window_Counts.f (k + 1) a0 a1 a2) := by
  intro a0 a1 a2 k
  have ih0 := window_Counts.mono_l k
  unfold window_Counts.f
  repeat' first
      | (with_reducible exact ih0 _ _ _ _ _ _)
      | (with_reducible exact window_both.mono _ _ _ _)
      | (with_reducible exact LeO.refl _)
      | (with_reducible exact LeO.none _)
      | (with_reducible refine LeO.ite ?_ ?_)
      | (with_reducible refine LeO.bind ?_ (fun _ => ?_))
      | exact ih0 _ _ _ _ _ _
      | exact window_both.mono _ _ _ _
      | exact LeO.none _
      | refine LeO.ite ?_ ?_
      | refine LeO.bind ?_ (fun _ => ?_)
def window_Counts.T11 : Bool × List (List Nat × List Nat) := (true, [([], []), ([], []), ([1], [1]), ([2], [2]), ([0, 3], [0, 3]), ([4], [4]), ([5], [5]), ([], []), ([7], [7]), ([6, 8], [6, 8]), ([0, 3, 0, 1, 2, 3, 4, 5, 6, 7, 8, 9], [0, 3]), ([10, 0, 1, 2, 3, 4, 5, 6, 7, 8, 9], [10]), ([11, 9, 0, 1, 2, 3, 4, 5, 6, 7, 8, 9], [9, 11])])
def window_Counts.B11 : List Nat := [0, 0, 2, 6, 15, 31, 63, 0, 128, 511, 1023, 2047, 4095]
theorem window_Counts.tab11 : rtab .any (opsOf Try.f10 11) = window_Counts.T11 := by kernel_rfl
theorem window_Counts.bits11 : waitsOk window_Counts.T11.2 window_Counts.B11 = true := by kernel_rfl
set_option maxHeartbeats 8000000 in
set_option maxRecDepth 100000 in
theorem window_Counts.calls (k : Nat) (a0_0 : Int) (a0_1 : Int) (A1 : Option Addr) (c1 : Nat) (l1 : List (S58)) (r1 : List (S56)) (r2 : Int) (w : World) (hr1 : Kd.C k58 w A1 l1.length l1) (hc1 : l1.length ≤ c1) (h : window_Counts.f k a0_0 a0_1 l1 = some (r1, r2)) :
  Calls Try.prog 10 #[.agg #[.int .i64 a0_0, .int .i64 a0_1], .slice A1 l1.length c1] w fun e w' => ∃ v0_ : Value, e = .returned (.tuple #[v0_, .int .i64 r2]) ∧ Kd.R k56 56 w' w.heap.size (fun _ => True) v0_ r1 ∧ Below w.heap.size w w' := by
 have hu23 := Try.underlying23
 have hu58 := Try.underlying58
 have hu56 := Try.underlying56
 have HR1 := Aside0.mk hr1
 have HC1 := Aside0.mk hc1
 clear hr1 hc1
 have HB := Aside0.mk (Below.refl w.heap.size w)
 have H : ((window_both.f k a0_0 a0_1 l1).bind fun t114 => (if t114 = 0 then (window_Counts.l0 k ([] : List (S56)) l1 (l1.length : Int) 0 a0_0 a0_1) else (some (([] : List (S56)), t114)))) = some (r1, r2) := h
 clear h
 obtain ⟨t114, A3, H⟩ := bo_ H
 replace H : (if t114 = 0 then (window_Counts.l0 k ([] : List (S56)) l1 (l1.length : Int) 0 a0_0 a0_1) else (some (([] : List (S56)), t114))) = some (r1, r2) := H
 by_cases c4 : t114 = 0
 ·rw [if_pos c4] at H
  have c4b0 : (t114 == 0) = true := beq_iff_eq.mpr c4
  have c4b1 : (t114 != 0) = false := bne_eq_false_iff_eq.mpr c4
  clear c4
  have H' := Aside0.mk H
  clear H
  go_enter Try.func10, Try.ntmps10
  go_wp2_with (first | ((with_reducible refine gate_dst (N := 2) rfl ?_); (try refine ug_ (by rfl) ?_); refine bx_ #[.int .i64 a0_0, .int .i64 a0_1] 23 ?_; intro gb113 hg w5 BK113 hb; have GW113 := bz_ w hg; have GE113 := GW113; replace HB := bs_ w hb; clear hb hg; replace hc113 := ce2_ BK113) | ((with_reducible refine gate_callee (f := 29) rfl ?_); (try refine ug_ (by rfl) ?_); refine goesA_ (some 13) Try.func29 #[.agg #[.int .i64 a0_0, .int .i64 a0_1], .slice A1 l1.length c1] ?_; (with_reducible refine (window_both.calls k a0_0 a0_1 _ _ l1 t114 _ ?side1 ?side2 A3.out).mono ?_); (case side1 => exact cs_ HR1 HB); (case side2 => exact HC1.out); rintro e w7 ⟨rfl, hb⟩; refine ⟨_, rfl, ?_⟩; replace BK113 := bb_ BK113 hb; replace HB := bs_ w hb; clear hb))
  go_loopg [7, 19] k (fun kq v7 v19 w' => ∃ (x7_1 : List (S56)) (x19_1 : Int), v19 = .int .i64 x19_1 ∧ Aside0 (window_Counts.l0 kq x7_1 l1 (l1.length : Int) x19_1 a0_0 a0_1 = some (r1, r2)) ∧ Aside0 (kq ≤ k) ∧ Aside0 (Kd.R k56 56 w' w.heap.size (fun _ => True) v7 x7_1) ∧ Aside0 (w'.heap[gb113]? = some (.cells #[.int .i64 a0_0, .int .i64 a0_1] 23 (0, 0))) ∧ Aside0 (Below w.heap.size w w'))
  case atStart => exact ⟨(([] : List (S56))), (0), rf_, H', ⟨Nat.le_refl _⟩, ⟨by first | exact Kd.R_nil _ _ _ _ _ | exact Kd.N_nil _ _ _ _ _ | exact Kd.V_nil _ _ _ _ _ | exact Kd.Q_nil _ _ _ _ _ | exact Kd.S_nil _ _ _ _ _⟩, ⟨bq_ BK113⟩, bw_⟩
  case round =>
   clear H'
   try clear c1
   try clear c4
   try clear c4b0
   try clear c4b1
   obtain ⟨x7_1, x19_1, rfl, HA, HK1, HO_7, BK113, HB⟩ := hrel
   cases gk with
   | zero => exact absurd HA.out (by simp [window_Counts.l0])
   | succ k1 =>
    have H := HA.out
    clear HA
    simp only [window_Counts.l0] at H
    by_cases c8 : x19_1 < (l1.length : Int)
    ·rw [if_pos c8] at H
     have c8b0 : decide (x19_1 < (l1.length : Int)) = true := decide_eq_true c8
     clear c8
     by_cases c9 : 0 ≤ x19_1
     rotate_left
     ·rw [if_neg c9] at H; exact absurd H (by simp)
     rw [if_pos c9] at H
     have c9b0 : decide (0 ≤ x19_1) = true := decide_eq_true c9
     clear c9
     by_cases c10 : x19_1 < (l1.length : Int)
     rotate_left
     ·rw [if_neg c10] at H; exact absurd H (by simp)
     rw [if_pos c10] at H
     have c10b0 : decide (x19_1 < (l1.length : Int)) = true := decide_eq_true c10
     clear c10
     obtain ⟨t117, A11, H⟩ := bo_ H
     try dsimp only at H
     by_cases c12 : (x7_1.length : Int) = 0
     ·rw [if_pos c12] at H
      have c12b0 : ((x7_1.length : Int) == 0) = true := beq_iff_eq.mpr c12
      have c12b1 : ((x7_1.length : Int) != 0) = false := bne_eq_false_iff_eq.mpr c12
      clear c12
      by_cases c13 : x7_1.length < 8796093022208
      rotate_left
      ·rw [if_neg c13] at H; exact absurd H (by simp)
      rw [if_pos c13] at H
      have LMc13 := Aside0.mk c13
      clear c13
      obtain ⟨y118, hy118⟩ : ∃ y_ : List (S56), y_ = (x7_1 ++ [(⟨t117, 0⟩ : S56)]) := ⟨_, rfl⟩
      replace H : (if 0 ≤ (wrap64 ((y118.length : Int) - 1)) then (if (wrap64 ((y118.length : Int) - 1)) < (y118.length : Int) then (window_Counts.l0 k1 (y118.set ((wrap64 ((y118.length : Int) - 1)) : Int).toNat (⟨(rd_T56 y118 (wrap64 ((y118.length : Int) - 1))).f0, wrap64 (((rd_T56 y118 (wrap64 ((y118.length : Int) - 1))).f1) + ((rd_T58 l1 x19_1).f1))⟩ : S56)) l1 (l1.length : Int) (wrap64 (x19_1 + 1)) a0_0 a0_1) else (none)) else (none)) = some (r1, r2) := by first | (rw [hy118]; with_reducible exact H) | (have H2_ := (Option.bind_some _ _).symm.trans H; rw [hy118]; with_reducible exact H2_) | (have H2_ := (Option.bind_some _ _).symm.trans H; with_reducible exact H2_) | with_reducible exact H | (rw [hy118]; exact H) | exact H
      have Ny118 := Aside0.mk hy118
      clear hy118
      obtain ⟨ji14, hji14⟩ : ∃ j_ : Int, (wrap64 ((y118.length : Int) - 1)) = j_ := ⟨_, rfl⟩
      replace H : (if 0 ≤ (ji14) then (if (ji14) < (y118.length : Int) then (window_Counts.l0 k1 (y118.set ((ji14) : Int).toNat (⟨(rd_T56 y118 (ji14)).f0, wrap64 (((rd_T56 y118 (ji14)).f1) + ((rd_T58 l1 x19_1).f1))⟩ : S56)) l1 (l1.length : Int) (wrap64 (x19_1 + 1)) a0_0 a0_1) else (none)) else (none)) = some (r1, r2) := by first | (rw [hji14] at H; exact H) | (simp only [hji14] at H ⊢; exact H)
      (try rw [hji14] at A11)
      have hji14w : (IntKind.i64.wrap ((y118.length : Int) - 1)) = ji14 := (i64_w _).trans hji14
      by_cases c15 : 0 ≤ (ji14)
      rotate_left
      ·rw [if_neg c15] at H; exact absurd H (by simp)
      rw [if_pos c15] at H
      have c15b0 : decide (0 ≤ (ji14)) = true := decide_eq_true c15
      clear c15
      by_cases c16 : (ji14) < (y118.length : Int)
      rotate_left
      ·rw [if_neg c16] at H; exact absurd H (by simp)
      rw [if_pos c16] at H
      have c16b0 : decide ((ji14) < (y118.length : Int)) = true := decide_eq_true c16
      clear c16
      obtain ⟨y122, hy122⟩ : ∃ y_ : List (S56), y_ = (y118.set ((ji14) : Int).toNat (⟨(rd_T56 y118 (ji14)).f0, wrap64 (((rd_T56 y118 (ji14)).f1) + ((rd_T58 l1 x19_1).f1))⟩ : S56)) := ⟨_, rfl⟩
      replace H : (window_Counts.l0 k1 y122 l1 (l1.length : Int) (wrap64 (x19_1 + 1)) a0_0 a0_1) = some (r1, r2) := by first | (rw [hy122]; with_reducible exact H) | (have H2_ := (Option.bind_some _ _).symm.trans H; rw [hy122]; with_reducible exact H2_) | (have H2_ := (Option.bind_some _ _).symm.trans H; with_reducible exact H2_) | with_reducible exact H | (rw [hy122]; exact H) | exact H
      have Ny122 := Aside0.mk hy122
      clear hy122
      have H' := Aside0.mk H
      clear H
      have p115 : 0 ≤ (x19_1 : Int) := of_decide_eq_true (by first | (with_reducible assumption) | assumption)
      have q115 : x19_1 < (l1.length : Int) := of_decide_eq_true (by first | (with_reducible assumption) | assumption)
      obtain ⟨ad115, e115, hx115_0, hx115_1⟩ := at_T58 HR1.out x19_1 p115 q115
      cases e115
      replace hx115_0 := (HB.out.cell (World.block_lt_of_cell? w _ hx115_0)).trans hx115_0
      replace hx115_1 := (HB.out.cell (World.block_lt_of_cell? w _ hx115_1)).trans hx115_1
      replace p115 := eq_true p115
      replace q115 := eq_true q115
      try go_wp2_with (first | ((with_reducible refine gate_dst (N := 9) rfl ?_); (try refine ug_ (by rfl) ?_); refine bx_ #[.int .u64 0, .int .i64 0] 58 ?_; intro gb116 hg w18 BK116 hb; have GW116 := bz_ w hg; have GE116 := GW116; have NB113_116 := bn_ BK113 hg; have NB116_113 := bm_ BK113 hg; replace HO_7 := rb_ HO_7 hb; replace BK113 := bb_ BK113 hb; replace HB := bs_ w hb; clear hb hg; replace hn116_113 := NB116_113.out; replace hn113_116 := NB113_116.out; replace hc116 := ce2_ BK116; replace hc113 := ce2_ BK113) | ((with_reducible refine gate_callee (f := 30) rfl ?_); (try refine ug_ (by rfl) ?_); refine goesA_ (some 26) Try.func30 #[.agg #[.int .i64 a0_0, .int .i64 a0_1], .int .u64 ((rd_T58 l1 x19_1).f0)] ?_; (with_reducible refine (window_begin.calls a0_0 a0_1 ((rd_T58 l1 x19_1).f0) t117 _ A11.out).mono ?_); rintro e w22 ⟨rfl, hb⟩; refine ⟨_, rfl, ?_⟩; replace HO_7 := Aside0.mk (Kd.R_below (by (with_reducible repeat (first | apply Kd.R_alloc | apply Kd.R_drewN | apply Kd.R_drew)); exact (Kd.R_mono (Kd.R_far (p := ⟨gb116, 1, none⟩) (Kd.R_far (p := ⟨gb116, 0, none⟩) (Kd.R_types HO_7.out BK116.out (by decide)) (fun _ hk => hk.2) (.int .u64 ((rd_T58 l1 x19_1).f0))) (fun _ hk => hk.2) (.int .i64 ((rd_T58 l1 x19_1).f1))) (fun _ h_ => h_.1))) hb); replace BK113 := bf_ BK113 hb; replace BK116 := Aside0.mk (blk_below (g := gb116) (o := .cells #[.int .u64 ((rd_T58 l1 x19_1).f0), .int .i64 ((rd_T58 l1 x19_1).f1)] 58 (0, 0)) (bp2_ (bq_ BK116)) hb); replace HB := bs_ w hb; clear hb; obtain ⟨Ao23, co23, eo23⟩ := Kd.R_slice HO_7.out; subst eo23) | ((with_reducible refine gate_builtin (b := .append) (xs := #[.tmp 41, .tmp 44]) rfl ?_); (try refine ug_ (by rfl) ?_); at_builtin; refine Kd.R_append k56 (w0 := w) w.heap.size rfl (.tmp 41) (.tmp 44) 26 56 (.agg #[(.int .u64 0), (.int .i64 0)]) 16 rfl Try.underlying26 info56 rfl (by decide) (by omega) (.slice Ao23 x7_1.length co23) x7_1 (⟨t117, 0⟩ : S56) [.int .u64 t117, .int .i64 0] (fun _ => True) (fun _ => False) rfl rfl ?aP (fun _ hk => hk.elim) ?aF ?aO ?aB ?aS ?aL ?_; (case aP => exact k56_mkM _ _ _ (⟨t117, 0⟩ : S56)); (case aB => exact bh_); (case aF => exact (fun _ _ => trivial)); (case aO => exact (rs_ HO_7)); (case aS => exact (below_size bh_)); (case aL => have := LMc13.out; omega); intro v119 w24 ho hb hg hat; rw [← Ny118.out] at ho; have HO120 := Aside0.mk (ho); replace BK113 := Aside0.mk (blk_grown (g := gb113) (o := .cells #[.int .i64 a0_0, .int .i64 a0_1] 23 (0, 0)) (bq_ BK113) hg (Kd.R_ne HO_7.out BK113.out (by decide))); replace BK116 := Aside0.mk (blk_grown (g := gb116) (o := .cells #[.int .u64 ((rd_T58 l1 x19_1).f0), .int .i64 ((rd_T58 l1 x19_1).f1)] 58 (0, 0)) (bq_ BK116) hg (Kd.R_ne HO_7.out BK116.out (by decide))); replace HB := Aside0.mk (hb); clear HO_7; clear ho hb hg hat))
      replace HO120 := Aside0.mk (Kd.R_drew HO120.out)
      replace BK113 := Aside0.mk (blk_drew BK113.out)
      replace BK116 := Aside0.mk (blk_drew BK116.out)
      replace HB := Aside0.mk (below_drew1 HB.out)
      obtain ⟨Ao26, co26, eo26⟩ := Kd.R_slice HO120.out
      (first | subst eo26 | (injection eo26 with f1_ f2_ f3_; have f4_ := f1_.symm; have f5_ := f3_.symm; clear f1_ f2_ f3_; subst f4_; subst f5_))
      have p121 : 0 ≤ ((ji14) : Int) := of_decide_eq_true (by first | (with_reducible assumption) | assumption)
      have q121 : (ji14) < (y118.length : Int) := of_decide_eq_true (by first | (with_reducible assumption) | assumption)
      obtain ⟨ad121, e121, hx121_0, hx121_1⟩ := at_T56 (Kd.R_reads' HO120.out).2.2 (ji14) p121 q121
      cases e121
      replace p121 := eq_true p121
      replace q121 := eq_true q121
      have p17 : 0 ≤ ((ji14) : Int) := of_decide_eq_true (by first | (with_reducible assumption) | assumption)
      have q17 : ((ji14) : Int) < ((y118.length : Int) : Int) := of_decide_eq_true (by first | (with_reducible assumption) | assumption)
      obtain ⟨go17, co17, eo17, gb17, gl17, cl17, HG17⟩ := Kd.R_form HO120.out (by omega)
      (first | cases eo17 | (injection eo17 with ea_ en_ ec_; (first | subst ea_ | (injection ea_ with ea_; subst ea_)); subst ec_; clear en_))
      have GB17 := Aside0.mk gb17
      have GG17 := Aside0.mk HG17
      clear gb17 gl17 HG17
      (first | simp only [add_plain] at hx121_0 | skip)
      (first | simp only [add_plain] at hx121_1 | skip)
      obtain ⟨ce17, hcl17, hM17, hcc17, hfr17⟩ := Kd.R_elem HO120.out z56 ((ji14) : Int) p17 q17
      obtain rfl := k56_openM hM17
      have hx17_0 : World.cell? _ ⟨go17, ((ji14) : Int).toNat * 2, none⟩ = some (.int .u64 ((rd_T56 y118 (ji14)).f0)) := hcc17 0 _ rfl
      have hx17_1 : World.cell? _ ⟨go17, ((ji14) : Int).toNat * 2 + 1, none⟩ = some (.int .i64 ((rd_T56 y118 (ji14)).f1)) := hcc17 1 _ rfl
      have hf17_0 : World.frozen? _ ⟨go17, ((ji14) : Int).toNat * 2, none⟩ = false := hfr17 0
      have hf17_1 : World.frozen? _ ⟨go17, ((ji14) : Int).toNat * 2 + 1, none⟩ = false := hfr17 1
      clear hcl17 hcc17 hfr17 hM17
      replace p17 := eq_true p17
      replace q17 := eq_true q17
      obtain ⟨ce27, hcl27, hM27, hcc27, hfr27⟩ := Kd.R_elem HO120.out z56 ((ji14) : Int) (of_decide_eq_true (by first | (with_reducible assumption) | assumption)) (by have h_ : ((ji14) : Int) < ((y118.length : Int) : Int) := of_decide_eq_true (by first | (with_reducible assumption) | assumption); first | exact h_ | (have e_ := (Kd.R_reads' HO120.out).1; omega) | simpa using h_)
      obtain rfl := k56_openM hM27
      have HP27 := (Kd.R_seg HO120.out ((ji14) : Int) (of_decide_eq_true (by first | (with_reducible assumption) | assumption)) (by have h_ : ((ji14) : Int) < ((y118.length : Int) : Int) := of_decide_eq_true (by first | (with_reducible assumption) | assumption); first | exact h_ | (have e_ := (Kd.R_reads' HO120.out).1; omega) | simpa using h_) (seg := [.int .i64 (wrap64 (((rd_T56 y118 (ji14)).f1) + ((rd_T58 l1 x19_1).f1)))]) (j := 1) hcl27 hcc27 (show 2 ≤ 2 from by decide) (x' := (⟨(rd_T56 y118 (ji14)).f0, wrap64 (((rd_T56 y118 (ji14)).f1) + ((rd_T58 l1 x19_1).f1))⟩ : S56)) (k56_mkM _ _ _ (⟨(rd_T56 y118 (ji14)).f0, wrap64 (((rd_T56 y118 (ji14)).f1) + ((rd_T58 l1 x19_1).f1))⟩ : S56) ) (fun _ hk => hk)).1
      rw [← Ny122.out] at HP27
      have HQ27 := Aside0.mk HP27
      clear hcl27 hcc27 hfr27 hM27 HP27
      refine start_ (n := 13) (S := fun w' => w'.cell? ⟨gb116, 0, none⟩ = some (.int .u64 ((rd_T58 l1 x19_1).f0)) ∧ w'.cell? ⟨gb116, 1, none⟩ = some (.int .i64 ((rd_T58 l1 x19_1).f1)) ∧ w'.cell? ⟨go17, ((ji14)).toNat * 2, none⟩ = some (.int .u64 ((rd_T56 y118 (ji14)).f0)) ∧ w'.cell? ⟨go17, ((ji14)).toNat * 2 + 1, none⟩ = some (.int .i64 ((rd_T56 y118 (ji14)).f1))) (ds := [12]) (bl_ 13 0) (by kernel_rfl) rfl (by kernel_rfl) ⟨(blk_cell BK116.out 0).trans rfl, (blk_cell BK116.out 1).trans rfl, hx121_0, hx121_1⟩ (fun hHeld => ?_); refine with_tabW window_Counts.tab11 window_Counts.bits11 (fun HT_ HW_ => ?_)
      generalize w24.drew = w25 at HO120 BK113 BK116 HB GG17 HQ27 hf17_0 hf17_1 hx121_0 hx121_1 hx17_0 hx17_1 hHeld ⊢
      refine pa_ 0 (some 46) (bl_ 13 1) HT_ ?_
      refine pa_ 1 (some 47) (bl_ 13 3) HT_ ?_
      refine pa_ 2 (some 48) (bl_ 13 7) HT_ ?_
      refine pa_ 3 (some 49) (bl_ 13 15) HT_ ?_
      refine pa_ 4 (some 50) (bl_ 13 31) HT_ ?_
      refine pa_ 5 (some 51) (bl_ 13 63) HT_ ?_
      refine pa_ 7 (some 53) (bl_ 13 191) HT_ ?_
      refine ta_ 6 (some 52) (bl_ 13 255) HT_ HW_ hHeld ?_
      refine ta_ 8 (some 54) (bl_ 13 511) HT_ HW_ hHeld ?_
      refine pa_ 9 (some 55) (bl_ 13 1023) HT_ ?_
      refine pa_ 10 (some 56) (bl_ 13 2047) HT_ ?_
      refine pa_ 11 (some 57) (bl_ 13 4095) HT_ ?_
      refine last_ (i := 12) (N := none) (bl_ 13 8191) rfl rfl (one_of HT_.out (by kernel_rfl)) (by decide) (fun K hK => ?_)
      refine sk_ ?_
      refine hK.out _ _ ?_
      clear hK K
      refine done_ (done_of HT_.out (by kernel_rfl)) ?_
      try go_wp2
      go_roundg k1
      case measure => have := HK1.out; omega
      case rel => exact ⟨(y122), (wrap64 (x19_1 + 1)), rf_, H', ⟨by have := HK1.out; omega⟩, ⟨by (with_reducible repeat (first | apply Kd.R_alloc | apply Kd.R_drewN | apply Kd.R_drew)); exact HQ27.out⟩, ⟨by (with_reducible repeat (first | refine blk_drewN ?_ _ | refine blk_drew ?_ | refine blk_alloc ?_ _)); refine blk_far ?_ (by have h_ := Kd.R_ne HO120.out BK113.out (by decide); intro e_; exact h_ (by rw [e_]; rfl)) _; (with_reducible repeat (first | refine blk_drewN ?_ _ | refine blk_drew ?_ | refine blk_alloc ?_ _)); exact BK113.out⟩, ⟨by repeat (first | (with_reducible first | exact HB.out | apply below_alloc | apply pw_below_drewN | apply below_drew1 | refine below_set ?_ GB17.out | refine below_set ?_ GE113.out | refine below_set ?_ GE116.out) | exact HB.out)⟩⟩
     ·rw [if_neg c12] at H
      have c12b0 : ((x7_1.length : Int) == 0) = false := beq_eq_false_iff_ne.mpr c12
      have c12b1 : ((x7_1.length : Int) != 0) = true := bne_iff_ne.mpr c12
      have c12b2 : ¬ (x7_1 = []) := fun h_ => c12 (by rw [h_]; rfl)
      obtain ⟨ji28, hji28⟩ : ∃ j_ : Int, (wrap64 ((x7_1.length : Int) - 1)) = j_ := ⟨_, rfl⟩
      replace H : (if 0 ≤ (ji28) then (if (ji28) < (x7_1.length : Int) then (if ((rd_T56 x7_1 (ji28)).f0) = t117 then (window_Counts.l0 k1 (x7_1.set ((ji28) : Int).toNat (⟨(rd_T56 x7_1 (ji28)).f0, wrap64 (((rd_T56 x7_1 (ji28)).f1) + ((rd_T58 l1 x19_1).f1))⟩ : S56)) l1 (l1.length : Int) (wrap64 (x19_1 + 1)) a0_0 a0_1) else (if x7_1.length < 8796093022208 then ((some (x7_1 ++ [(⟨t117, 0⟩ : S56)] : List (S56))).bind fun y126 => (if 0 ≤ (wrap64 ((y126.length : Int) - 1)) then (if (wrap64 ((y126.length : Int) - 1)) < (y126.length : Int) then (window_Counts.l0 k1 (y126.set ((wrap64 ((y126.length : Int) - 1)) : Int).toNat (⟨(rd_T56 y126 (wrap64 ((y126.length : Int) - 1))).f0, wrap64 (((rd_T56 y126 (wrap64 ((y126.length : Int) - 1))).f1) + ((rd_T58 l1 x19_1).f1))⟩ : S56)) l1 (l1.length : Int) (wrap64 (x19_1 + 1)) a0_0 a0_1) else (none)) else (none))) else (none))) else (none)) else (none)) = some (r1, r2) := by first | (rw [hji28] at H; exact H) | (simp only [hji28] at H ⊢; exact H)
      (try rw [hji28] at A11)
      have hji28w : (IntKind.i64.wrap ((x7_1.length : Int) - 1)) = ji28 := (i64_w _).trans hji28
      by_cases c29 : 0 ≤ (ji28)
      rotate_left
      ·rw [if_neg c29] at H; exact absurd H (by simp)
      rw [if_pos c29] at H
      have c29b0 : decide (0 ≤ (ji28)) = true := decide_eq_true c29
      clear c29
      by_cases c30 : (ji28) < (x7_1.length : Int)
      rotate_left
      ·rw [if_neg c30] at H; exact absurd H (by simp)
      rw [if_pos c30] at H
      have c30b0 : decide ((ji28) < (x7_1.length : Int)) = true := decide_eq_true c30
      clear c30
      by_cases c31 : ((rd_T56 x7_1 (ji28)).f0) = t117
      ·rw [if_pos c31] at H
       have c31b0 : (((rd_T56 x7_1 (ji28)).f0) == t117) = true := beq_iff_eq.mpr c31
       have c31b1 : (((rd_T56 x7_1 (ji28)).f0) != t117) = false := bne_eq_false_iff_eq.mpr c31
       clear c31
       obtain ⟨y125, hy125⟩ : ∃ y_ : List (S56), y_ = (x7_1.set ((ji28) : Int).toNat (⟨(rd_T56 x7_1 (ji28)).f0, wrap64 (((rd_T56 x7_1 (ji28)).f1) + ((rd_T58 l1 x19_1).f1))⟩ : S56)) := ⟨_, rfl⟩
       replace H : (window_Counts.l0 k1 y125 l1 (l1.length : Int) (wrap64 (x19_1 + 1)) a0_0 a0_1) = some (r1, r2) := by first | (rw [hy125]; with_reducible exact H) | (have H2_ := (Option.bind_some _ _).symm.trans H; rw [hy125]; with_reducible exact H2_) | (have H2_ := (Option.bind_some _ _).symm.trans H; with_reducible exact H2_) | with_reducible exact H | (rw [hy125]; exact H) | exact H
       have Ny125 := Aside0.mk hy125
       clear hy125
       have H' := Aside0.mk H
       clear H
       have p115 : 0 ≤ (x19_1 : Int) := of_decide_eq_true (by first | (with_reducible assumption) | assumption)
       have q115 : x19_1 < (l1.length : Int) := of_decide_eq_true (by first | (with_reducible assumption) | assumption)
       obtain ⟨ad115, e115, hx115_0, hx115_1⟩ := at_T58 HR1.out x19_1 p115 q115
       cases e115
       replace hx115_0 := (HB.out.cell (World.block_lt_of_cell? w _ hx115_0)).trans hx115_0
       replace hx115_1 := (HB.out.cell (World.block_lt_of_cell? w _ hx115_1)).trans hx115_1
       replace p115 := eq_true p115
       replace q115 := eq_true q115
       try go_wp2_with (first | ((with_reducible refine gate_dst (N := 9) rfl ?_); (try refine ug_ (by rfl) ?_); refine bx_ #[.int .u64 0, .int .i64 0] 58 ?_; intro gb116 hg w33 BK116 hb; have GW116 := bz_ w hg; have GE116 := GW116; have NB113_116 := bn_ BK113 hg; have NB116_113 := bm_ BK113 hg; replace HO_7 := rb_ HO_7 hb; replace BK113 := bb_ BK113 hb; replace HB := bs_ w hb; clear hb hg; replace hn116_113 := NB116_113.out; replace hn113_116 := NB113_116.out; replace hc116 := ce2_ BK116; replace hc113 := ce2_ BK113) | ((with_reducible refine gate_callee (f := 30) rfl ?_); (try refine ug_ (by rfl) ?_); refine goesA_ (some 26) Try.func30 #[.agg #[.int .i64 a0_0, .int .i64 a0_1], .int .u64 ((rd_T58 l1 x19_1).f0)] ?_; (with_reducible refine (window_begin.calls a0_0 a0_1 ((rd_T58 l1 x19_1).f0) t117 _ A11.out).mono ?_); rintro e w37 ⟨rfl, hb⟩; refine ⟨_, rfl, ?_⟩; replace HO_7 := Aside0.mk (Kd.R_below (by (with_reducible repeat (first | apply Kd.R_alloc | apply Kd.R_drewN | apply Kd.R_drew)); exact (Kd.R_mono (Kd.R_far (p := ⟨gb116, 1, none⟩) (Kd.R_far (p := ⟨gb116, 0, none⟩) (Kd.R_types HO_7.out BK116.out (by decide)) (fun _ hk => hk.2) (.int .u64 ((rd_T58 l1 x19_1).f0))) (fun _ hk => hk.2) (.int .i64 ((rd_T58 l1 x19_1).f1))) (fun _ h_ => h_.1))) hb); replace BK113 := bf_ BK113 hb; replace BK116 := Aside0.mk (blk_below (g := gb116) (o := .cells #[.int .u64 ((rd_T58 l1 x19_1).f0), .int .i64 ((rd_T58 l1 x19_1).f1)] 58 (0, 0)) (bp2_ (bq_ BK116)) hb); replace HB := bs_ w hb; clear hb; obtain ⟨Ao38, co38, eo38⟩ := Kd.R_slice HO_7.out; subst eo38; have p123 : 0 ≤ ((ji28) : Int) := of_decide_eq_true (by first | (with_reducible assumption) | assumption); have q123 : (ji28) < (x7_1.length : Int) := of_decide_eq_true (by first | (with_reducible assumption) | assumption); obtain ⟨ad123, e123, hx123_0, hx123_1⟩ := at_T56 (Kd.R_reads' HO_7.out).2.2 (ji28) p123 q123; cases e123; replace p123 := eq_true p123; replace q123 := eq_true q123))
       replace HO_7 := Aside0.mk (Kd.R_drew HO_7.out)
       replace BK113 := Aside0.mk (blk_drew BK113.out)
       replace BK116 := Aside0.mk (blk_drew BK116.out)
       replace HB := Aside0.mk (below_drew1 HB.out)
       have p124 : 0 ≤ ((ji28) : Int) := of_decide_eq_true (by first | (with_reducible assumption) | assumption)
       have q124 : (ji28) < (x7_1.length : Int) := of_decide_eq_true (by first | (with_reducible assumption) | assumption)
       obtain ⟨ad124, e124, hx124_0, hx124_1⟩ := at_T56 (Kd.R_reads' HO_7.out).2.2 (ji28) p124 q124
       obtain rfl : ad123 = ad124 := (by injection e124)
       replace p124 := eq_true p124
       replace q124 := eq_true q124
       have p32 : 0 ≤ ((ji28) : Int) := of_decide_eq_true (by first | (with_reducible assumption) | assumption)
       have q32 : ((ji28) : Int) < ((x7_1.length : Int) : Int) := of_decide_eq_true (by first | (with_reducible assumption) | assumption)
       obtain ⟨go32, co32, eo32, gb32, gl32, cl32, HG32⟩ := Kd.R_form HO_7.out (by omega)
       (first | cases eo32 | (injection eo32 with ea_ en_ ec_; (first | subst ea_ | (injection ea_ with ea_; subst ea_)); subst ec_; clear en_))
       have GB32 := Aside0.mk gb32
       have GG32 := Aside0.mk HG32
       clear gb32 gl32 HG32
       (first | simp only [add_plain] at hx123_0 | skip)
       (first | simp only [add_plain] at hx123_1 | skip)
       (first | simp only [add_plain] at hx124_0 | skip)
       (first | simp only [add_plain] at hx124_1 | skip)
       obtain ⟨ce32, hcl32, hM32, hcc32, hfr32⟩ := Kd.R_elem HO_7.out z56 ((ji28) : Int) p32 q32
       obtain rfl := k56_openM hM32
       have hx32_0 : World.cell? _ ⟨go32, ((ji28) : Int).toNat * 2, none⟩ = some (.int .u64 ((rd_T56 x7_1 (ji28)).f0)) := hcc32 0 _ rfl
       have hx32_1 : World.cell? _ ⟨go32, ((ji28) : Int).toNat * 2 + 1, none⟩ = some (.int .i64 ((rd_T56 x7_1 (ji28)).f1)) := hcc32 1 _ rfl
       have hf32_0 : World.frozen? _ ⟨go32, ((ji28) : Int).toNat * 2, none⟩ = false := hfr32 0
       have hf32_1 : World.frozen? _ ⟨go32, ((ji28) : Int).toNat * 2 + 1, none⟩ = false := hfr32 1
       clear hcl32 hcc32 hfr32 hM32
       replace p32 := eq_true p32
       replace q32 := eq_true q32
       obtain ⟨ce40, hcl40, hM40, hcc40, hfr40⟩ := Kd.R_elem HO_7.out z56 ((ji28) : Int) (of_decide_eq_true (by first | (with_reducible assumption) | assumption)) (by have h_ : ((ji28) : Int) < ((x7_1.length : Int) : Int) := of_decide_eq_true (by first | (with_reducible assumption) | assumption); first | exact h_ | (have e_ := (Kd.R_reads' HO_7.out).1; omega) | simpa using h_)
       obtain rfl := k56_openM hM40
       have HP40 := (Kd.R_seg HO_7.out ((ji28) : Int) (of_decide_eq_true (by first | (with_reducible assumption) | assumption)) (by have h_ : ((ji28) : Int) < ((x7_1.length : Int) : Int) := of_decide_eq_true (by first | (with_reducible assumption) | assumption); first | exact h_ | (have e_ := (Kd.R_reads' HO_7.out).1; omega) | simpa using h_) (seg := [.int .i64 (wrap64 (((rd_T56 x7_1 (ji28)).f1) + ((rd_T58 l1 x19_1).f1)))]) (j := 1) hcl40 hcc40 (show 2 ≤ 2 from by decide) (x' := (⟨(rd_T56 x7_1 (ji28)).f0, wrap64 (((rd_T56 x7_1 (ji28)).f1) + ((rd_T58 l1 x19_1).f1))⟩ : S56)) (k56_mkM _ _ _ (⟨(rd_T56 x7_1 (ji28)).f0, wrap64 (((rd_T56 x7_1 (ji28)).f1) + ((rd_T58 l1 x19_1).f1))⟩ : S56) ) (fun _ hk => hk)).1
       rw [← Ny125.out] at HP40
       have HQ40 := Aside0.mk HP40
       clear hcl40 hcc40 hfr40 hM40 HP40
       refine start_ (n := 13) (S := fun w' => w'.cell? ⟨gb116, 0, none⟩ = some (.int .u64 ((rd_T58 l1 x19_1).f0)) ∧ w'.cell? ⟨gb116, 1, none⟩ = some (.int .i64 ((rd_T58 l1 x19_1).f1)) ∧ w'.cell? ⟨go32, ((ji28)).toNat * 2, none⟩ = some (.int .u64 ((rd_T56 x7_1 (ji28)).f0)) ∧ w'.cell? ⟨go32, ((ji28)).toNat * 2 + 1, none⟩ = some (.int .i64 ((rd_T56 x7_1 (ji28)).f1))) (ds := [12]) (bl_ 13 0) (by kernel_rfl) rfl (by kernel_rfl) ⟨(blk_cell BK116.out 0).trans rfl, (blk_cell BK116.out 1).trans rfl, hx124_0, hx124_1⟩ (fun hHeld => ?_); refine with_tabW window_Counts.tab11 window_Counts.bits11 (fun HT_ HW_ => ?_)
       generalize w37.drew = w39 at HO_7 BK113 BK116 HB GG32 HQ40 hf32_0 hf32_1 hx123_0 hx123_1 hx124_0 hx124_1 hx32_0 hx32_1 hHeld ⊢
       refine pa_ 0 (some 46) (bl_ 13 1) HT_ ?_
       refine pa_ 1 (some 47) (bl_ 13 3) HT_ ?_
       refine pa_ 2 (some 48) (bl_ 13 7) HT_ ?_
       refine pa_ 3 (some 49) (bl_ 13 15) HT_ ?_
       refine pa_ 4 (some 50) (bl_ 13 31) HT_ ?_
       refine pa_ 5 (some 51) (bl_ 13 63) HT_ ?_
       refine pa_ 7 (some 53) (bl_ 13 191) HT_ ?_
       refine ta_ 6 (some 52) (bl_ 13 255) HT_ HW_ hHeld ?_
       refine ta_ 8 (some 54) (bl_ 13 511) HT_ HW_ hHeld ?_
       refine pa_ 9 (some 55) (bl_ 13 1023) HT_ ?_
       refine pa_ 10 (some 56) (bl_ 13 2047) HT_ ?_
       refine pa_ 11 (some 57) (bl_ 13 4095) HT_ ?_
       refine last_ (i := 12) (N := none) (bl_ 13 8191) rfl rfl (one_of HT_.out (by kernel_rfl)) (by decide) (fun K hK => ?_)
       refine sk_ ?_
       refine hK.out _ _ ?_
       clear hK K
       refine done_ (done_of HT_.out (by kernel_rfl)) ?_
       try go_wp2
       go_roundg k1
       case measure => have := HK1.out; omega
       case rel => exact ⟨(y125), (wrap64 (x19_1 + 1)), rf_, H', ⟨by have := HK1.out; omega⟩, ⟨by (with_reducible repeat (first | apply Kd.R_alloc | apply Kd.R_drewN | apply Kd.R_drew)); exact HQ40.out⟩, ⟨by (with_reducible repeat (first | refine blk_drewN ?_ _ | refine blk_drew ?_ | refine blk_alloc ?_ _)); refine blk_far ?_ (by have h_ := Kd.R_ne HO_7.out BK113.out (by decide); intro e_; exact h_ (by rw [e_]; rfl)) _; (with_reducible repeat (first | refine blk_drewN ?_ _ | refine blk_drew ?_ | refine blk_alloc ?_ _)); exact BK113.out⟩, ⟨by repeat (first | (with_reducible first | exact HB.out | apply below_alloc | apply pw_below_drewN | apply below_drew1 | refine below_set ?_ GB32.out | refine below_set ?_ GE113.out | refine below_set ?_ GE116.out) | exact HB.out)⟩⟩
      ·rw [if_neg c31] at H
       have c31b0 : (((rd_T56 x7_1 (ji28)).f0) == t117) = false := beq_eq_false_iff_ne.mpr c31
       have c31b1 : (((rd_T56 x7_1 (ji28)).f0) != t117) = true := bne_iff_ne.mpr c31
       by_cases c41 : x7_1.length < 8796093022208
       rotate_left
       ·rw [if_neg c41] at H; exact absurd H (by simp)
       rw [if_pos c41] at H
       have LMc41 := Aside0.mk c41
       clear c41
       obtain ⟨y126, hy126⟩ : ∃ y_ : List (S56), y_ = (x7_1 ++ [(⟨t117, 0⟩ : S56)]) := ⟨_, rfl⟩
       replace H : (if 0 ≤ (wrap64 ((y126.length : Int) - 1)) then (if (wrap64 ((y126.length : Int) - 1)) < (y126.length : Int) then (window_Counts.l0 k1 (y126.set ((wrap64 ((y126.length : Int) - 1)) : Int).toNat (⟨(rd_T56 y126 (wrap64 ((y126.length : Int) - 1))).f0, wrap64 (((rd_T56 y126 (wrap64 ((y126.length : Int) - 1))).f1) + ((rd_T58 l1 x19_1).f1))⟩ : S56)) l1 (l1.length : Int) (wrap64 (x19_1 + 1)) a0_0 a0_1) else (none)) else (none)) = some (r1, r2) := by first | (rw [hy126]; with_reducible exact H) | (have H2_ := (Option.bind_some _ _).symm.trans H; rw [hy126]; with_reducible exact H2_) | (have H2_ := (Option.bind_some _ _).symm.trans H; with_reducible exact H2_) | with_reducible exact H | (rw [hy126]; exact H) | exact H
       have Ny126 := Aside0.mk hy126
       clear hy126
       obtain ⟨ji42, hji42⟩ : ∃ j_ : Int, (wrap64 ((y126.length : Int) - 1)) = j_ := ⟨_, rfl⟩
       replace H : (if 0 ≤ (ji42) then (if (ji42) < (y126.length : Int) then (window_Counts.l0 k1 (y126.set ((ji42) : Int).toNat (⟨(rd_T56 y126 (ji42)).f0, wrap64 (((rd_T56 y126 (ji42)).f1) + ((rd_T58 l1 x19_1).f1))⟩ : S56)) l1 (l1.length : Int) (wrap64 (x19_1 + 1)) a0_0 a0_1) else (none)) else (none)) = some (r1, r2) := by first | (rw [hji42] at H; exact H) | (simp only [hji42] at H ⊢; exact H)
       (try rw [hji42] at A11)
       have hji42w : (IntKind.i64.wrap ((y126.length : Int) - 1)) = ji42 := (i64_w _).trans hji42
       by_cases c43 : 0 ≤ (ji42)
       rotate_left
       ·rw [if_neg c43] at H; exact absurd H (by simp)
       rw [if_pos c43] at H
       have c43b0 : decide (0 ≤ (ji42)) = true := decide_eq_true c43
       clear c43
       by_cases c44 : (ji42) < (y126.length : Int)
       rotate_left
       ·rw [if_neg c44] at H; exact absurd H (by simp)
       rw [if_pos c44] at H
       have c44b0 : decide ((ji42) < (y126.length : Int)) = true := decide_eq_true c44
       clear c44
       obtain ⟨y130, hy130⟩ : ∃ y_ : List (S56), y_ = (y126.set ((ji42) : Int).toNat (⟨(rd_T56 y126 (ji42)).f0, wrap64 (((rd_T56 y126 (ji42)).f1) + ((rd_T58 l1 x19_1).f1))⟩ : S56)) := ⟨_, rfl⟩
       replace H : (window_Counts.l0 k1 y130 l1 (l1.length : Int) (wrap64 (x19_1 + 1)) a0_0 a0_1) = some (r1, r2) := by first | (rw [hy130]; with_reducible exact H) | (have H2_ := (Option.bind_some _ _).symm.trans H; rw [hy130]; with_reducible exact H2_) | (have H2_ := (Option.bind_some _ _).symm.trans H; with_reducible exact H2_) | with_reducible exact H | (rw [hy130]; exact H) | exact H
       have Ny130 := Aside0.mk hy130
       clear hy130
       have H' := Aside0.mk H
       clear H
       have p115 : 0 ≤ (x19_1 : Int) := of_decide_eq_true (by first | (with_reducible assumption) | assumption)
       have q115 : x19_1 < (l1.length : Int) := of_decide_eq_true (by first | (with_reducible assumption) | assumption)
       obtain ⟨ad115, e115, hx115_0, hx115_1⟩ := at_T58 HR1.out x19_1 p115 q115
       cases e115
       replace hx115_0 := (HB.out.cell (World.block_lt_of_cell? w _ hx115_0)).trans hx115_0
       replace hx115_1 := (HB.out.cell (World.block_lt_of_cell? w _ hx115_1)).trans hx115_1
       replace p115 := eq_true p115
       replace q115 := eq_true q115
       try go_wp2_with (first | ((with_reducible refine gate_dst (N := 9) rfl ?_); (try refine ug_ (by rfl) ?_); refine bx_ #[.int .u64 0, .int .i64 0] 58 ?_; intro gb116 hg w46 BK116 hb; have GW116 := bz_ w hg; have GE116 := GW116; have NB113_116 := bn_ BK113 hg; have NB116_113 := bm_ BK113 hg; replace HO_7 := rb_ HO_7 hb; replace BK113 := bb_ BK113 hb; replace HB := bs_ w hb; clear hb hg; replace hn116_113 := NB116_113.out; replace hn113_116 := NB113_116.out; replace hc116 := ce2_ BK116; replace hc113 := ce2_ BK113) | ((with_reducible refine gate_callee (f := 30) rfl ?_); (try refine ug_ (by rfl) ?_); refine goesA_ (some 26) Try.func30 #[.agg #[.int .i64 a0_0, .int .i64 a0_1], .int .u64 ((rd_T58 l1 x19_1).f0)] ?_; (with_reducible refine (window_begin.calls a0_0 a0_1 ((rd_T58 l1 x19_1).f0) t117 _ A11.out).mono ?_); rintro e w50 ⟨rfl, hb⟩; refine ⟨_, rfl, ?_⟩; replace HO_7 := Aside0.mk (Kd.R_below (by (with_reducible repeat (first | apply Kd.R_alloc | apply Kd.R_drewN | apply Kd.R_drew)); exact (Kd.R_mono (Kd.R_far (p := ⟨gb116, 1, none⟩) (Kd.R_far (p := ⟨gb116, 0, none⟩) (Kd.R_types HO_7.out BK116.out (by decide)) (fun _ hk => hk.2) (.int .u64 ((rd_T58 l1 x19_1).f0))) (fun _ hk => hk.2) (.int .i64 ((rd_T58 l1 x19_1).f1))) (fun _ h_ => h_.1))) hb); replace BK113 := bf_ BK113 hb; replace BK116 := Aside0.mk (blk_below (g := gb116) (o := .cells #[.int .u64 ((rd_T58 l1 x19_1).f0), .int .i64 ((rd_T58 l1 x19_1).f1)] 58 (0, 0)) (bp2_ (bq_ BK116)) hb); replace HB := bs_ w hb; clear hb; obtain ⟨Ao51, co51, eo51⟩ := Kd.R_slice HO_7.out; subst eo51; have p123 : 0 ≤ ((ji28) : Int) := of_decide_eq_true (by first | (with_reducible assumption) | assumption); have q123 : (ji28) < (x7_1.length : Int) := of_decide_eq_true (by first | (with_reducible assumption) | assumption); obtain ⟨ad123, e123, hx123_0, hx123_1⟩ := at_T56 (Kd.R_reads' HO_7.out).2.2 (ji28) p123 q123; cases e123; replace p123 := eq_true p123; replace q123 := eq_true q123) | ((with_reducible refine gate_builtin (b := .append) (xs := #[.tmp 41, .tmp 44]) rfl ?_); (try refine ug_ (by rfl) ?_); at_builtin; refine Kd.R_append k56 (w0 := w) w.heap.size rfl (.tmp 41) (.tmp 44) 26 56 (.agg #[(.int .u64 0), (.int .i64 0)]) 16 rfl Try.underlying26 info56 rfl (by decide) (by omega) (.slice (some ad123) x7_1.length co51) x7_1 (⟨t117, 0⟩ : S56) [.int .u64 t117, .int .i64 0] (fun _ => True) (fun _ => False) rfl rfl ?aP (fun _ hk => hk.elim) ?aF ?aO ?aB ?aS ?aL ?_; (case aP => exact k56_mkM _ _ _ (⟨t117, 0⟩ : S56)); (case aB => exact bh_); (case aF => exact (fun _ _ => trivial)); (case aO => exact (rs_ HO_7)); (case aS => exact (below_size bh_)); (case aL => have := LMc41.out; omega); intro v127 w52 ho hb hg hat; rw [← Ny126.out] at ho; have HO128 := Aside0.mk (ho); replace BK113 := Aside0.mk (blk_grown (g := gb113) (o := .cells #[.int .i64 a0_0, .int .i64 a0_1] 23 (0, 0)) (bq_ BK113) hg (Kd.R_ne HO_7.out BK113.out (by decide))); replace BK116 := Aside0.mk (blk_grown (g := gb116) (o := .cells #[.int .u64 ((rd_T58 l1 x19_1).f0), .int .i64 ((rd_T58 l1 x19_1).f1)] 58 (0, 0)) (bq_ BK116) hg (Kd.R_ne HO_7.out BK116.out (by decide))); replace HB := Aside0.mk (hb); clear HO_7; clear ho hb hg hat))
       replace HO128 := Aside0.mk (Kd.R_drew HO128.out)
       replace BK113 := Aside0.mk (blk_drew BK113.out)
       replace BK116 := Aside0.mk (blk_drew BK116.out)
       replace HB := Aside0.mk (below_drew1 HB.out)
       obtain ⟨Ao54, co54, eo54⟩ := Kd.R_slice HO128.out
       (first | subst eo54 | (injection eo54 with f1_ f2_ f3_; have f4_ := f1_.symm; have f5_ := f3_.symm; clear f1_ f2_ f3_; subst f4_; subst f5_))
       have p129 : 0 ≤ ((ji42) : Int) := of_decide_eq_true (by first | (with_reducible assumption) | assumption)
       have q129 : (ji42) < (y126.length : Int) := of_decide_eq_true (by first | (with_reducible assumption) | assumption)
       obtain ⟨ad129, e129, hx129_0, hx129_1⟩ := at_T56 (Kd.R_reads' HO128.out).2.2 (ji42) p129 q129
       cases e129
       replace p129 := eq_true p129
       replace q129 := eq_true q129
       have p45 : 0 ≤ ((ji42) : Int) := of_decide_eq_true (by first | (with_reducible assumption) | assumption)
       have q45 : ((ji42) : Int) < ((y126.length : Int) : Int) := of_decide_eq_true (by first | (with_reducible assumption) | assumption)
       obtain ⟨go45, co45, eo45, gb45, gl45, cl45, HG45⟩ := Kd.R_form HO128.out (by omega)
       (first | cases eo45 | (injection eo45 with ea_ en_ ec_; (first | subst ea_ | (injection ea_ with ea_; subst ea_)); subst ec_; clear en_))
       have GB45 := Aside0.mk gb45
       have GG45 := Aside0.mk HG45
       clear gb45 gl45 HG45
       (first | simp only [add_plain] at hx129_0 | skip)
       (first | simp only [add_plain] at hx129_1 | skip)
       obtain ⟨ce45, hcl45, hM45, hcc45, hfr45⟩ := Kd.R_elem HO128.out z56 ((ji42) : Int) p45 q45
       obtain rfl := k56_openM hM45
       have hx45_0 : World.cell? _ ⟨go45, ((ji42) : Int).toNat * 2, none⟩ = some (.int .u64 ((rd_T56 y126 (ji42)).f0)) := hcc45 0 _ rfl
       have hx45_1 : World.cell? _ ⟨go45, ((ji42) : Int).toNat * 2 + 1, none⟩ = some (.int .i64 ((rd_T56 y126 (ji42)).f1)) := hcc45 1 _ rfl
       have hf45_0 : World.frozen? _ ⟨go45, ((ji42) : Int).toNat * 2, none⟩ = false := hfr45 0
       have hf45_1 : World.frozen? _ ⟨go45, ((ji42) : Int).toNat * 2 + 1, none⟩ = false := hfr45 1
       clear hcl45 hcc45 hfr45 hM45
       replace p45 := eq_true p45
       replace q45 := eq_true q45
       obtain ⟨ce55, hcl55, hM55, hcc55, hfr55⟩ := Kd.R_elem HO128.out z56 ((ji42) : Int) (of_decide_eq_true (by first | (with_reducible assumption) | assumption)) (by have h_ : ((ji42) : Int) < ((y126.length : Int) : Int) := of_decide_eq_true (by first | (with_reducible assumption) | assumption); first | exact h_ | (have e_ := (Kd.R_reads' HO128.out).1; omega) | simpa using h_)
       obtain rfl := k56_openM hM55
       have HP55 := (Kd.R_seg HO128.out ((ji42) : Int) (of_decide_eq_true (by first | (with_reducible assumption) | assumption)) (by have h_ : ((ji42) : Int) < ((y126.length : Int) : Int) := of_decide_eq_true (by first | (with_reducible assumption) | assumption); first | exact h_ | (have e_ := (Kd.R_reads' HO128.out).1; omega) | simpa using h_) (seg := [.int .i64 (wrap64 (((rd_T56 y126 (ji42)).f1) + ((rd_T58 l1 x19_1).f1)))]) (j := 1) hcl55 hcc55 (show 2 ≤ 2 from by decide) (x' := (⟨(rd_T56 y126 (ji42)).f0, wrap64 (((rd_T56 y126 (ji42)).f1) + ((rd_T58 l1 x19_1).f1))⟩ : S56)) (k56_mkM _ _ _ (⟨(rd_T56 y126 (ji42)).f0, wrap64 (((rd_T56 y126 (ji42)).f1) + ((rd_T58 l1 x19_1).f1))⟩ : S56) ) (fun _ hk => hk)).1
       rw [← Ny130.out] at HP55
       have HQ55 := Aside0.mk HP55
       clear hcl55 hcc55 hfr55 hM55 HP55
       refine start_ (n := 13) (S := fun w' => w'.cell? ⟨gb116, 0, none⟩ = some (.int .u64 ((rd_T58 l1 x19_1).f0)) ∧ w'.cell? ⟨gb116, 1, none⟩ = some (.int .i64 ((rd_T58 l1 x19_1).f1)) ∧ w'.cell? ⟨go45, ((ji42)).toNat * 2, none⟩ = some (.int .u64 ((rd_T56 y126 (ji42)).f0)) ∧ w'.cell? ⟨go45, ((ji42)).toNat * 2 + 1, none⟩ = some (.int .i64 ((rd_T56 y126 (ji42)).f1))) (ds := [12]) (bl_ 13 0) (by kernel_rfl) rfl (by kernel_rfl) ⟨(blk_cell BK116.out 0).trans rfl, (blk_cell BK116.out 1).trans rfl, hx129_0, hx129_1⟩ (fun hHeld => ?_); refine with_tabW window_Counts.tab11 window_Counts.bits11 (fun HT_ HW_ => ?_)
       generalize w52.drew = w53 at HO128 BK113 BK116 HB GG45 HQ55 hf45_0 hf45_1 hx129_0 hx129_1 hx45_0 hx45_1 hHeld ⊢
       refine pa_ 0 (some 46) (bl_ 13 1) HT_ ?_
       refine pa_ 1 (some 47) (bl_ 13 3) HT_ ?_
       refine pa_ 2 (some 48) (bl_ 13 7) HT_ ?_
       refine pa_ 3 (some 49) (bl_ 13 15) HT_ ?_
       refine pa_ 4 (some 50) (bl_ 13 31) HT_ ?_
       refine pa_ 5 (some 51) (bl_ 13 63) HT_ ?_
       refine pa_ 7 (some 53) (bl_ 13 191) HT_ ?_
       refine ta_ 6 (some 52) (bl_ 13 255) HT_ HW_ hHeld ?_
       refine ta_ 8 (some 54) (bl_ 13 511) HT_ HW_ hHeld ?_
       refine pa_ 9 (some 55) (bl_ 13 1023) HT_ ?_
       refine pa_ 10 (some 56) (bl_ 13 2047) HT_ ?_
       refine pa_ 11 (some 57) (bl_ 13 4095) HT_ ?_
       refine last_ (i := 12) (N := none) (bl_ 13 8191) rfl rfl (one_of HT_.out (by kernel_rfl)) (by decide) (fun K hK => ?_)
       refine sk_ ?_
       refine hK.out _ _ ?_
       clear hK K
       refine done_ (done_of HT_.out (by kernel_rfl)) ?_
       try go_wp2
       go_roundg k1
       case measure => have := HK1.out; omega
       case rel => exact ⟨(y130), (wrap64 (x19_1 + 1)), rf_, H', ⟨by have := HK1.out; omega⟩, ⟨by (with_reducible repeat (first | apply Kd.R_alloc | apply Kd.R_drewN | apply Kd.R_drew)); exact HQ55.out⟩, ⟨by (with_reducible repeat (first | refine blk_drewN ?_ _ | refine blk_drew ?_ | refine blk_alloc ?_ _)); refine blk_far ?_ (by have h_ := Kd.R_ne HO128.out BK113.out (by decide); intro e_; exact h_ (by rw [e_]; rfl)) _; (with_reducible repeat (first | refine blk_drewN ?_ _ | refine blk_drew ?_ | refine blk_alloc ?_ _)); exact BK113.out⟩, ⟨by repeat (first | (with_reducible first | exact HB.out | apply below_alloc | apply pw_below_drewN | apply below_drew1 | refine below_set ?_ GB45.out | refine below_set ?_ GE113.out | refine below_set ?_ GE116.out) | exact HB.out)⟩⟩
    ·rw [if_neg c8] at H
     have c8b0 : decide (x19_1 < (l1.length : Int)) = false := decide_eq_false c8
     clear c8
     simp only [Option.some.injEq, Prod.mk.injEq] at H
     obtain ⟨rfl, rfl⟩ := H
     go_wp2
     go_ret2
     exact ⟨_, by first | rfl | (simp [errW_none, errW_some] <;> rfl) | (simp [*, errW_none, errW_some] <;> rfl), by (with_reducible repeat (first | apply Kd.R_alloc | apply Kd.R_drewN | apply Kd.R_drew)); exact HO_7.out, by repeat (first | (with_reducible first | exact HB.out | apply below_alloc | apply pw_below_drewN | apply below_drew1 | refine below_set ?_ GE113.out) | exact HB.out)⟩
 ·rw [if_neg c4] at H
  have c4b0 : (t114 == 0) = false := beq_eq_false_iff_ne.mpr c4
  have c4b1 : (t114 != 0) = true := bne_iff_ne.mpr c4
  simp only [Option.some.injEq, Prod.mk.injEq] at H
  obtain ⟨rfl, rfl⟩ := H
  go_enter Try.func10, Try.ntmps10
  go_wp2_with (first | ((with_reducible refine gate_dst (N := 2) rfl ?_); (try refine ug_ (by rfl) ?_); refine bx_ #[.int .i64 a0_0, .int .i64 a0_1] 23 ?_; intro gb113 hg w56 BK113 hb; have GW113 := bz_ w hg; have GE113 := GW113; replace HB := bs_ w hb; clear hb hg; replace hc113 := ce2_ BK113) | ((with_reducible refine gate_callee (f := 29) rfl ?_); (try refine ug_ (by rfl) ?_); refine goesA_ (some 13) Try.func29 #[.agg #[.int .i64 a0_0, .int .i64 a0_1], .slice A1 l1.length c1] ?_; (with_reducible refine (window_both.calls k a0_0 a0_1 _ _ l1 t114 _ ?side1 ?side2 A3.out).mono ?_); (case side1 => exact cs_ HR1 HB); (case side2 => exact HC1.out); rintro e w58 ⟨rfl, hb⟩; refine ⟨_, rfl, ?_⟩; replace BK113 := bb_ BK113 hb; replace HB := bs_ w hb; clear hb))
  go_ret2
  exact ⟨_, by first | rfl | (simp [errW_none, errW_some] <;> rfl) | (simp [*, errW_none, errW_some] <;> rfl), by first | exact Kd.R_nil _ _ _ _ _ | exact Kd.N_nil _ _ _ _ _ | exact Kd.V_nil _ _ _ _ _ | exact Kd.Q_nil _ _ _ _ _ | exact Kd.S_nil _ _ _ _ _, by repeat (first | (with_reducible first | exact HB.out | apply below_alloc | apply pw_below_drewN | apply below_drew1 | refine below_set ?_ GE113.out) | exact HB.out)⟩

end Go.Proofs.Ytjjmnafhaneflaa.X
