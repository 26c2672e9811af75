-- written by xprint.py, a program of this session over the kit's print
import Derived.Test.YtjjmnafhaneflaaX0
import Derived.Test.YtjjmnafhaneflaaX11
namespace Go.Proofs.Ytjjmnafhaneflaa.X
open Go.RowKit Go.Proofs.YtjjmnafhaneflaaW.PrintWords Go.Proofs.YtjjmnafhaneflaaW.PrintLast Go.Proofs.YtjjmnafhaneflaaW.PrintMore
attribute [local go_sem] max2_int min2_int max_two min_two max_three min_three max_four min_four   -- for this text's walks alone
set_option linter.unusedVariables false
set_option linter.unusedSimpArgs false

/-! ### spigotref38_Counts: function 11 -/
def spigotref38_Counts.l0 : Nat → List (S58) → List (S56) → Int → Int → Int → Option ((List (S56)) × Int)
  | 0, _, _, _, _, _ => none
  | k + 1, x1, x7, x8, x141000, x141001 => if x8 < (x1.length : Int) then (if x8 = 0 then (if 0 ≤ x8 then ((spigotref38_Begin.f x141000 x141001 ((rd_T58 x1 x8).f0)).bind fun t143 => (if x7.length < 8796093022208 then ((some (x7 ++ [(⟨t143, 0⟩ : S56)] : List (S56))).bind fun y144 => (if 0 ≤ (wrap64 ((y144.length : Int) - 1)) then (if (wrap64 ((y144.length : Int) - 1)) < (y144.length : Int) then (spigotref38_Counts.l0 k x1 (y144.set ((wrap64 ((y144.length : Int) - 1)) : Int).toNat (⟨(rd_T56 y144 (wrap64 ((y144.length : Int) - 1))).f0, wrap64 (((rd_T56 y144 (wrap64 ((y144.length : Int) - 1))).f1) + ((rd_T58 x1 x8).f1))⟩ : S56)) (wrap64 (x8 + 1)) x141000 x141001) else (none)) else (none))) else (none))) else (none)) else (if 0 ≤ x8 then ((spigotref38_Begin.f x141000 x141001 ((rd_T58 x1 x8).f0)).bind fun t151 => (if 0 ≤ (wrap64 (x8 - 1)) then (if (wrap64 (x8 - 1)) < (x1.length : Int) then ((spigotref38_Begin.f x141000 x141001 ((rd_T58 x1 (wrap64 (x8 - 1))).f0)).bind fun t153 => (if t151 = t153 then (if 0 ≤ (wrap64 ((x7.length : Int) - 1)) then (if (wrap64 ((x7.length : Int) - 1)) < (x7.length : Int) then (spigotref38_Counts.l0 k x1 (x7.set ((wrap64 ((x7.length : Int) - 1)) : Int).toNat (⟨(rd_T56 x7 (wrap64 ((x7.length : Int) - 1))).f0, wrap64 (((rd_T56 x7 (wrap64 ((x7.length : Int) - 1))).f1) + ((rd_T58 x1 x8).f1))⟩ : S56)) (wrap64 (x8 + 1)) x141000 x141001) else (none)) else (none)) else ((spigotref38_Begin.f x141000 x141001 ((rd_T58 x1 x8).f0)).bind fun t158 => (if x7.length < 8796093022208 then ((some (x7 ++ [(⟨t158, 0⟩ : S56)] : List (S56))).bind fun y159 => (if 0 ≤ (wrap64 ((y159.length : Int) - 1)) then (if (wrap64 ((y159.length : Int) - 1)) < (y159.length : Int) then (spigotref38_Counts.l0 k x1 (y159.set ((wrap64 ((y159.length : Int) - 1)) : Int).toNat (⟨(rd_T56 y159 (wrap64 ((y159.length : Int) - 1))).f0, wrap64 (((rd_T56 y159 (wrap64 ((y159.length : Int) - 1))).f1) + ((rd_T58 x1 x8).f1))⟩ : S56)) (wrap64 (x8 + 1)) x141000 x141001) else (none)) else (none))) else (none))))) else (none)) else (none))) else (none))) else (some (x7, 0))
def spigotref38_Counts.f (k : Nat) (a0_0 : Int) (a0_1 : Int) (l1 : List (S58)) : Option ((List (S56)) × Int) := (spigotref38_both.f k a0_0 a0_1 l1).bind fun t141 => (if t141 = 0 then (spigotref38_Counts.l0 k l1 ([] : List (S56)) 0 a0_0 a0_1) else (some (([] : List (S56)), t141)))
theorem spigotref38_Counts.mono_l : ∀ k, (∀ y0 y1 y2 y3 y4, LeO (spigotref38_Counts.l0 k y0 y1 y2 y3 y4) (spigotref38_Counts.l0 (k + 1) y0 y1 y2 y3 y4))
  | 0 => fun _ _ _ _ _ r h => by simp [spigotref38_Counts.l0] at h
  | k + 1 => by
    have ih0 := spigotref38_Counts.mono_l k
    · intro y0 y1 y2 y3 y4
      unfold spigotref38_Counts.l0
      repeat' first
      | (with_reducible exact ih0 _ _ _ _ _)
      | (with_reducible exact spigotref38_both.mono _ _ _ _)
      | (with_reducible exact LeO.refl _)
      | (with_reducible exact LeO.none _)
      | (with_reducible refine LeO.ite ?_ ?_)
      | (with_reducible refine LeO.bind ?_ (fun _ => ?_))
      | exact ih0 _ _ _ _ _
      | exact spigotref38_both.mono _ _ _ _
      | exact LeO.none _
      | refine LeO.ite ?_ ?_
      | refine LeO.bind ?_ (fun _ => ?_)
theorem spigotref38_Counts.mono : ∀ a0 a1 a2 k, LeO (spigotref38_Counts.f k a0 a1 a2) (spigotref38_Counts.f (k + 1) a0 a1 a2) := by
  intro a0 a1 a2 k
  have ih0 := spigotref38_Counts.mono_l k
  unfold spigotref38_Counts.f
  repeat' first
      | (with_reducible exact ih0 _ _ _ _ _)
      | (with_reducible exact spigotref38_both.mono _ _ _ _)
      | (with_reducible exact LeO.refl _)
      | (with_reducible exact LeO.none _)
      | (with_reducible refine LeO.ite ?_ ?_)
      | (with_reducible refine LeO.bind ?_ (fun _ => ?_))
      | exact ih0 _ _ _ _ _
      | exact spigotref38_both.mono _ _ _ _
      | exact LeO.none _
      | refine LeO.ite ?_ ?_
      | refine LeO.bind ?_ (fun _ => ?_)
def spigotref38_Counts.T8 : Bool × List (List Nat × List Nat) := (true, [([], []), ([0], [0]), ([1], [1]), ([2], [2]), ([2], [2]), ([2], [2]), ([4, 5, 2], [2, 4, 5]), ([6, 2], [2, 6]), ([7, 2], [2, 7]), ([3, 8, 2, 2], [2, 3, 8]), ([2], [2]), ([2], [2]), ([2], [2]), ([12, 2], [2, 12]), ([11, 13, 2], [2, 11, 13]), ([14, 2], [2, 14]), ([15, 2], [2, 15]), ([10, 16, 9, 2], [2, 10, 16]), ([9, 17, 2], [2, 9, 17]), ([2, 18], [2, 18])])
def spigotref38_Counts.B8 : List Nat := [0, 1, 3, 7, 7, 7, 55, 119, 247, 511, 7, 7, 7, 4103, 14343, 30727, 63495, 131071, 262143, 524287]
theorem spigotref38_Counts.tab8 : rtab .any (opsOf Try.f11 8) = spigotref38_Counts.T8 := by kernel_rfl
theorem spigotref38_Counts.bits8 : waitsOk spigotref38_Counts.T8.2 spigotref38_Counts.B8 = true := by kernel_rfl
def spigotref38_Counts.T9 : Bool × List (List Nat × List Nat) := (true, [([], []), ([], []), ([], []), ([], []), ([2, 3], [2, 3]), ([4], [4]), ([5], [5]), ([1, 6], [1, 6]), ([7], [7]), ([8], [8]), ([0, 9, 7], [0, 9]), ([10, 10, 0, 1, 2, 3, 4, 5, 6, 7, 8, 9, 10], [0, 10])])
def spigotref38_Counts.B9 : List Nat := [0, 0, 0, 0, 12, 28, 60, 126, 254, 510, 1023, 2047]
theorem spigotref38_Counts.tab9 : rtab .any (opsOf Try.f11 9) = spigotref38_Counts.T9 := by kernel_rfl
theorem spigotref38_Counts.bits9 : waitsOk spigotref38_Counts.T9.2 spigotref38_Counts.B9 = true := by kernel_rfl
def spigotref38_Counts.T10 : Bool × List (List Nat × List Nat) := (true, [([], []), ([], []), ([1], [1]), ([2], [2]), ([0, 3], [0, 3]), ([4], [4]), ([5], [5]), ([], []), ([], []), ([7, 8], [7, 8]), ([9], [9]), ([10], [10]), ([6, 11], [6, 11]), ([0, 3, 0, 1, 2, 3, 4, 5, 6, 7, 8, 9, 10, 11, 12], [0, 3]), ([13, 0, 1, 2, 3, 4, 5, 6, 7, 8, 9, 10, 11, 12], [13]), ([14, 12, 0, 1, 2, 3, 4, 5, 6, 7, 8, 9, 10, 11, 12], [12, 14])])
def spigotref38_Counts.B10 : List Nat := [0, 0, 2, 6, 15, 31, 63, 0, 0, 384, 896, 1920, 4095, 8191, 16383, 32767]
theorem spigotref38_Counts.tab10 : rtab .any (opsOf Try.f11 10) = spigotref38_Counts.T10 := by kernel_rfl
theorem spigotref38_Counts.bits10 : waitsOk spigotref38_Counts.T10.2 spigotref38_Counts.B10 = true := by kernel_rfl
set_option maxHeartbeats 8000000 in
set_option maxRecDepth 100000 in
theorem spigotref38_Counts.calls (k : Nat) (a0_0 : Int) (a0_1 : Int) (A1 : Option Addr) (c1 : Nat) (l1 : List (S58)) (r1 : List (S56)) (r2 : Int) (w : World) (hr1 : Kd.C k58 w A1 l1.length l1) (hc1 : l1.length ≤ c1) (h : spigotref38_Counts.f k a0_0 a0_1 l1 = some (r1, r2)) :
  Calls Try.prog 11 #[.agg #[.int .i64 a0_0, .int .i64 a0_1], .slice A1 l1.length c1] w fun e w' => ∃ v0_ : Value, e = .returned (.tuple #[v0_, .int .i64 r2]) ∧ Kd.R k56 56 w' w.heap.size (fun _ => True) v0_ r1 ∧ Below w.heap.size w w' := by
 have hu23 := Try.underlying23
 have hu56 := Try.underlying56
 have HR1 := Aside0.mk hr1
 have HC1 := Aside0.mk hc1
 clear hr1 hc1
 have HB := Aside0.mk (Below.refl w.heap.size w)
 have H : ((spigotref38_both.f k a0_0 a0_1 l1).bind fun t141 => (if t141 = 0 then (spigotref38_Counts.l0 k l1 ([] : List (S56)) 0 a0_0 a0_1) else (some (([] : List (S56)), t141)))) = some (r1, r2) := h
 clear h
 obtain ⟨t141, A3, H⟩ := bo_ H
 replace H : (if t141 = 0 then (spigotref38_Counts.l0 k l1 ([] : List (S56)) 0 a0_0 a0_1) else (some (([] : List (S56)), t141))) = some (r1, r2) := H
 by_cases c4 : t141 = 0
 ·rw [if_pos c4] at H
  have c4b0 : (t141 == 0) = true := beq_iff_eq.mpr c4
  have c4b1 : (t141 != 0) = false := bne_eq_false_iff_eq.mpr c4
  clear c4
  have H' := Aside0.mk H
  clear H
  go_enter Try.func11, Try.ntmps11
  go_wp2_with (first | ((with_reducible refine gate_dst (N := 2) rfl ?_); (try refine ug_ (by rfl) ?_); refine bx_ #[.int .i64 a0_0, .int .i64 a0_1] 23 ?_; intro gb140 hg w5 BK140 hb; have GW140 := bz_ w hg; have GE140 := GW140; replace HB := bs_ w hb; clear hb hg; replace hc140 := ce2_ BK140) | ((with_reducible refine gate_callee (f := 31) rfl ?_); (try refine ug_ (by rfl) ?_); refine goesA_ (some 11) Try.func31 #[.agg #[.int .i64 a0_0, .int .i64 a0_1], .slice A1 l1.length c1] ?_; (with_reducible refine (spigotref38_both.calls k a0_0 a0_1 _ _ l1 t141 _ ?side1 ?side2 A3.out).mono ?_); (case side1 => exact cs_ HR1 HB); (case side2 => exact HC1.out); rintro e w7 ⟨rfl, hb⟩; refine ⟨_, rfl, ?_⟩; replace BK140 := bb_ BK140 hb; replace HB := bs_ w hb; clear hb))
  go_loopg [7, 8] k (fun kq v7 v8 w' => ∃ (x7_1 : List (S56)) (x8_1 : Int), v8 = .int .i64 x8_1 ∧ Aside0 (spigotref38_Counts.l0 kq l1 x7_1 x8_1 a0_0 a0_1 = some (r1, r2)) ∧ Aside0 (kq ≤ k) ∧ Aside0 (Kd.R k56 56 w' w.heap.size (fun _ => True) v7 x7_1) ∧ Aside0 (w'.heap[gb140]? = some (.cells #[.int .i64 a0_0, .int .i64 a0_1] 23 (0, 0))) ∧ Aside0 (Below w.heap.size w w'))
  case atStart => exact ⟨(([] : List (S56))), (0), rf_, H', ⟨Nat.le_refl _⟩, ⟨by first | exact Kd.R_nil _ _ _ _ _ | exact Kd.N_nil _ _ _ _ _ | exact Kd.V_nil _ _ _ _ _ | exact Kd.Q_nil _ _ _ _ _ | exact Kd.S_nil _ _ _ _ _⟩, ⟨bq_ BK140⟩, bw_⟩
  case round =>
   clear H'
   try clear c1
   try clear c4
   try clear c4b0
   try clear c4b1
   obtain ⟨x7_1, x8_1, rfl, HA, HK1, HO_7, BK140, HB⟩ := hrel
   cases gk with
   | zero => exact absurd HA.out (by simp [spigotref38_Counts.l0])
   | succ k1 =>
    have H := HA.out
    clear HA
    simp only [spigotref38_Counts.l0] at H
    by_cases c8 : x8_1 < (l1.length : Int)
    ·rw [if_pos c8] at H
     have c8b0 : decide (x8_1 < (l1.length : Int)) = true := decide_eq_true c8
     clear c8
     by_cases c9 : x8_1 = 0
     ·rw [if_pos c9] at H
      have c9b0 : (x8_1 == 0) = true := beq_iff_eq.mpr c9
      have c9b1 : (x8_1 != 0) = false := bne_eq_false_iff_eq.mpr c9
      clear c9
      by_cases c10 : 0 ≤ x8_1
      rotate_left
      ·rw [if_neg c10] at H; exact absurd H (by simp)
      rw [if_pos c10] at H
      have c10b0 : decide (0 ≤ x8_1) = true := decide_eq_true c10
      clear c10
      obtain ⟨t143, A11, H⟩ := bo_ H
      try dsimp only at H
      by_cases c12 : x7_1.length < 8796093022208
      rotate_left
      ·rw [if_neg c12] at H; exact absurd H (by simp)
      rw [if_pos c12] at H
      have LMc12 := Aside0.mk c12
      clear c12
      obtain ⟨y144, hy144⟩ : ∃ y_ : List (S56), y_ = (x7_1 ++ [(⟨t143, 0⟩ : S56)]) := ⟨_, rfl⟩
      replace H : (if 0 ≤ (wrap64 ((y144.length : Int) - 1)) then (if (wrap64 ((y144.length : Int) - 1)) < (y144.length : Int) then (spigotref38_Counts.l0 k1 l1 (y144.set ((wrap64 ((y144.length : Int) - 1)) : Int).toNat (⟨(rd_T56 y144 (wrap64 ((y144.length : Int) - 1))).f0, wrap64 (((rd_T56 y144 (wrap64 ((y144.length : Int) - 1))).f1) + ((rd_T58 l1 x8_1).f1))⟩ : S56)) (wrap64 (x8_1 + 1)) a0_0 a0_1) else (none)) else (none)) = some (r1, r2) := by first | (rw [hy144]; with_reducible exact H) | (have H2_ := (Option.bind_some _ _).symm.trans H; rw [hy144]; with_reducible exact H2_) | (have H2_ := (Option.bind_some _ _).symm.trans H; with_reducible exact H2_) | with_reducible exact H | (rw [hy144]; exact H) | exact H
      have Ny144 := Aside0.mk hy144
      clear hy144
      obtain ⟨ji13, hji13⟩ : ∃ j_ : Int, (wrap64 ((y144.length : Int) - 1)) = j_ := ⟨_, rfl⟩
      replace H : (if 0 ≤ (ji13) then (if (ji13) < (y144.length : Int) then (spigotref38_Counts.l0 k1 l1 (y144.set ((ji13) : Int).toNat (⟨(rd_T56 y144 (ji13)).f0, wrap64 (((rd_T56 y144 (ji13)).f1) + ((rd_T58 l1 x8_1).f1))⟩ : S56)) (wrap64 (x8_1 + 1)) a0_0 a0_1) else (none)) else (none)) = some (r1, r2) := by first | (rw [hji13] at H; exact H) | (simp only [hji13] at H ⊢; exact H)
      (try rw [hji13] at A11)
      have hji13w : (IntKind.i64.wrap ((y144.length : Int) - 1)) = ji13 := (i64_w _).trans hji13
      by_cases c14 : 0 ≤ (ji13)
      rotate_left
      ·rw [if_neg c14] at H; exact absurd H (by simp)
      rw [if_pos c14] at H
      have c14b0 : decide (0 ≤ (ji13)) = true := decide_eq_true c14
      clear c14
      by_cases c15 : (ji13) < (y144.length : Int)
      rotate_left
      ·rw [if_neg c15] at H; exact absurd H (by simp)
      rw [if_pos c15] at H
      have c15b0 : decide ((ji13) < (y144.length : Int)) = true := decide_eq_true c15
      clear c15
      obtain ⟨y149, hy149⟩ : ∃ y_ : List (S56), y_ = (y144.set ((ji13) : Int).toNat (⟨(rd_T56 y144 (ji13)).f0, wrap64 (((rd_T56 y144 (ji13)).f1) + ((rd_T58 l1 x8_1).f1))⟩ : S56)) := ⟨_, rfl⟩
      replace H : (spigotref38_Counts.l0 k1 l1 y149 (wrap64 (x8_1 + 1)) a0_0 a0_1) = some (r1, r2) := by first | (rw [hy149]; with_reducible exact H) | (have H2_ := (Option.bind_some _ _).symm.trans H; rw [hy149]; with_reducible exact H2_) | (have H2_ := (Option.bind_some _ _).symm.trans H; with_reducible exact H2_) | with_reducible exact H | (rw [hy149]; exact H) | exact H
      have Ny149 := Aside0.mk hy149
      clear hy149
      have H' := Aside0.mk H
      clear H
      try go_wp2
      replace HO_7 := Aside0.mk (Kd.R_drew HO_7.out)
      replace BK140 := Aside0.mk (blk_drew BK140.out)
      replace HB := Aside0.mk (below_drew1 HB.out)
      refine start_ (n := 20) (S := fun w' => True) (ds := []) (bl_ 20 0) (by kernel_rfl) rfl (by kernel_rfl) trivial (fun hHeld => ?_); refine with_tabW spigotref38_Counts.tab8 spigotref38_Counts.bits8 (fun HT_ HW_ => ?_)
      generalize wr.drew = w17 at HO_7 BK140 HB hHeld ⊢
      refine pa_ 0 (some 21) (bl_ 20 1) HT_ ?_
      refine pa_ 1 (some 22) (bl_ 20 3) HT_ ?_
      refine pa_ 2 (some 23) (bl_ 20 7) HT_ ?_
      refine pz_ 3 (some 24) (bl_ 20 15) HT_ ?_
      refine pz_ 4 (some 25) (bl_ 20 31) HT_ ?_
      refine pz_ 5 (some 26) (bl_ 20 63) HT_ ?_
      refine pz_ 6 (some 27) (bl_ 20 127) HT_ ?_
      refine pz_ 7 (some 28) (bl_ 20 255) HT_ ?_
      refine pz_ 8 (some 29) (bl_ 20 511) HT_ ?_
      refine pz_ 9 (some 30) (bl_ 20 1023) HT_ ?_
      refine pz_ 10 (some 31) (bl_ 20 2047) HT_ ?_
      refine pz_ 11 (some 32) (bl_ 20 4095) HT_ ?_
      refine pz_ 12 (some 33) (bl_ 20 8191) HT_ ?_
      refine pz_ 13 (some 34) (bl_ 20 16383) HT_ ?_
      refine pz_ 14 (some 35) (bl_ 20 32767) HT_ ?_
      refine pz_ 15 (some 36) (bl_ 20 65535) HT_ ?_
      refine pz_ 16 (some 37) (bl_ 20 131071) HT_ ?_
      refine pz_ 17 (some 38) (bl_ 20 262143) HT_ ?_
      refine pz_ 18 (some 39) (bl_ 20 524287) HT_ ?_
      refine pa_ 19 (some 40) (bl_ 20 1048575) HT_ ?_
      refine done_ (done_of HT_.out (by kernel_rfl)) ?_
      try go_wp2
      replace HO_7 := Aside0.mk (Kd.R_drew HO_7.out)
      replace BK140 := Aside0.mk (blk_drew BK140.out)
      replace HB := Aside0.mk (below_drew1 HB.out)
      have p142 : 0 ≤ (x8_1 : Int) := of_decide_eq_true (by first | (with_reducible assumption) | assumption)
      have q142 : x8_1 < (l1.length : Int) := of_decide_eq_true (by first | (with_reducible assumption) | assumption)
      obtain ⟨ad142, e142, hx142_0, hx142_1⟩ := at_T58 HR1.out x8_1 p142 q142
      have hw142_1 := hx142_1
      have hw142_0 := hx142_0
      cases e142
      replace hx142_0 := (HB.out.cell (World.block_lt_of_cell? w _ hx142_0)).trans hx142_0
      replace hx142_1 := (HB.out.cell (World.block_lt_of_cell? w _ hx142_1)).trans hx142_1
      replace p142 := eq_true p142
      replace q142 := eq_true q142
      refine start_ (n := 12) (S := fun w' => w'.cell? ⟨gb140, 0, none⟩ = some (.int .i64 a0_0) ∧ w'.cell? ⟨gb140, 1, none⟩ = some (.int .i64 a0_1) ∧ w'.cell? (ad142.add ((x8_1).toNat * 2)) = some (.int .u64 ((rd_T58 l1 x8_1).f0)) ∧ w'.cell? ⟨(ad142.add ((x8_1).toNat * 2)).block, (ad142.add ((x8_1).toNat * 2)).off + 1, none⟩ = some (.int .i64 ((rd_T58 l1 x8_1).f1))) (ds := []) (bl_ 12 0) (by kernel_rfl) rfl (by kernel_rfl) ⟨(blk_cell BK140.out 0).trans rfl, (blk_cell BK140.out 1).trans rfl, ((HB.out.cell (World.block_lt_of_cell? w _ hw142_0)).trans hw142_0), ((HB.out.cell (World.block_lt_of_cell? w _ hw142_1)).trans hw142_1)⟩ (fun hHeld => ?_); refine with_tabW spigotref38_Counts.tab9 spigotref38_Counts.bits9 (fun HT_ HW_ => ?_)
      generalize w17.drew = w18 at HO_7 BK140 HB hx142_0 hx142_1 hHeld ⊢
      refine pa_ 0 (some 41) (bl_ 12 1) HT_ ?_
      refine pa_ 2 (some 43) (bl_ 12 5) HT_ ?_
      refine pa_ 3 (some 44) (bl_ 12 13) HT_ ?_
      refine pa_ 4 (some 45) (bl_ 12 29) HT_ ?_
      refine pa_ 5 (some 46) (bl_ 12 61) HT_ ?_
      refine ta_ 1 (some 42) (bl_ 12 63) HT_ HW_ hHeld ?_
      refine ta_ 6 (some 47) (bl_ 12 127) HT_ HW_ hHeld ?_
      refine oa_ 7 (some 48) (bl_ 12 255) HT_ fun K hK => ?_
      refine goesB_ Try.func32 #[.agg #[.int .i64 a0_0, .int .i64 a0_1], .int .u64 ((rd_T58 l1 x8_1).f0)] ?_
      with_reducible refine (spigotref38_Begin.calls a0_0 a0_1 ((rd_T58 l1 x8_1).f0) t143 _ A11.out).mono ?_
      rintro e w19 ⟨rfl, hb⟩
      refine ⟨_, rfl, ?_⟩
      replace HO_7 := rb_ HO_7 hb
      replace BK140 := bb_ BK140 hb
      replace HB := bs_ w hb
      clear hb
      refine hK.out _ _ ⟨(blk_cell BK140.out 0).trans rfl, (blk_cell BK140.out 1).trans rfl, ((HB.out.cell (World.block_lt_of_cell? w _ hw142_0)).trans hw142_0), ((HB.out.cell (World.block_lt_of_cell? w _ hw142_1)).trans hw142_1)⟩ (fun hHeld => ?_)
      clear hK K
      refine nm_ (some 48) ?_
      refine pa_ 8 (some 49) (bl_ 12 511) HT_ ?_
      refine oa_ 9 (some 50) (bl_ 12 1023) HT_ fun K hK => ?_
      refine value_ (w1 := ?_) (v := ?_) (by rfl) rfl ?_ ?_
      rotate_left 2
      ·go_simp
       constructor
       ·rfl
       ·rfl
      refine hK.out _ _ ⟨(blk_cell (blk_alloc BK140.out _) 0).trans rfl, (blk_cell (blk_alloc BK140.out _) 1).trans rfl, (World.cell?_alloc_lt _ _ _ (World.block_lt_of_cell? _ _ (((HB.out.cell (World.block_lt_of_cell? w _ hw142_0)).trans hw142_0)))).trans (((HB.out.cell (World.block_lt_of_cell? w _ hw142_0)).trans hw142_0)), (World.cell?_alloc_lt _ _ _ (World.block_lt_of_cell? _ _ (((HB.out.cell (World.block_lt_of_cell? w _ hw142_1)).trans hw142_1)))).trans (((HB.out.cell (World.block_lt_of_cell? w _ hw142_1)).trans hw142_1))⟩ (fun hHeld => ?_)
      clear hK K
      refine nm_ (some 50) ?_
      refine oa_ 10 (some 51) (bl_ 12 2047) HT_ fun K hK => ?_
      refine Kd.R_append_step k56 (w0 := w) w.heap.size (by rfl) (.tmp 41) (.tmp 50) 26 56 (.agg #[(.int .u64 0), (.int .i64 0)]) 16 rfl Try.underlying26 info56 rfl (by decide) (by omega) u7 x7_1 (⟨t143, 0⟩ : S56) [.int .u64 t143, .int .i64 0] (fun _ => True) (fun _ => False) rfl rfl ?aP (fun _ hk => hk.elim) ?aF ?aO ?aB ?aS ?aL ?_
      (case aP => exact k56_mkM _ _ _ (⟨t143, 0⟩ : S56))
      (case aB => exact bh_)
      (case aF => exact (fun _ _ => trivial))
      (case aO => exact (rs_ HO_7))
      (case aS => exact (below_size bh_))
      (case aL => have := LMc12.out; omega)
      intro v145 w20 ho hb hg hat
      rw [← Ny144.out] at ho
      have HO146 := Aside0.mk (ho)
      replace BK140 := Aside0.mk (blk_grown (g := gb140) (o := .cells #[.int .i64 a0_0, .int .i64 a0_1] 23 (0, 0)) (bq_ BK140) hg (Kd.R_ne HO_7.out BK140.out (by decide)))
      replace HB := Aside0.mk (hb)
      clear HO_7
      clear ho hb hg hat
      refine hK.out _ _ ⟨(blk_cell BK140.out 0).trans rfl, (blk_cell BK140.out 1).trans rfl, ((HB.out.cell (World.block_lt_of_cell? w _ hw142_0)).trans hw142_0), ((HB.out.cell (World.block_lt_of_cell? w _ hw142_1)).trans hw142_1)⟩ (fun hHeld => ?_)
      clear hK K
      refine nm_ (some 51) ?_
      refine pa_ 11 (some 7) (bl_ 12 4095) HT_ ?_
      refine done_ (done_of HT_.out (by kernel_rfl)) ?_
      try go_wp2
      replace HO146 := Aside0.mk (Kd.R_drew HO146.out)
      replace BK140 := Aside0.mk (blk_drew BK140.out)
      replace HB := Aside0.mk (below_drew1 HB.out)
      obtain ⟨Ao22, co22, eo22⟩ := Kd.R_slice HO146.out
      (first | subst eo22 | (injection eo22 with f1_ f2_ f3_; have f4_ := f1_.symm; have f5_ := f3_.symm; clear f1_ f2_ f3_; subst f4_; subst f5_))
      have p147 : 0 ≤ ((ji13) : Int) := of_decide_eq_true (by first | (with_reducible assumption) | assumption)
      have q147 : (ji13) < (y144.length : Int) := of_decide_eq_true (by first | (with_reducible assumption) | assumption)
      obtain ⟨ad147, e147, hx147_0, hx147_1⟩ := at_T56 (Kd.R_reads' HO146.out).2.2 (ji13) p147 q147
      cases e147
      replace p147 := eq_true p147
      replace q147 := eq_true q147
      have p148 : 0 ≤ (x8_1 : Int) := of_decide_eq_true (by first | (with_reducible assumption) | assumption)
      have q148 : x8_1 < (l1.length : Int) := of_decide_eq_true (by first | (with_reducible assumption) | assumption)
      obtain ⟨ad148, e148, hx148_0, hx148_1⟩ := at_T58 HR1.out x8_1 p148 q148
      have hw148_1 := hx148_1
      have hw148_0 := hx148_0
      obtain rfl : ad142 = ad148 := (by injection e148)
      replace hx148_0 := (HB.out.cell (World.block_lt_of_cell? w _ hx148_0)).trans hx148_0
      replace hx148_1 := (HB.out.cell (World.block_lt_of_cell? w _ hx148_1)).trans hx148_1
      replace p148 := eq_true p148
      replace q148 := eq_true q148
      have p16 : 0 ≤ ((ji13) : Int) := of_decide_eq_true (by first | (with_reducible assumption) | assumption)
      have q16 : ((ji13) : Int) < ((y144.length : Int) : Int) := of_decide_eq_true (by first | (with_reducible assumption) | assumption)
      obtain ⟨go16, co16, eo16, gb16, gl16, cl16, HG16⟩ := Kd.R_form HO146.out (by omega)
      (first | cases eo16 | (injection eo16 with ea_ en_ ec_; (first | subst ea_ | (injection ea_ with ea_; subst ea_)); subst ec_; clear en_))
      have GB16 := Aside0.mk gb16
      have GG16 := Aside0.mk HG16
      clear gb16 gl16 HG16
      (first | simp only [add_plain] at hx147_0 | skip)
      (first | simp only [add_plain] at hx147_1 | skip)
      obtain ⟨ce16, hcl16, hM16, hcc16, hfr16⟩ := Kd.R_elem HO146.out z56 ((ji13) : Int) p16 q16
      obtain rfl := k56_openM hM16
      have hx16_0 : World.cell? _ ⟨go16, ((ji13) : Int).toNat * 2, none⟩ = some (.int .u64 ((rd_T56 y144 (ji13)).f0)) := hcc16 0 _ rfl
      have hx16_1 : World.cell? _ ⟨go16, ((ji13) : Int).toNat * 2 + 1, none⟩ = some (.int .i64 ((rd_T56 y144 (ji13)).f1)) := hcc16 1 _ rfl
      have hf16_0 : World.frozen? _ ⟨go16, ((ji13) : Int).toNat * 2, none⟩ = false := hfr16 0
      have hf16_1 : World.frozen? _ ⟨go16, ((ji13) : Int).toNat * 2 + 1, none⟩ = false := hfr16 1
      clear hcl16 hcc16 hfr16 hM16
      replace p16 := eq_true p16
      replace q16 := eq_true q16
      obtain ⟨ce23, hcl23, hM23, hcc23, hfr23⟩ := Kd.R_elem HO146.out z56 ((ji13) : Int) (of_decide_eq_true (by first | (with_reducible assumption) | assumption)) (by have h_ : ((ji13) : Int) < ((y144.length : Int) : Int) := of_decide_eq_true (by first | (with_reducible assumption) | assumption); first | exact h_ | (have e_ := (Kd.R_reads' HO146.out).1; omega) | simpa using h_)
      obtain rfl := k56_openM hM23
      have HP23 := (Kd.R_seg HO146.out ((ji13) : Int) (of_decide_eq_true (by first | (with_reducible assumption) | assumption)) (by have h_ : ((ji13) : Int) < ((y144.length : Int) : Int) := of_decide_eq_true (by first | (with_reducible assumption) | assumption); first | exact h_ | (have e_ := (Kd.R_reads' HO146.out).1; omega) | simpa using h_) (seg := [.int .i64 (wrap64 (((rd_T56 y144 (ji13)).f1) + ((rd_T58 l1 x8_1).f1)))]) (j := 1) hcl23 hcc23 (show 2 ≤ 2 from by decide) (x' := (⟨(rd_T56 y144 (ji13)).f0, wrap64 (((rd_T56 y144 (ji13)).f1) + ((rd_T58 l1 x8_1).f1))⟩ : S56)) (k56_mkM _ _ _ (⟨(rd_T56 y144 (ji13)).f0, wrap64 (((rd_T56 y144 (ji13)).f1) + ((rd_T58 l1 x8_1).f1))⟩ : S56) ) (fun _ hk => hk)).1
      rw [← Ny149.out] at HP23
      have HQ23 := Aside0.mk HP23
      clear hcl23 hcc23 hfr23 hM23 HP23
      refine start_ (n := 16) (S := fun w' => w'.cell? ⟨go16, ((ji13)).toNat * 2, none⟩ = some (.int .u64 ((rd_T56 y144 (ji13)).f0)) ∧ w'.cell? ⟨go16, ((ji13)).toNat * 2 + 1, none⟩ = some (.int .i64 ((rd_T56 y144 (ji13)).f1)) ∧ w'.cell? (ad142.add ((x8_1).toNat * 2)) = some (.int .u64 ((rd_T58 l1 x8_1).f0)) ∧ w'.cell? ⟨(ad142.add ((x8_1).toNat * 2)).block, (ad142.add ((x8_1).toNat * 2)).off + 1, none⟩ = some (.int .i64 ((rd_T58 l1 x8_1).f1))) (ds := [15]) (bl_ 16 0) (by kernel_rfl) rfl (by kernel_rfl) ⟨hx147_0, hx147_1, ((HB.out.cell (World.block_lt_of_cell? w _ hw148_0)).trans hw148_0), ((HB.out.cell (World.block_lt_of_cell? w _ hw148_1)).trans hw148_1)⟩ (fun hHeld => ?_); refine with_tabW spigotref38_Counts.tab10 spigotref38_Counts.bits10 (fun HT_ HW_ => ?_)
      generalize w20.drew = w21 at HO146 BK140 HB GG16 HQ23 hf16_0 hf16_1 hx147_0 hx147_1 hx148_0 hx148_1 hx16_0 hx16_1 hHeld ⊢
      refine pa_ 0 (some 52) (bl_ 16 1) HT_ ?_
      refine pa_ 1 (some 53) (bl_ 16 3) HT_ ?_
      refine pa_ 2 (some 54) (bl_ 16 7) HT_ ?_
      refine pa_ 3 (some 55) (bl_ 16 15) HT_ ?_
      refine pa_ 4 (some 56) (bl_ 16 31) HT_ ?_
      refine pa_ 5 (some 57) (bl_ 16 63) HT_ ?_
      refine pa_ 7 (some 59) (bl_ 16 191) HT_ ?_
      refine pa_ 8 (some 60) (bl_ 16 447) HT_ ?_
      refine pa_ 9 (some 61) (bl_ 16 959) HT_ ?_
      refine pa_ 10 (some 62) (bl_ 16 1983) HT_ ?_
      refine ta_ 6 (some 58) (bl_ 16 2047) HT_ HW_ hHeld ?_
      refine ta_ 11 (some 63) (bl_ 16 4095) HT_ HW_ hHeld ?_
      refine pa_ 12 (some 64) (bl_ 16 8191) HT_ ?_
      refine pa_ 13 (some 65) (bl_ 16 16383) HT_ ?_
      refine pa_ 14 (some 66) (bl_ 16 32767) HT_ ?_
      refine last_ (i := 15) (N := none) (bl_ 16 65535) rfl rfl (one_of HT_.out (by kernel_rfl)) (by decide) (fun K hK => ?_)
      refine sk_ ?_
      refine hK.out _ _ ?_
      clear hK K
      refine done_ (done_of HT_.out (by kernel_rfl)) ?_
      try go_wp2
      go_roundg k1
      case measure => have := HK1.out; omega
      case rel => exact ⟨(y149), (wrap64 (x8_1 + 1)), rf_, H', ⟨by have := HK1.out; omega⟩, ⟨by (with_reducible repeat (first | apply Kd.R_alloc | apply Kd.R_drewN | apply Kd.R_drew)); exact HQ23.out⟩, ⟨by (with_reducible repeat (first | refine blk_drewN ?_ _ | refine blk_drew ?_ | refine blk_alloc ?_ _)); refine blk_far ?_ (by have h_ := Kd.R_ne HO146.out BK140.out (by decide); intro e_; exact h_ (by rw [e_]; rfl)) _; (with_reducible repeat (first | refine blk_drewN ?_ _ | refine blk_drew ?_ | refine blk_alloc ?_ _)); exact BK140.out⟩, ⟨by repeat (first | (with_reducible first | exact HB.out | apply below_alloc | apply pw_below_drewN | apply below_drew1 | refine below_set ?_ GB16.out | refine below_set ?_ GE140.out) | exact HB.out)⟩⟩
     ·rw [if_neg c9] at H
      have c9b0 : (x8_1 == 0) = false := beq_eq_false_iff_ne.mpr c9
      have c9b1 : (x8_1 != 0) = true := bne_iff_ne.mpr c9
      by_cases c24 : 0 ≤ x8_1
      rotate_left
      ·rw [if_neg c24] at H; exact absurd H (by simp)
      rw [if_pos c24] at H
      have c24b0 : decide (0 ≤ x8_1) = true := decide_eq_true c24
      clear c24
      obtain ⟨t151, A25, H⟩ := bo_ H
      try dsimp only at H
      obtain ⟨ji26, hji26⟩ : ∃ j_ : Int, (wrap64 (x8_1 - 1)) = j_ := ⟨_, rfl⟩
      replace H : (if 0 ≤ (ji26) then (if (ji26) < (l1.length : Int) then ((spigotref38_Begin.f a0_0 a0_1 ((rd_T58 l1 (ji26)).f0)).bind fun t153 => (if t151 = t153 then (if 0 ≤ (wrap64 ((x7_1.length : Int) - 1)) then (if (wrap64 ((x7_1.length : Int) - 1)) < (x7_1.length : Int) then (spigotref38_Counts.l0 k1 l1 (x7_1.set ((wrap64 ((x7_1.length : Int) - 1)) : Int).toNat (⟨(rd_T56 x7_1 (wrap64 ((x7_1.length : Int) - 1))).f0, wrap64 (((rd_T56 x7_1 (wrap64 ((x7_1.length : Int) - 1))).f1) + ((rd_T58 l1 x8_1).f1))⟩ : S56)) (wrap64 (x8_1 + 1)) a0_0 a0_1) else (none)) else (none)) else ((spigotref38_Begin.f a0_0 a0_1 ((rd_T58 l1 x8_1).f0)).bind fun t158 => (if x7_1.length < 8796093022208 then ((some (x7_1 ++ [(⟨t158, 0⟩ : S56)] : List (S56))).bind fun y159 => (if 0 ≤ (wrap64 ((y159.length : Int) - 1)) then (if (wrap64 ((y159.length : Int) - 1)) < (y159.length : Int) then (spigotref38_Counts.l0 k1 l1 (y159.set ((wrap64 ((y159.length : Int) - 1)) : Int).toNat (⟨(rd_T56 y159 (wrap64 ((y159.length : Int) - 1))).f0, wrap64 (((rd_T56 y159 (wrap64 ((y159.length : Int) - 1))).f1) + ((rd_T58 l1 x8_1).f1))⟩ : S56)) (wrap64 (x8_1 + 1)) a0_0 a0_1) else (none)) else (none))) else (none))))) else (none)) else (none)) = some (r1, r2) := by first | (rw [hji26] at H; exact H) | (simp only [hji26] at H ⊢; exact H)
      (try rw [hji26] at A25)
      have hji26w : (IntKind.i64.wrap (x8_1 - 1)) = ji26 := (i64_w _).trans hji26
      by_cases c27 : 0 ≤ (ji26)
      rotate_left
      ·rw [if_neg c27] at H; exact absurd H (by simp)
      rw [if_pos c27] at H
      have c27b0 : decide (0 ≤ (ji26)) = true := decide_eq_true c27
      clear c27
      by_cases c28 : (ji26) < (l1.length : Int)
      rotate_left
      ·rw [if_neg c28] at H; exact absurd H (by simp)
      rw [if_pos c28] at H
      have c28b0 : decide ((ji26) < (l1.length : Int)) = true := decide_eq_true c28
      clear c28
      obtain ⟨t153, A29, H⟩ := bo_ H
      try dsimp only at H
      by_cases c30 : t151 = t153
      ·rw [if_pos c30] at H
       have c30b0 : (t151 == t153) = true := beq_iff_eq.mpr c30
       have c30b1 : (t151 != t153) = false := bne_eq_false_iff_eq.mpr c30
       clear c30
       obtain ⟨ji31, hji31⟩ : ∃ j_ : Int, (wrap64 ((x7_1.length : Int) - 1)) = j_ := ⟨_, rfl⟩
       replace H : (if 0 ≤ (ji31) then (if (ji31) < (x7_1.length : Int) then (spigotref38_Counts.l0 k1 l1 (x7_1.set ((ji31) : Int).toNat (⟨(rd_T56 x7_1 (ji31)).f0, wrap64 (((rd_T56 x7_1 (ji31)).f1) + ((rd_T58 l1 x8_1).f1))⟩ : S56)) (wrap64 (x8_1 + 1)) a0_0 a0_1) else (none)) else (none)) = some (r1, r2) := by first | (rw [hji31] at H; exact H) | (simp only [hji31] at H ⊢; exact H)
       (try rw [hji31] at A25)
       (try rw [hji31] at A29)
       have hji31w : (IntKind.i64.wrap ((x7_1.length : Int) - 1)) = ji31 := (i64_w _).trans hji31
       by_cases c32 : 0 ≤ (ji31)
       rotate_left
       ·rw [if_neg c32] at H; exact absurd H (by simp)
       rw [if_pos c32] at H
       have c32b0 : decide (0 ≤ (ji31)) = true := decide_eq_true c32
       clear c32
       by_cases c33 : (ji31) < (x7_1.length : Int)
       rotate_left
       ·rw [if_neg c33] at H; exact absurd H (by simp)
       rw [if_pos c33] at H
       have c33b0 : decide ((ji31) < (x7_1.length : Int)) = true := decide_eq_true c33
       clear c33
       obtain ⟨y156, hy156⟩ : ∃ y_ : List (S56), y_ = (x7_1.set ((ji31) : Int).toNat (⟨(rd_T56 x7_1 (ji31)).f0, wrap64 (((rd_T56 x7_1 (ji31)).f1) + ((rd_T58 l1 x8_1).f1))⟩ : S56)) := ⟨_, rfl⟩
       replace H : (spigotref38_Counts.l0 k1 l1 y156 (wrap64 (x8_1 + 1)) a0_0 a0_1) = some (r1, r2) := by first | (rw [hy156]; with_reducible exact H) | (have H2_ := (Option.bind_some _ _).symm.trans H; rw [hy156]; with_reducible exact H2_) | (have H2_ := (Option.bind_some _ _).symm.trans H; with_reducible exact H2_) | with_reducible exact H | (rw [hy156]; exact H) | exact H
       have Ny156 := Aside0.mk hy156
       clear hy156
       have H' := Aside0.mk H
       clear H
       try go_wp2
       replace HO_7 := Aside0.mk (Kd.R_drew HO_7.out)
       replace BK140 := Aside0.mk (blk_drew BK140.out)
       replace HB := Aside0.mk (below_drew1 HB.out)
       have p150 : 0 ≤ (x8_1 : Int) := of_decide_eq_true (by first | (with_reducible assumption) | assumption)
       have q150 : x8_1 < (l1.length : Int) := of_decide_eq_true (by first | (with_reducible assumption) | assumption)
       obtain ⟨ad150, e150, hx150_0, hx150_1⟩ := at_T58 HR1.out x8_1 p150 q150
       have hw150_1 := hx150_1
       have hw150_0 := hx150_0
       cases e150
       replace hx150_0 := (HB.out.cell (World.block_lt_of_cell? w _ hx150_0)).trans hx150_0
       replace hx150_1 := (HB.out.cell (World.block_lt_of_cell? w _ hx150_1)).trans hx150_1
       replace p150 := eq_true p150
       replace q150 := eq_true q150
       have p152 : 0 ≤ ((ji26) : Int) := of_decide_eq_true (by first | (with_reducible assumption) | assumption)
       have q152 : (ji26) < (l1.length : Int) := of_decide_eq_true (by first | (with_reducible assumption) | assumption)
       obtain ⟨ad152, e152, hx152_0, hx152_1⟩ := at_T58 HR1.out (ji26) p152 q152
       have hw152_1 := hx152_1
       have hw152_0 := hx152_0
       obtain rfl : ad150 = ad152 := (by injection e152)
       replace hx152_0 := (HB.out.cell (World.block_lt_of_cell? w _ hx152_0)).trans hx152_0
       replace hx152_1 := (HB.out.cell (World.block_lt_of_cell? w _ hx152_1)).trans hx152_1
       replace p152 := eq_true p152
       replace q152 := eq_true q152
       refine start_ (n := 20) (S := fun w' => w'.cell? ⟨gb140, 0, none⟩ = some (.int .i64 a0_0) ∧ w'.cell? ⟨gb140, 1, none⟩ = some (.int .i64 a0_1) ∧ w'.cell? (ad150.add ((x8_1).toNat * 2)) = some (.int .u64 ((rd_T58 l1 x8_1).f0)) ∧ w'.cell? ⟨(ad150.add ((x8_1).toNat * 2)).block, (ad150.add ((x8_1).toNat * 2)).off + 1, none⟩ = some (.int .i64 ((rd_T58 l1 x8_1).f1)) ∧ w'.cell? (ad150.add (((ji26)).toNat * 2)) = some (.int .u64 ((rd_T58 l1 (ji26)).f0)) ∧ w'.cell? ⟨(ad150.add (((ji26)).toNat * 2)).block, (ad150.add (((ji26)).toNat * 2)).off + 1, none⟩ = some (.int .i64 ((rd_T58 l1 (ji26)).f1))) (ds := []) (bl_ 20 0) (by kernel_rfl) rfl (by kernel_rfl) ⟨(blk_cell BK140.out 0).trans rfl, (blk_cell BK140.out 1).trans rfl, ((HB.out.cell (World.block_lt_of_cell? w _ hw150_0)).trans hw150_0), ((HB.out.cell (World.block_lt_of_cell? w _ hw150_1)).trans hw150_1), ((HB.out.cell (World.block_lt_of_cell? w _ hw152_0)).trans hw152_0), ((HB.out.cell (World.block_lt_of_cell? w _ hw152_1)).trans hw152_1)⟩ (fun hHeld => ?_); refine with_tabW spigotref38_Counts.tab8 spigotref38_Counts.bits8 (fun HT_ HW_ => ?_)
       generalize wr.drew = w35 at HO_7 BK140 HB hx150_0 hx150_1 hx152_0 hx152_1 hHeld ⊢
       refine pa_ 0 (some 21) (bl_ 20 1) HT_ ?_
       refine pa_ 1 (some 22) (bl_ 20 3) HT_ ?_
       refine pa_ 2 (some 23) (bl_ 20 7) HT_ ?_
       refine pa_ 4 (some 25) (bl_ 20 23) HT_ ?_
       refine pa_ 5 (some 26) (bl_ 20 55) HT_ ?_
       refine pa_ 6 (some 27) (bl_ 20 119) HT_ ?_
       refine pa_ 7 (some 28) (bl_ 20 247) HT_ ?_
       refine pa_ 11 (some 32) (bl_ 20 2295) HT_ ?_
       refine pa_ 12 (some 33) (bl_ 20 6391) HT_ ?_
       refine pa_ 13 (some 34) (bl_ 20 14583) HT_ ?_
       refine pa_ 14 (some 35) (bl_ 20 30967) HT_ ?_
       refine pa_ 15 (some 36) (bl_ 20 63735) HT_ ?_
       refine ta_ 3 (some 24) (bl_ 20 63743) HT_ HW_ hHeld ?_
       refine ta_ 8 (some 29) (bl_ 20 63999) HT_ HW_ hHeld ?_
       refine ta_ 10 (some 31) (bl_ 20 65023) HT_ HW_ hHeld ?_
       refine ta_ 16 (some 37) (bl_ 20 130559) HT_ HW_ hHeld ?_
       refine oa_ 9 (some 30) (bl_ 20 131071) HT_ fun K hK => ?_
       refine goesB_ Try.func32 #[.agg #[.int .i64 a0_0, .int .i64 a0_1], .int .u64 ((rd_T58 l1 x8_1).f0)] ?_
       with_reducible refine (spigotref38_Begin.calls a0_0 a0_1 ((rd_T58 l1 x8_1).f0) t151 _ A25.out).mono ?_
       rintro e w36 ⟨rfl, hb⟩
       refine ⟨_, rfl, ?_⟩
       replace HO_7 := rb_ HO_7 hb
       replace BK140 := bb_ BK140 hb
       replace HB := bs_ w hb
       clear hb
       refine hK.out _ _ ⟨(blk_cell BK140.out 0).trans rfl, (blk_cell BK140.out 1).trans rfl, ((HB.out.cell (World.block_lt_of_cell? w _ hw150_0)).trans hw150_0), ((HB.out.cell (World.block_lt_of_cell? w _ hw150_1)).trans hw150_1), ((HB.out.cell (World.block_lt_of_cell? w _ hw152_0)).trans hw152_0), ((HB.out.cell (World.block_lt_of_cell? w _ hw152_1)).trans hw152_1)⟩ (fun hHeld => ?_)
       clear hK K
       refine nm_ (some 30) ?_
       refine oa_ 17 (some 38) (bl_ 20 262143) HT_ fun K hK => ?_
       refine goes_ Try.func32 (by kernel_rfl) rfl #[.agg #[.int .i64 a0_0, .int .i64 a0_1], .int .u64 ((rd_T58 l1 (ji26)).f0)] (by rfl) rfl rfl (by (try simp only [List.map_toArray, List.map_cons, List.map_nil]); first | done | (simp only [hji26]; rfl) | rfl | (simp only [List.length_drop, List.length_take]; rfl)) ?_
       with_reducible refine (spigotref38_Begin.calls a0_0 a0_1 ((rd_T58 l1 (ji26)).f0) t153 _ A29.out).mono ?_
       rintro e w37 ⟨rfl, hb⟩
       refine ⟨_, rfl, ?_⟩
       replace HO_7 := rb_ HO_7 hb
       replace BK140 := bb_ BK140 hb
       replace HB := bs_ w hb
       clear hb
       refine hK.out _ _ ⟨(blk_cell BK140.out 0).trans rfl, (blk_cell BK140.out 1).trans rfl, ((HB.out.cell (World.block_lt_of_cell? w _ hw150_0)).trans hw150_0), ((HB.out.cell (World.block_lt_of_cell? w _ hw150_1)).trans hw150_1), ((HB.out.cell (World.block_lt_of_cell? w _ hw152_0)).trans hw152_0), ((HB.out.cell (World.block_lt_of_cell? w _ hw152_1)).trans hw152_1)⟩ (fun hHeld => ?_)
       clear hK K
       refine nm_ (some 38) ?_
       refine pa_ 18 (some 39) (bl_ 20 524287) HT_ ?_
       refine pa_ 19 (some 40) (bl_ 20 1048575) HT_ ?_
       refine done_ (done_of HT_.out (by kernel_rfl)) ?_
       try go_wp2
       replace HO_7 := Aside0.mk (Kd.R_drew HO_7.out)
       replace BK140 := Aside0.mk (blk_drew BK140.out)
       replace HB := Aside0.mk (below_drew1 HB.out)
       obtain ⟨Ao39, co39, eo39⟩ := Kd.R_slice HO_7.out
       (first | subst eo39 | (injection eo39 with f1_ f2_ f3_; have f4_ := f1_.symm; have f5_ := f3_.symm; clear f1_ f2_ f3_; subst f4_; subst f5_))
       have p154 : 0 ≤ ((ji31) : Int) := of_decide_eq_true (by first | (with_reducible assumption) | assumption)
       have q154 : (ji31) < (x7_1.length : Int) := of_decide_eq_true (by first | (with_reducible assumption) | assumption)
       obtain ⟨ad154, e154, hx154_0, hx154_1⟩ := at_T56 (Kd.R_reads' HO_7.out).2.2 (ji31) p154 q154
       cases e154
       replace p154 := eq_true p154
       replace q154 := eq_true q154
       have p155 : 0 ≤ (x8_1 : Int) := of_decide_eq_true (by first | (with_reducible assumption) | assumption)
       have q155 : x8_1 < (l1.length : Int) := of_decide_eq_true (by first | (with_reducible assumption) | assumption)
       obtain ⟨ad155, e155, hx155_0, hx155_1⟩ := at_T58 HR1.out x8_1 p155 q155
       have hw155_1 := hx155_1
       have hw155_0 := hx155_0
       obtain rfl : ad150 = ad155 := (by injection e155)
       replace hx155_0 := (HB.out.cell (World.block_lt_of_cell? w _ hx155_0)).trans hx155_0
       replace hx155_1 := (HB.out.cell (World.block_lt_of_cell? w _ hx155_1)).trans hx155_1
       replace p155 := eq_true p155
       replace q155 := eq_true q155
       have p34 : 0 ≤ ((ji31) : Int) := of_decide_eq_true (by first | (with_reducible assumption) | assumption)
       have q34 : ((ji31) : Int) < ((x7_1.length : Int) : Int) := of_decide_eq_true (by first | (with_reducible assumption) | assumption)
       obtain ⟨go34, co34, eo34, gb34, gl34, cl34, HG34⟩ := Kd.R_form HO_7.out (by omega)
       (first | cases eo34 | (injection eo34 with ea_ en_ ec_; (first | subst ea_ | (injection ea_ with ea_; subst ea_)); subst ec_; clear en_))
       have GB34 := Aside0.mk gb34
       have GG34 := Aside0.mk HG34
       clear gb34 gl34 HG34
       (first | simp only [add_plain] at hx154_0 | skip)
       (first | simp only [add_plain] at hx154_1 | skip)
       obtain ⟨ce34, hcl34, hM34, hcc34, hfr34⟩ := Kd.R_elem HO_7.out z56 ((ji31) : Int) p34 q34
       obtain rfl := k56_openM hM34
       have hx34_0 : World.cell? _ ⟨go34, ((ji31) : Int).toNat * 2, none⟩ = some (.int .u64 ((rd_T56 x7_1 (ji31)).f0)) := hcc34 0 _ rfl
       have hx34_1 : World.cell? _ ⟨go34, ((ji31) : Int).toNat * 2 + 1, none⟩ = some (.int .i64 ((rd_T56 x7_1 (ji31)).f1)) := hcc34 1 _ rfl
       have hf34_0 : World.frozen? _ ⟨go34, ((ji31) : Int).toNat * 2, none⟩ = false := hfr34 0
       have hf34_1 : World.frozen? _ ⟨go34, ((ji31) : Int).toNat * 2 + 1, none⟩ = false := hfr34 1
       clear hcl34 hcc34 hfr34 hM34
       replace p34 := eq_true p34
       replace q34 := eq_true q34
       obtain ⟨ce40, hcl40, hM40, hcc40, hfr40⟩ := Kd.R_elem HO_7.out z56 ((ji31) : Int) (of_decide_eq_true (by first | (with_reducible assumption) | assumption)) (by have h_ : ((ji31) : Int) < ((x7_1.length : Int) : Int) := of_decide_eq_true (by first | (with_reducible assumption) | assumption); first | exact h_ | (have e_ := (Kd.R_reads' HO_7.out).1; omega) | simpa using h_)
       obtain rfl := k56_openM hM40
       have HP40 := (Kd.R_seg HO_7.out ((ji31) : Int) (of_decide_eq_true (by first | (with_reducible assumption) | assumption)) (by have h_ : ((ji31) : Int) < ((x7_1.length : Int) : Int) := of_decide_eq_true (by first | (with_reducible assumption) | assumption); first | exact h_ | (have e_ := (Kd.R_reads' HO_7.out).1; omega) | simpa using h_) (seg := [.int .i64 (wrap64 (((rd_T56 x7_1 (ji31)).f1) + ((rd_T58 l1 x8_1).f1)))]) (j := 1) hcl40 hcc40 (show 2 ≤ 2 from by decide) (x' := (⟨(rd_T56 x7_1 (ji31)).f0, wrap64 (((rd_T56 x7_1 (ji31)).f1) + ((rd_T58 l1 x8_1).f1))⟩ : S56)) (k56_mkM _ _ _ (⟨(rd_T56 x7_1 (ji31)).f0, wrap64 (((rd_T56 x7_1 (ji31)).f1) + ((rd_T58 l1 x8_1).f1))⟩ : S56) ) (fun _ hk => hk)).1
       rw [← Ny156.out] at HP40
       have HQ40 := Aside0.mk HP40
       clear hcl40 hcc40 hfr40 hM40 HP40
       refine start_ (n := 16) (S := fun w' => w'.cell? ⟨go34, ((ji31)).toNat * 2, none⟩ = some (.int .u64 ((rd_T56 x7_1 (ji31)).f0)) ∧ w'.cell? ⟨go34, ((ji31)).toNat * 2 + 1, none⟩ = some (.int .i64 ((rd_T56 x7_1 (ji31)).f1)) ∧ w'.cell? (ad150.add ((x8_1).toNat * 2)) = some (.int .u64 ((rd_T58 l1 x8_1).f0)) ∧ w'.cell? ⟨(ad150.add ((x8_1).toNat * 2)).block, (ad150.add ((x8_1).toNat * 2)).off + 1, none⟩ = some (.int .i64 ((rd_T58 l1 x8_1).f1))) (ds := [15]) (bl_ 16 0) (by kernel_rfl) rfl (by kernel_rfl) ⟨hx154_0, hx154_1, ((HB.out.cell (World.block_lt_of_cell? w _ hw155_0)).trans hw155_0), ((HB.out.cell (World.block_lt_of_cell? w _ hw155_1)).trans hw155_1)⟩ (fun hHeld => ?_); refine with_tabW spigotref38_Counts.tab10 spigotref38_Counts.bits10 (fun HT_ HW_ => ?_)
       generalize w37.drew = w38 at HO_7 BK140 HB GG34 HQ40 hf34_0 hf34_1 hx154_0 hx154_1 hx155_0 hx155_1 hx34_0 hx34_1 hHeld ⊢
       refine pa_ 0 (some 52) (bl_ 16 1) HT_ ?_
       refine pa_ 1 (some 53) (bl_ 16 3) HT_ ?_
       refine pa_ 2 (some 54) (bl_ 16 7) HT_ ?_
       refine pa_ 3 (some 55) (bl_ 16 15) HT_ ?_
       refine pa_ 4 (some 56) (bl_ 16 31) HT_ ?_
       refine pa_ 5 (some 57) (bl_ 16 63) HT_ ?_
       refine pa_ 7 (some 59) (bl_ 16 191) HT_ ?_
       refine pa_ 8 (some 60) (bl_ 16 447) HT_ ?_
       refine pa_ 9 (some 61) (bl_ 16 959) HT_ ?_
       refine pa_ 10 (some 62) (bl_ 16 1983) HT_ ?_
       refine ta_ 6 (some 58) (bl_ 16 2047) HT_ HW_ hHeld ?_
       refine ta_ 11 (some 63) (bl_ 16 4095) HT_ HW_ hHeld ?_
       refine pa_ 12 (some 64) (bl_ 16 8191) HT_ ?_
       refine pa_ 13 (some 65) (bl_ 16 16383) HT_ ?_
       refine pa_ 14 (some 66) (bl_ 16 32767) HT_ ?_
       refine last_ (i := 15) (N := none) (bl_ 16 65535) rfl rfl (one_of HT_.out (by kernel_rfl)) (by decide) (fun K hK => ?_)
       refine sk_ ?_
       refine hK.out _ _ ?_
       clear hK K
       refine done_ (done_of HT_.out (by kernel_rfl)) ?_
       try go_wp2
       go_roundg k1
       case measure => have := HK1.out; omega
       case rel => exact ⟨(y156), (wrap64 (x8_1 + 1)), rf_, H', ⟨by have := HK1.out; omega⟩, ⟨by (with_reducible repeat (first | apply Kd.R_alloc | apply Kd.R_drewN | apply Kd.R_drew)); exact HQ40.out⟩, ⟨by (with_reducible repeat (first | refine blk_drewN ?_ _ | refine blk_drew ?_ | refine blk_alloc ?_ _)); refine blk_far ?_ (by have h_ := Kd.R_ne HO_7.out BK140.out (by decide); intro e_; exact h_ (by rw [e_]; rfl)) _; (with_reducible repeat (first | refine blk_drewN ?_ _ | refine blk_drew ?_ | refine blk_alloc ?_ _)); exact BK140.out⟩, ⟨by repeat (first | (with_reducible first | exact HB.out | apply below_alloc | apply pw_below_drewN | apply below_drew1 | refine below_set ?_ GB34.out | refine below_set ?_ GE140.out) | exact HB.out)⟩⟩
      ·rw [if_neg c30] at H
       have c30b0 : (t151 == t153) = false := beq_eq_false_iff_ne.mpr c30
       have c30b1 : (t151 != t153) = true := bne_iff_ne.mpr c30
       obtain ⟨t158, A41, H⟩ := bo_ H
       try dsimp only at H
       by_cases c42 : x7_1.length < 8796093022208
       rotate_left
       ·rw [if_neg c42] at H; exact absurd H (by simp)
       rw [if_pos c42] at H
       have LMc42 := Aside0.mk c42
       clear c42
       obtain ⟨y159, hy159⟩ : ∃ y_ : List (S56), y_ = (x7_1 ++ [(⟨t158, 0⟩ : S56)]) := ⟨_, rfl⟩
       replace H : (if 0 ≤ (wrap64 ((y159.length : Int) - 1)) then (if (wrap64 ((y159.length : Int) - 1)) < (y159.length : Int) then (spigotref38_Counts.l0 k1 l1 (y159.set ((wrap64 ((y159.length : Int) - 1)) : Int).toNat (⟨(rd_T56 y159 (wrap64 ((y159.length : Int) - 1))).f0, wrap64 (((rd_T56 y159 (wrap64 ((y159.length : Int) - 1))).f1) + ((rd_T58 l1 x8_1).f1))⟩ : S56)) (wrap64 (x8_1 + 1)) a0_0 a0_1) else (none)) else (none)) = some (r1, r2) := by first | (rw [hy159]; with_reducible exact H) | (have H2_ := (Option.bind_some _ _).symm.trans H; rw [hy159]; with_reducible exact H2_) | (have H2_ := (Option.bind_some _ _).symm.trans H; with_reducible exact H2_) | with_reducible exact H | (rw [hy159]; exact H) | exact H
       have Ny159 := Aside0.mk hy159
       clear hy159
       obtain ⟨ji43, hji43⟩ : ∃ j_ : Int, (wrap64 ((y159.length : Int) - 1)) = j_ := ⟨_, rfl⟩
       replace H : (if 0 ≤ (ji43) then (if (ji43) < (y159.length : Int) then (spigotref38_Counts.l0 k1 l1 (y159.set ((ji43) : Int).toNat (⟨(rd_T56 y159 (ji43)).f0, wrap64 (((rd_T56 y159 (ji43)).f1) + ((rd_T58 l1 x8_1).f1))⟩ : S56)) (wrap64 (x8_1 + 1)) a0_0 a0_1) else (none)) else (none)) = some (r1, r2) := by first | (rw [hji43] at H; exact H) | (simp only [hji43] at H ⊢; exact H)
       (try rw [hji43] at A25)
       (try rw [hji43] at A29)
       (try rw [hji43] at A41)
       have hji43w : (IntKind.i64.wrap ((y159.length : Int) - 1)) = ji43 := (i64_w _).trans hji43
       by_cases c44 : 0 ≤ (ji43)
       rotate_left
       ·rw [if_neg c44] at H; exact absurd H (by simp)
       rw [if_pos c44] at H
       have c44b0 : decide (0 ≤ (ji43)) = true := decide_eq_true c44
       clear c44
       by_cases c45 : (ji43) < (y159.length : Int)
       rotate_left
       ·rw [if_neg c45] at H; exact absurd H (by simp)
       rw [if_pos c45] at H
       have c45b0 : decide ((ji43) < (y159.length : Int)) = true := decide_eq_true c45
       clear c45
       obtain ⟨y164, hy164⟩ : ∃ y_ : List (S56), y_ = (y159.set ((ji43) : Int).toNat (⟨(rd_T56 y159 (ji43)).f0, wrap64 (((rd_T56 y159 (ji43)).f1) + ((rd_T58 l1 x8_1).f1))⟩ : S56)) := ⟨_, rfl⟩
       replace H : (spigotref38_Counts.l0 k1 l1 y164 (wrap64 (x8_1 + 1)) a0_0 a0_1) = some (r1, r2) := by first | (rw [hy164]; with_reducible exact H) | (have H2_ := (Option.bind_some _ _).symm.trans H; rw [hy164]; with_reducible exact H2_) | (have H2_ := (Option.bind_some _ _).symm.trans H; with_reducible exact H2_) | with_reducible exact H | (rw [hy164]; exact H) | exact H
       have Ny164 := Aside0.mk hy164
       clear hy164
       have H' := Aside0.mk H
       clear H
       try go_wp2
       replace HO_7 := Aside0.mk (Kd.R_drew HO_7.out)
       replace BK140 := Aside0.mk (blk_drew BK140.out)
       replace HB := Aside0.mk (below_drew1 HB.out)
       have p150 : 0 ≤ (x8_1 : Int) := of_decide_eq_true (by first | (with_reducible assumption) | assumption)
       have q150 : x8_1 < (l1.length : Int) := of_decide_eq_true (by first | (with_reducible assumption) | assumption)
       obtain ⟨ad150, e150, hx150_0, hx150_1⟩ := at_T58 HR1.out x8_1 p150 q150
       have hw150_1 := hx150_1
       have hw150_0 := hx150_0
       cases e150
       replace hx150_0 := (HB.out.cell (World.block_lt_of_cell? w _ hx150_0)).trans hx150_0
       replace hx150_1 := (HB.out.cell (World.block_lt_of_cell? w _ hx150_1)).trans hx150_1
       replace p150 := eq_true p150
       replace q150 := eq_true q150
       have p152 : 0 ≤ ((ji26) : Int) := of_decide_eq_true (by first | (with_reducible assumption) | assumption)
       have q152 : (ji26) < (l1.length : Int) := of_decide_eq_true (by first | (with_reducible assumption) | assumption)
       obtain ⟨ad152, e152, hx152_0, hx152_1⟩ := at_T58 HR1.out (ji26) p152 q152
       have hw152_1 := hx152_1
       have hw152_0 := hx152_0
       obtain rfl : ad150 = ad152 := (by injection e152)
       replace hx152_0 := (HB.out.cell (World.block_lt_of_cell? w _ hx152_0)).trans hx152_0
       replace hx152_1 := (HB.out.cell (World.block_lt_of_cell? w _ hx152_1)).trans hx152_1
       replace p152 := eq_true p152
       replace q152 := eq_true q152
       refine start_ (n := 20) (S := fun w' => w'.cell? ⟨gb140, 0, none⟩ = some (.int .i64 a0_0) ∧ w'.cell? ⟨gb140, 1, none⟩ = some (.int .i64 a0_1) ∧ w'.cell? (ad150.add ((x8_1).toNat * 2)) = some (.int .u64 ((rd_T58 l1 x8_1).f0)) ∧ w'.cell? ⟨(ad150.add ((x8_1).toNat * 2)).block, (ad150.add ((x8_1).toNat * 2)).off + 1, none⟩ = some (.int .i64 ((rd_T58 l1 x8_1).f1)) ∧ w'.cell? (ad150.add (((ji26)).toNat * 2)) = some (.int .u64 ((rd_T58 l1 (ji26)).f0)) ∧ w'.cell? ⟨(ad150.add (((ji26)).toNat * 2)).block, (ad150.add (((ji26)).toNat * 2)).off + 1, none⟩ = some (.int .i64 ((rd_T58 l1 (ji26)).f1))) (ds := []) (bl_ 20 0) (by kernel_rfl) rfl (by kernel_rfl) ⟨(blk_cell BK140.out 0).trans rfl, (blk_cell BK140.out 1).trans rfl, ((HB.out.cell (World.block_lt_of_cell? w _ hw150_0)).trans hw150_0), ((HB.out.cell (World.block_lt_of_cell? w _ hw150_1)).trans hw150_1), ((HB.out.cell (World.block_lt_of_cell? w _ hw152_0)).trans hw152_0), ((HB.out.cell (World.block_lt_of_cell? w _ hw152_1)).trans hw152_1)⟩ (fun hHeld => ?_); refine with_tabW spigotref38_Counts.tab8 spigotref38_Counts.bits8 (fun HT_ HW_ => ?_)
       generalize wr.drew = w47 at HO_7 BK140 HB hx150_0 hx150_1 hx152_0 hx152_1 hHeld ⊢
       refine pa_ 0 (some 21) (bl_ 20 1) HT_ ?_
       refine pa_ 1 (some 22) (bl_ 20 3) HT_ ?_
       refine pa_ 2 (some 23) (bl_ 20 7) HT_ ?_
       refine pa_ 4 (some 25) (bl_ 20 23) HT_ ?_
       refine pa_ 5 (some 26) (bl_ 20 55) HT_ ?_
       refine pa_ 6 (some 27) (bl_ 20 119) HT_ ?_
       refine pa_ 7 (some 28) (bl_ 20 247) HT_ ?_
       refine pa_ 11 (some 32) (bl_ 20 2295) HT_ ?_
       refine pa_ 12 (some 33) (bl_ 20 6391) HT_ ?_
       refine pa_ 13 (some 34) (bl_ 20 14583) HT_ ?_
       refine pa_ 14 (some 35) (bl_ 20 30967) HT_ ?_
       refine pa_ 15 (some 36) (bl_ 20 63735) HT_ ?_
       refine ta_ 3 (some 24) (bl_ 20 63743) HT_ HW_ hHeld ?_
       refine ta_ 8 (some 29) (bl_ 20 63999) HT_ HW_ hHeld ?_
       refine ta_ 10 (some 31) (bl_ 20 65023) HT_ HW_ hHeld ?_
       refine ta_ 16 (some 37) (bl_ 20 130559) HT_ HW_ hHeld ?_
       refine oa_ 9 (some 30) (bl_ 20 131071) HT_ fun K hK => ?_
       refine goesB_ Try.func32 #[.agg #[.int .i64 a0_0, .int .i64 a0_1], .int .u64 ((rd_T58 l1 x8_1).f0)] ?_
       with_reducible refine (spigotref38_Begin.calls a0_0 a0_1 ((rd_T58 l1 x8_1).f0) t151 _ A25.out).mono ?_
       rintro e w48 ⟨rfl, hb⟩
       refine ⟨_, rfl, ?_⟩
       replace HO_7 := rb_ HO_7 hb
       replace BK140 := bb_ BK140 hb
       replace HB := bs_ w hb
       clear hb
       refine hK.out _ _ ⟨(blk_cell BK140.out 0).trans rfl, (blk_cell BK140.out 1).trans rfl, ((HB.out.cell (World.block_lt_of_cell? w _ hw150_0)).trans hw150_0), ((HB.out.cell (World.block_lt_of_cell? w _ hw150_1)).trans hw150_1), ((HB.out.cell (World.block_lt_of_cell? w _ hw152_0)).trans hw152_0), ((HB.out.cell (World.block_lt_of_cell? w _ hw152_1)).trans hw152_1)⟩ (fun hHeld => ?_)
       clear hK K
       refine nm_ (some 30) ?_
       refine oa_ 17 (some 38) (bl_ 20 262143) HT_ fun K hK => ?_
       refine goes_ Try.func32 (by kernel_rfl) rfl #[.agg #[.int .i64 a0_0, .int .i64 a0_1], .int .u64 ((rd_T58 l1 (ji26)).f0)] (by rfl) rfl rfl (by (try simp only [List.map_toArray, List.map_cons, List.map_nil]); first | done | (simp only [hji26]; rfl) | rfl | (simp only [List.length_drop, List.length_take]; rfl)) ?_
       with_reducible refine (spigotref38_Begin.calls a0_0 a0_1 ((rd_T58 l1 (ji26)).f0) t153 _ A29.out).mono ?_
       rintro e w49 ⟨rfl, hb⟩
       refine ⟨_, rfl, ?_⟩
       replace HO_7 := rb_ HO_7 hb
       replace BK140 := bb_ BK140 hb
       replace HB := bs_ w hb
       clear hb
       refine hK.out _ _ ⟨(blk_cell BK140.out 0).trans rfl, (blk_cell BK140.out 1).trans rfl, ((HB.out.cell (World.block_lt_of_cell? w _ hw150_0)).trans hw150_0), ((HB.out.cell (World.block_lt_of_cell? w _ hw150_1)).trans hw150_1), ((HB.out.cell (World.block_lt_of_cell? w _ hw152_0)).trans hw152_0), ((HB.out.cell (World.block_lt_of_cell? w _ hw152_1)).trans hw152_1)⟩ (fun hHeld => ?_)
       clear hK K
       refine nm_ (some 38) ?_
       refine pa_ 18 (some 39) (bl_ 20 524287) HT_ ?_
       refine pa_ 19 (some 40) (bl_ 20 1048575) HT_ ?_
       refine done_ (done_of HT_.out (by kernel_rfl)) ?_
       try go_wp2
       replace HO_7 := Aside0.mk (Kd.R_drew HO_7.out)
       replace BK140 := Aside0.mk (blk_drew BK140.out)
       replace HB := Aside0.mk (below_drew1 HB.out)
       have p157 : 0 ≤ (x8_1 : Int) := of_decide_eq_true (by first | (with_reducible assumption) | assumption)
       have q157 : x8_1 < (l1.length : Int) := of_decide_eq_true (by first | (with_reducible assumption) | assumption)
       obtain ⟨ad157, e157, hx157_0, hx157_1⟩ := at_T58 HR1.out x8_1 p157 q157
       have hw157_1 := hx157_1
       have hw157_0 := hx157_0
       obtain rfl : ad150 = ad157 := (by injection e157)
       replace hx157_0 := (HB.out.cell (World.block_lt_of_cell? w _ hx157_0)).trans hx157_0
       replace hx157_1 := (HB.out.cell (World.block_lt_of_cell? w _ hx157_1)).trans hx157_1
       replace p157 := eq_true p157
       replace q157 := eq_true q157
       refine start_ (n := 12) (S := fun w' => w'.cell? ⟨gb140, 0, none⟩ = some (.int .i64 a0_0) ∧ w'.cell? ⟨gb140, 1, none⟩ = some (.int .i64 a0_1) ∧ w'.cell? (ad150.add ((x8_1).toNat * 2)) = some (.int .u64 ((rd_T58 l1 x8_1).f0)) ∧ w'.cell? ⟨(ad150.add ((x8_1).toNat * 2)).block, (ad150.add ((x8_1).toNat * 2)).off + 1, none⟩ = some (.int .i64 ((rd_T58 l1 x8_1).f1))) (ds := []) (bl_ 12 0) (by kernel_rfl) rfl (by kernel_rfl) ⟨(blk_cell BK140.out 0).trans rfl, (blk_cell BK140.out 1).trans rfl, ((HB.out.cell (World.block_lt_of_cell? w _ hw157_0)).trans hw157_0), ((HB.out.cell (World.block_lt_of_cell? w _ hw157_1)).trans hw157_1)⟩ (fun hHeld => ?_); refine with_tabW spigotref38_Counts.tab9 spigotref38_Counts.bits9 (fun HT_ HW_ => ?_)
       generalize w49.drew = w50 at HO_7 BK140 HB hx157_0 hx157_1 hHeld ⊢
       refine pa_ 0 (some 41) (bl_ 12 1) HT_ ?_
       refine pa_ 2 (some 43) (bl_ 12 5) HT_ ?_
       refine pa_ 3 (some 44) (bl_ 12 13) HT_ ?_
       refine pa_ 4 (some 45) (bl_ 12 29) HT_ ?_
       refine pa_ 5 (some 46) (bl_ 12 61) HT_ ?_
       refine ta_ 1 (some 42) (bl_ 12 63) HT_ HW_ hHeld ?_
       refine ta_ 6 (some 47) (bl_ 12 127) HT_ HW_ hHeld ?_
       refine oa_ 7 (some 48) (bl_ 12 255) HT_ fun K hK => ?_
       refine goesB_ Try.func32 #[.agg #[.int .i64 a0_0, .int .i64 a0_1], .int .u64 ((rd_T58 l1 x8_1).f0)] ?_
       with_reducible refine (spigotref38_Begin.calls a0_0 a0_1 ((rd_T58 l1 x8_1).f0) t158 _ A41.out).mono ?_
       rintro e w51 ⟨rfl, hb⟩
       refine ⟨_, rfl, ?_⟩
       replace HO_7 := rb_ HO_7 hb
       replace BK140 := bb_ BK140 hb
       replace HB := bs_ w hb
       clear hb
       refine hK.out _ _ ⟨(blk_cell BK140.out 0).trans rfl, (blk_cell BK140.out 1).trans rfl, ((HB.out.cell (World.block_lt_of_cell? w _ hw157_0)).trans hw157_0), ((HB.out.cell (World.block_lt_of_cell? w _ hw157_1)).trans hw157_1)⟩ (fun hHeld => ?_)
       clear hK K
       refine nm_ (some 48) ?_
       refine pa_ 8 (some 49) (bl_ 12 511) HT_ ?_
       refine oa_ 9 (some 50) (bl_ 12 1023) HT_ fun K hK => ?_
       refine value_ (w1 := ?_) (v := ?_) (by rfl) rfl ?_ ?_
       rotate_left 2
       ·go_simp
        constructor
        ·rfl
        ·rfl
       refine hK.out _ _ ⟨(blk_cell (blk_alloc BK140.out _) 0).trans rfl, (blk_cell (blk_alloc BK140.out _) 1).trans rfl, (World.cell?_alloc_lt _ _ _ (World.block_lt_of_cell? _ _ (((HB.out.cell (World.block_lt_of_cell? w _ hw157_0)).trans hw157_0)))).trans (((HB.out.cell (World.block_lt_of_cell? w _ hw157_0)).trans hw157_0)), (World.cell?_alloc_lt _ _ _ (World.block_lt_of_cell? _ _ (((HB.out.cell (World.block_lt_of_cell? w _ hw157_1)).trans hw157_1)))).trans (((HB.out.cell (World.block_lt_of_cell? w _ hw157_1)).trans hw157_1))⟩ (fun hHeld => ?_)
       clear hK K
       refine nm_ (some 50) ?_
       refine oa_ 10 (some 51) (bl_ 12 2047) HT_ fun K hK => ?_
       refine Kd.R_append_step k56 (w0 := w) w.heap.size (by rfl) (.tmp 41) (.tmp 50) 26 56 (.agg #[(.int .u64 0), (.int .i64 0)]) 16 rfl Try.underlying26 info56 rfl (by decide) (by omega) u7 x7_1 (⟨t158, 0⟩ : S56) [.int .u64 t158, .int .i64 0] (fun _ => True) (fun _ => False) rfl rfl ?aP (fun _ hk => hk.elim) ?aF ?aO ?aB ?aS ?aL ?_
       (case aP => exact k56_mkM _ _ _ (⟨t158, 0⟩ : S56))
       (case aB => exact bh_)
       (case aF => exact (fun _ _ => trivial))
       (case aO => exact (rs_ HO_7))
       (case aS => exact (below_size bh_))
       (case aL => have := LMc42.out; omega)
       intro v160 w52 ho hb hg hat
       rw [← Ny159.out] at ho
       have HO161 := Aside0.mk (ho)
       replace BK140 := Aside0.mk (blk_grown (g := gb140) (o := .cells #[.int .i64 a0_0, .int .i64 a0_1] 23 (0, 0)) (bq_ BK140) hg (Kd.R_ne HO_7.out BK140.out (by decide)))
       replace HB := Aside0.mk (hb)
       clear HO_7
       clear ho hb hg hat
       refine hK.out _ _ ⟨(blk_cell BK140.out 0).trans rfl, (blk_cell BK140.out 1).trans rfl, ((HB.out.cell (World.block_lt_of_cell? w _ hw157_0)).trans hw157_0), ((HB.out.cell (World.block_lt_of_cell? w _ hw157_1)).trans hw157_1)⟩ (fun hHeld => ?_)
       clear hK K
       refine nm_ (some 51) ?_
       refine pa_ 11 (some 7) (bl_ 12 4095) HT_ ?_
       refine done_ (done_of HT_.out (by kernel_rfl)) ?_
       try go_wp2
       replace HO161 := Aside0.mk (Kd.R_drew HO161.out)
       replace BK140 := Aside0.mk (blk_drew BK140.out)
       replace HB := Aside0.mk (below_drew1 HB.out)
       obtain ⟨Ao54, co54, eo54⟩ := Kd.R_slice HO161.out
       (first | subst eo54 | (injection eo54 with f1_ f2_ f3_; have f4_ := f1_.symm; have f5_ := f3_.symm; clear f1_ f2_ f3_; subst f4_; subst f5_))
       have p162 : 0 ≤ ((ji43) : Int) := of_decide_eq_true (by first | (with_reducible assumption) | assumption)
       have q162 : (ji43) < (y159.length : Int) := of_decide_eq_true (by first | (with_reducible assumption) | assumption)
       obtain ⟨ad162, e162, hx162_0, hx162_1⟩ := at_T56 (Kd.R_reads' HO161.out).2.2 (ji43) p162 q162
       cases e162
       replace p162 := eq_true p162
       replace q162 := eq_true q162
       have p163 : 0 ≤ (x8_1 : Int) := of_decide_eq_true (by first | (with_reducible assumption) | assumption)
       have q163 : x8_1 < (l1.length : Int) := of_decide_eq_true (by first | (with_reducible assumption) | assumption)
       obtain ⟨ad163, e163, hx163_0, hx163_1⟩ := at_T58 HR1.out x8_1 p163 q163
       have hw163_1 := hx163_1
       have hw163_0 := hx163_0
       obtain rfl : ad150 = ad163 := (by injection e163)
       replace hx163_0 := (HB.out.cell (World.block_lt_of_cell? w _ hx163_0)).trans hx163_0
       replace hx163_1 := (HB.out.cell (World.block_lt_of_cell? w _ hx163_1)).trans hx163_1
       replace p163 := eq_true p163
       replace q163 := eq_true q163
       have p46 : 0 ≤ ((ji43) : Int) := of_decide_eq_true (by first | (with_reducible assumption) | assumption)
       have q46 : ((ji43) : Int) < ((y159.length : Int) : Int) := of_decide_eq_true (by first | (with_reducible assumption) | assumption)
       obtain ⟨go46, co46, eo46, gb46, gl46, cl46, HG46⟩ := Kd.R_form HO161.out (by omega)
       (first | cases eo46 | (injection eo46 with ea_ en_ ec_; (first | subst ea_ | (injection ea_ with ea_; subst ea_)); subst ec_; clear en_))
       have GB46 := Aside0.mk gb46
       have GG46 := Aside0.mk HG46
       clear gb46 gl46 HG46
       (first | simp only [add_plain] at hx162_0 | skip)
       (first | simp only [add_plain] at hx162_1 | skip)
       obtain ⟨ce46, hcl46, hM46, hcc46, hfr46⟩ := Kd.R_elem HO161.out z56 ((ji43) : Int) p46 q46
       obtain rfl := k56_openM hM46
       have hx46_0 : World.cell? _ ⟨go46, ((ji43) : Int).toNat * 2, none⟩ = some (.int .u64 ((rd_T56 y159 (ji43)).f0)) := hcc46 0 _ rfl
       have hx46_1 : World.cell? _ ⟨go46, ((ji43) : Int).toNat * 2 + 1, none⟩ = some (.int .i64 ((rd_T56 y159 (ji43)).f1)) := hcc46 1 _ rfl
       have hf46_0 : World.frozen? _ ⟨go46, ((ji43) : Int).toNat * 2, none⟩ = false := hfr46 0
       have hf46_1 : World.frozen? _ ⟨go46, ((ji43) : Int).toNat * 2 + 1, none⟩ = false := hfr46 1
       clear hcl46 hcc46 hfr46 hM46
       replace p46 := eq_true p46
       replace q46 := eq_true q46
       obtain ⟨ce55, hcl55, hM55, hcc55, hfr55⟩ := Kd.R_elem HO161.out z56 ((ji43) : Int) (of_decide_eq_true (by first | (with_reducible assumption) | assumption)) (by have h_ : ((ji43) : Int) < ((y159.length : Int) : Int) := of_decide_eq_true (by first | (with_reducible assumption) | assumption); first | exact h_ | (have e_ := (Kd.R_reads' HO161.out).1; omega) | simpa using h_)
       obtain rfl := k56_openM hM55
       have HP55 := (Kd.R_seg HO161.out ((ji43) : Int) (of_decide_eq_true (by first | (with_reducible assumption) | assumption)) (by have h_ : ((ji43) : Int) < ((y159.length : Int) : Int) := of_decide_eq_true (by first | (with_reducible assumption) | assumption); first | exact h_ | (have e_ := (Kd.R_reads' HO161.out).1; omega) | simpa using h_) (seg := [.int .i64 (wrap64 (((rd_T56 y159 (ji43)).f1) + ((rd_T58 l1 x8_1).f1)))]) (j := 1) hcl55 hcc55 (show 2 ≤ 2 from by decide) (x' := (⟨(rd_T56 y159 (ji43)).f0, wrap64 (((rd_T56 y159 (ji43)).f1) + ((rd_T58 l1 x8_1).f1))⟩ : S56)) (k56_mkM _ _ _ (⟨(rd_T56 y159 (ji43)).f0, wrap64 (((rd_T56 y159 (ji43)).f1) + ((rd_T58 l1 x8_1).f1))⟩ : S56) ) (fun _ hk => hk)).1
       rw [← Ny164.out] at HP55
       have HQ55 := Aside0.mk HP55
       clear hcl55 hcc55 hfr55 hM55 HP55
       refine start_ (n := 16) (S := fun w' => w'.cell? ⟨go46, ((ji43)).toNat * 2, none⟩ = some (.int .u64 ((rd_T56 y159 (ji43)).f0)) ∧ w'.cell? ⟨go46, ((ji43)).toNat * 2 + 1, none⟩ = some (.int .i64 ((rd_T56 y159 (ji43)).f1)) ∧ w'.cell? (ad150.add ((x8_1).toNat * 2)) = some (.int .u64 ((rd_T58 l1 x8_1).f0)) ∧ w'.cell? ⟨(ad150.add ((x8_1).toNat * 2)).block, (ad150.add ((x8_1).toNat * 2)).off + 1, none⟩ = some (.int .i64 ((rd_T58 l1 x8_1).f1))) (ds := [15]) (bl_ 16 0) (by kernel_rfl) rfl (by kernel_rfl) ⟨hx162_0, hx162_1, ((HB.out.cell (World.block_lt_of_cell? w _ hw163_0)).trans hw163_0), ((HB.out.cell (World.block_lt_of_cell? w _ hw163_1)).trans hw163_1)⟩ (fun hHeld => ?_); refine with_tabW spigotref38_Counts.tab10 spigotref38_Counts.bits10 (fun HT_ HW_ => ?_)
       generalize w52.drew = w53 at HO161 BK140 HB GG46 HQ55 hf46_0 hf46_1 hx162_0 hx162_1 hx163_0 hx163_1 hx46_0 hx46_1 hHeld ⊢
       refine pa_ 0 (some 52) (bl_ 16 1) HT_ ?_
       refine pa_ 1 (some 53) (bl_ 16 3) HT_ ?_
       refine pa_ 2 (some 54) (bl_ 16 7) HT_ ?_
       refine pa_ 3 (some 55) (bl_ 16 15) HT_ ?_
       refine pa_ 4 (some 56) (bl_ 16 31) HT_ ?_
       refine pa_ 5 (some 57) (bl_ 16 63) HT_ ?_
       refine pa_ 7 (some 59) (bl_ 16 191) HT_ ?_
       refine pa_ 8 (some 60) (bl_ 16 447) HT_ ?_
       refine pa_ 9 (some 61) (bl_ 16 959) HT_ ?_
       refine pa_ 10 (some 62) (bl_ 16 1983) HT_ ?_
       refine ta_ 6 (some 58) (bl_ 16 2047) HT_ HW_ hHeld ?_
       refine ta_ 11 (some 63) (bl_ 16 4095) HT_ HW_ hHeld ?_
       refine pa_ 12 (some 64) (bl_ 16 8191) HT_ ?_
       refine pa_ 13 (some 65) (bl_ 16 16383) HT_ ?_
       refine pa_ 14 (some 66) (bl_ 16 32767) HT_ ?_
       refine last_ (i := 15) (N := none) (bl_ 16 65535) rfl rfl (one_of HT_.out (by kernel_rfl)) (by decide) (fun K hK => ?_)
       refine sk_ ?_
       refine hK.out _ _ ?_
       clear hK K
       refine done_ (done_of HT_.out (by kernel_rfl)) ?_
       try go_wp2
       go_roundg k1
       case measure => have := HK1.out; omega
       case rel => exact ⟨(y164), (wrap64 (x8_1 + 1)), rf_, H', ⟨by have := HK1.out; omega⟩, ⟨by (with_reducible repeat (first | apply Kd.R_alloc | apply Kd.R_drewN | apply Kd.R_drew)); exact HQ55.out⟩, ⟨by (with_reducible repeat (first | refine blk_drewN ?_ _ | refine blk_drew ?_ | refine blk_alloc ?_ _)); refine blk_far ?_ (by have h_ := Kd.R_ne HO161.out BK140.out (by decide); intro e_; exact h_ (by rw [e_]; rfl)) _; (with_reducible repeat (first | refine blk_drewN ?_ _ | refine blk_drew ?_ | refine blk_alloc ?_ _)); exact BK140.out⟩, ⟨by repeat (first | (with_reducible first | exact HB.out | apply below_alloc | apply pw_below_drewN | apply below_drew1 | refine below_set ?_ GB46.out | refine below_set ?_ GE140.out) | exact HB.out)⟩⟩
    ·rw [if_neg c8] at H
     have c8b0 : decide (x8_1 < (l1.length : Int)) = false := decide_eq_false c8
     clear c8
     simp only [Option.some.injEq, Prod.mk.injEq] at H
     obtain ⟨rfl, rfl⟩ := H
     go_wp2
     go_ret2
     exact ⟨_, by first | rfl | (simp [errW_none, errW_some] <;> rfl) | (simp [*, errW_none, errW_some] <;> rfl), by (with_reducible repeat (first | apply Kd.R_alloc | apply Kd.R_drewN | apply Kd.R_drew)); exact HO_7.out, by repeat (first | (with_reducible first | exact HB.out | apply below_alloc | apply pw_below_drewN | apply below_drew1 | refine below_set ?_ GE140.out) | exact HB.out)⟩
 ·rw [if_neg c4] at H
  have c4b0 : (t141 == 0) = false := beq_eq_false_iff_ne.mpr c4
  have c4b1 : (t141 != 0) = true := bne_iff_ne.mpr c4
  simp only [Option.some.injEq, Prod.mk.injEq] at H
  obtain ⟨rfl, rfl⟩ := H
  go_enter Try.func11, Try.ntmps11
  go_wp2_with (first | ((with_reducible refine gate_dst (N := 2) rfl ?_); (try refine ug_ (by rfl) ?_); refine bx_ #[.int .i64 a0_0, .int .i64 a0_1] 23 ?_; intro gb140 hg w56 BK140 hb; have GW140 := bz_ w hg; have GE140 := GW140; replace HB := bs_ w hb; clear hb hg; replace hc140 := ce2_ BK140) | ((with_reducible refine gate_callee (f := 31) rfl ?_); (try refine ug_ (by rfl) ?_); refine goesA_ (some 11) Try.func31 #[.agg #[.int .i64 a0_0, .int .i64 a0_1], .slice A1 l1.length c1] ?_; (with_reducible refine (spigotref38_both.calls k a0_0 a0_1 _ _ l1 t141 _ ?side1 ?side2 A3.out).mono ?_); (case side1 => exact cs_ HR1 HB); (case side2 => exact HC1.out); rintro e w58 ⟨rfl, hb⟩; refine ⟨_, rfl, ?_⟩; replace BK140 := bb_ BK140 hb; replace HB := bs_ w hb; clear hb))
  go_ret2
  exact ⟨_, by first | rfl | (simp [errW_none, errW_some] <;> rfl) | (simp [*, errW_none, errW_some] <;> rfl), by first | exact Kd.R_nil _ _ _ _ _ | exact Kd.N_nil _ _ _ _ _ | exact Kd.V_nil _ _ _ _ _ | exact Kd.Q_nil _ _ _ _ _ | exact Kd.S_nil _ _ _ _ _, by repeat (first | (with_reducible first | exact HB.out | apply below_alloc | apply pw_below_drewN | apply below_drew1 | refine below_set ?_ GE140.out) | exact HB.out)⟩

end Go.Proofs.Ytjjmnafhaneflaa.X
