-- written by xprint.py, a program of this session over the kit's print
import Derived.Test.YtaegpnbgppjicaaX0
import Derived.Test.YtaegpnbgppjicaaX16
import Derived.Test.YtaegpnbgppjicaaX21
namespace Go.Proofs.Ytaegpnbgppjicaa.X
open Go.RowKit Go.Proofs.YtaegpnbgppjicaaW.PrintWords Go.Proofs.YtaegpnbgppjicaaW.PrintLast Go.Proofs.YtaegpnbgppjicaaW.PrintMore
attribute [local go_sem] max2_int min2_int max_two min_two max_three min_three max_four min_four   -- for this text's walks alone
set_option linter.unusedVariables false
set_option linter.unusedSimpArgs false

/-! ### spigotref04_Run: function 13 -/
def spigotref04_Run.l0 : Nat → List Int → List Int → List (S37) → List Bool → Int → Option ((List (S37)) × List Bool × Int)
  | 0, _, _, _, _, _ => none
  | k + 1, x1, x2, x9, x10, x11 => if x11 < (x1.length : Int) then (if 0 ≤ x11 then (if x11 < (x2.length : Int) then ((spigotref04_taken.f k x9 (rd x1 x11) (rd x2 x11)).bind fun bt258 => (if x10.length < 140737488355328 then (spigotref04_Run.l0 k x1 x2 bt258.1 (x10 ++ [bt258.2]) (wrap64 (x11 + 1))) else (none))) else (none)) else (none)) else (some (x9, x10, 0))
def spigotref04_Run.f (k : Nat) (l0 : List (S37)) (l1 : List Int) (l2 : List Int) : Option ((List (S37)) × List Bool × Int) := (spigotref04_Check.f k l0).bind fun t247 => (if t247 = 0 then (if (l1.length : Int) > 200 then (some (([] : List (S37)), ([] : List Bool), 4)) else ((spigotref04_Costs.f k l1 l2).bind fun t249 => (if t249 = true then ((some (([] : List (S37)) : List (S37))).bind fun y250 => (if y250.length + l0.length < 2932031007402 then (spigotref04_Run.l0 k l1 l2 (y250 ++ l0) ([] : List Bool) 0) else (none))) else (some (([] : List (S37)), ([] : List Bool), 2))))) else ((spigotref04_Check.f k l0).bind fun t248 => (some (([] : List (S37)), ([] : List Bool), t248))))
theorem spigotref04_Run.mono_l : ∀ k, (∀ y0 y1 y2 y3 y4, LeO (spigotref04_Run.l0 k y0 y1 y2 y3 y4) (spigotref04_Run.l0 (k + 1) y0 y1 y2 y3 y4))
  | 0 => fun _ _ _ _ _ r h => by simp [spigotref04_Run.l0] at h
  | k + 1 => by
    have ih0 := spigotref04_Run.mono_l k
    · intro y0 y1 y2 y3 y4
      unfold spigotref04_Run.l0
      repeat' first
      | (with_reducible exact ih0 _ _ _ _ _)
      | (with_reducible exact spigotref04_Check.mono _ _)
      | (with_reducible exact spigotref04_Costs.mono _ _ _)
      | (with_reducible exact spigotref04_taken.mono _ _ _ _)
      | (with_reducible exact LeO.refl _)
      | (with_reducible exact LeO.none _)
      | (with_reducible refine LeO.ite ?_ ?_)
      | (with_reducible refine LeO.bind ?_ (fun _ => ?_))
      | exact ih0 _ _ _ _ _
      | exact spigotref04_Check.mono _ _
      | exact spigotref04_Costs.mono _ _ _
      | exact spigotref04_taken.mono _ _ _ _
      | exact LeO.none _
      | refine LeO.ite ?_ ?_
      | refine LeO.bind ?_ (fun _ => ?_)
theorem spigotref04_Run.mono : ∀ a0 a1 a2 k, LeO (spigotref04_Run.f k a0 a1 a2) (spigotref04_Run.f (k + 1) a0 a1 a2) := by
  intro a0 a1 a2 k
  have ih0 := spigotref04_Run.mono_l k
  unfold spigotref04_Run.f
  repeat' first
      | (with_reducible exact ih0 _ _ _ _ _)
      | (with_reducible exact spigotref04_Check.mono _ _)
      | (with_reducible exact spigotref04_Costs.mono _ _ _)
      | (with_reducible exact spigotref04_taken.mono _ _ _ _)
      | (with_reducible exact LeO.refl _)
      | (with_reducible exact LeO.none _)
      | (with_reducible refine LeO.ite ?_ ?_)
      | (with_reducible refine LeO.bind ?_ (fun _ => ?_))
      | exact ih0 _ _ _ _ _
      | exact spigotref04_Check.mono _ _
      | exact spigotref04_Costs.mono _ _ _
      | exact spigotref04_taken.mono _ _ _ _
      | exact LeO.none _
      | refine LeO.ite ?_ ?_
      | refine LeO.bind ?_ (fun _ => ?_)
def spigotref04_Run.T12 : Bool × List (List Nat × List Nat) := (true, [([], []), ([], []), ([], []), ([1, 2], [1, 2]), ([3], [3]), ([], []), ([], []), ([5, 6], [5, 6]), ([7], [7]), ([0, 4, 8], [0, 4, 8]), ([9], [9]), ([10], [10]), ([10], [10]), ([11, 9, 0, 1, 2, 3, 4, 5, 6, 7, 8, 9, 10, 11], [11]), ([12, 13, 0, 1, 2, 3, 4, 5, 6, 7, 8, 9, 10, 11, 12, 13], [12])])
def spigotref04_Run.B12 : List Nat := [0, 0, 0, 6, 14, 0, 0, 96, 224, 511, 1023, 2047, 2047, 4095, 16383]
theorem spigotref04_Run.tab12 : rtab .any (opsOf Try.f13 12) = spigotref04_Run.T12 := by kernel_rfl
theorem spigotref04_Run.bits12 : waitsOk spigotref04_Run.T12.2 spigotref04_Run.B12 = true := by kernel_rfl
set_option maxHeartbeats 8000000 in
set_option maxRecDepth 100000 in
theorem spigotref04_Run.calls (k : Nat) (A0 : Option Addr) (c0 : Nat) (l0 : List (S37)) (A1 : Option Addr) (c1 : Nat) (l1 : List Int) (A2 : Option Addr) (c2 : Nat) (l2 : List Int) (r1 : List (S37)) (r2 : List Bool) (r3 : Int) (w : World) (hr0 : Kd.C k37 w A0 l0.length l0) (hc0 : l0.length ≤ c0) (hr1 : Kd.C (Kd.int .u64) w A1 l1.length l1) (hc1 : l1.length ≤ c1) (hr2 : Kd.C (Kd.int .i64) w A2 l2.length l2) (hc2 : l2.length ≤ c2) (h : spigotref04_Run.f k l0 l1 l2 = some (r1, r2, r3)) :
  Calls Try.prog 13 #[.slice A0 l0.length c0, .slice A1 l1.length c1, .slice A2 l2.length c2] w fun e w' => ∃ v0_ v1_ : Value, e = .returned (.tuple #[v0_, v1_, .int .i64 r3]) ∧ Kd.R k37 37 w' w.heap.size (fun _ => True) v0_ r1 ∧ Kd.R Kd.bool 4 w' w.heap.size (fun _ => True) v1_ r2 ∧ Below w.heap.size w w' := by
 have HR0 := Aside0.mk hr0
 have HC0 := Aside0.mk hc0
 clear hr0 hc0
 have HR1 := Aside0.mk hr1
 have HC1 := Aside0.mk hc1
 clear hr1 hc1
 have HR2 := Aside0.mk hr2
 have HC2 := Aside0.mk hc2
 clear hr2 hc2
 have HB := Aside0.mk (Below.refl w.heap.size w)
 have H : ((spigotref04_Check.f k l0).bind fun t247 => (if t247 = 0 then (if (l1.length : Int) > 200 then (some (([] : List (S37)), ([] : List Bool), 4)) else ((spigotref04_Costs.f k l1 l2).bind fun t249 => (if t249 = true then ((some (([] : List (S37)) : List (S37))).bind fun y250 => (if y250.length + l0.length < 2932031007402 then (spigotref04_Run.l0 k l1 l2 (y250 ++ l0) ([] : List Bool) 0) else (none))) else (some (([] : List (S37)), ([] : List Bool), 2))))) else ((spigotref04_Check.f k l0).bind fun t248 => (some (([] : List (S37)), ([] : List Bool), t248))))) = some (r1, r2, r3) := h
 clear h
 obtain ⟨t247, A4, H⟩ := bo_ H
 try dsimp only at H
 by_cases c5 : t247 = 0
 ·rw [if_pos c5] at H
  have c5b0 : (t247 == 0) = true := beq_iff_eq.mpr c5
  have c5b1 : (t247 != 0) = false := bne_eq_false_iff_eq.mpr c5
  clear c5
  by_cases c6 : (l1.length : Int) > 200
  ·rw [if_pos c6] at H
   have c6b0 : decide (200 < (l1.length : Int)) = true := decide_eq_true c6
   have c6b1 : decide (200 < l1.length) = true := decide_eq_true (by omega)
   clear c6
   simp only [Option.some.injEq, Prod.mk.injEq] at H
   obtain ⟨rfl, rfl, rfl⟩ := H
   go_enter Try.func13, Try.ntmps13
   go_wp2_with (first | ((with_reducible refine gate_callee (f := 27) rfl ?_); refine goesA_ (some 15) Try.func27 #[.slice A0 l0.length c0] ?_; (with_reducible refine (spigotref04_Check.calls k _ _ l0 t247 _ ?side1 ?side2 A4.out).mono ?_); (case side1 => exact ch_ HR0); (case side2 => exact HC0.out); rintro e w7 ⟨rfl, hb⟩; refine ⟨_, rfl, ?_⟩; replace HB := bs_ w hb; clear hb))
   go_ret3
   exact ⟨_, _, by first | rfl | (simp [errW_none, errW_some] <;> rfl) | (simp [*, errW_none, errW_some] <;> rfl), by first | exact Kd.R_nil _ _ _ _ _ | exact Kd.N_nil _ _ _ _ _ | exact Kd.V_nil _ _ _ _ _ | exact Kd.Q_nil _ _ _ _ _ | exact Kd.S_nil _ _ _ _ _, by first | exact Kd.R_nil _ _ _ _ _ | exact Kd.N_nil _ _ _ _ _ | exact Kd.V_nil _ _ _ _ _ | exact Kd.Q_nil _ _ _ _ _ | exact Kd.S_nil _ _ _ _ _, by repeat (first | (with_reducible first | exact HB.out | apply below_alloc | apply pw_below_drewN | apply below_drew1) | exact HB.out)⟩
  ·rw [if_neg c6] at H
   have c6b0 : decide (200 < (l1.length : Int)) = false := decide_eq_false c6
   have c6b1 : decide (200 < l1.length) = false := decide_eq_false (by omega)
   clear c6
   obtain ⟨t249, A8, H⟩ := bo_ H
   try dsimp only at H
   by_cases c9 : t249 = true
   ·subst c9
    rw [if_pos rfl] at H
    try dsimp only at H
    obtain ⟨y250, hy250⟩ : ∃ y_ : List (S37), y_ = (([] : List (S37))) := ⟨_, rfl⟩
    replace H : (if y250.length + l0.length < 2932031007402 then (spigotref04_Run.l0 k l1 l2 (y250 ++ l0) ([] : List Bool) 0) else (none)) = some (r1, r2, r3) := by first | (rw [hy250]; with_reducible exact H) | (have H2_ := (Option.bind_some _ _).symm.trans H; rw [hy250]; with_reducible exact H2_) | (have H2_ := (Option.bind_some _ _).symm.trans H; with_reducible exact H2_) | with_reducible exact H | (rw [hy250]; exact H) | exact H
    have Ny250 := Aside0.mk hy250
    clear hy250
    by_cases c10 : y250.length + l0.length < 2932031007402
    rotate_left
    ·rw [if_neg c10] at H; exact absurd H (by simp)
    rw [if_pos c10] at H
    have LMc10 := Aside0.mk c10
    clear c10
    obtain ⟨y253, hy253⟩ : ∃ y_ : List (S37), y_ = (y250 ++ l0) := ⟨_, rfl⟩
    replace H : (spigotref04_Run.l0 k l1 l2 y253 ([] : List Bool) 0) = some (r1, r2, r3) := by first | (rw [hy253]; with_reducible exact H) | (have H2_ := (Option.bind_some _ _).symm.trans H; rw [hy253]; with_reducible exact H2_) | (have H2_ := (Option.bind_some _ _).symm.trans H; with_reducible exact H2_) | with_reducible exact H | (rw [hy253]; exact H) | exact H
    have Ny253 := Aside0.mk hy253
    clear hy253
    have H' := Aside0.mk H
    clear H
    go_enter Try.func13, Try.ntmps13
    go_wp2_with (first | ((with_reducible refine gate_callee (f := 27) rfl ?_); refine goesA_ (some 15) Try.func27 #[.slice A0 l0.length c0] ?_; (with_reducible refine (spigotref04_Check.calls k _ _ l0 t247 _ ?side1 ?side2 A4.out).mono ?_); (case side1 => exact ch_ HR0); (case side2 => exact HC0.out); rintro e w11 ⟨rfl, hb⟩; refine ⟨_, rfl, ?_⟩; replace HB := bs_ w hb; clear hb) | ((with_reducible refine gate_callee (f := 28) rfl ?_); refine goesA_ (some 24) Try.func28 #[.slice A1 l1.length c1, .slice A2 l2.length c2] ?_; (with_reducible refine (spigotref04_Costs.calls k _ _ l1 _ _ l2 true _ ?side1 ?side2 ?side3 ?side4 A8.out).mono ?_); (case side1 => exact cs_ HR1 HB); (case side2 => exact HC1.out); (case side3 => exact cs_ HR2 HB); (case side4 => exact HC2.out); rintro e w' ⟨rfl, ⟨nd, rfl⟩⟩; refine ⟨_, rfl, ?_⟩) | ((with_reducible refine gate_dst (N := 26) rfl ?_); refine Kd.R_lit k37 _ 37 ?hg (N := 26) ?hd (xs := ([] : List (S37))) (inner := []) (ok := fun _ => True) (okp := fun _ => True) ?hr ?hp (fun _ hk => hk) trivial (Below.refl _ _) (Nat.le_refl _) (by simp) ?_; (case hd => rfl); (case hg => rfl); (case hr => first | (go_simp; done) | (go_simp; rfl)); (case hp => exact (Reps.none _ _)); intro v251 w12 ho13 hb hg_ hnew_; clear hg_ hnew_; (first | rw [← Ny250.out] at ho13 | (simp only [Int.reduceToNat] at ho13; rw [← Ny250.out] at ho13)); have HO252 := Aside0.mk (Kd.R_lower ho13 (below_size (hq_ HB))); replace HB := bs_ w hb; clear hb ho13) | ((with_reducible refine gate_builtin (b := .append) (xs := #[.tmp 26, .tmp 27]) rfl ?_); at_builtin; refine Kd.R_append_rows k37 (w0 := w) w.heap.size rfl (.tmp 26) (.tmp 27) 22 37 (.agg #[(.int .i64 0), (.int .i64 0), (.int .i64 0), (.int .i64 0), (.int .i64 0), (.int .u64 0)]) 48 rfl Try.underlying22 info37 rfl (by decide) (by omega) v251 y250 l0 _ _ _ (fun _ => True) (fun _ => False) rfl rfl ?aO ?aR (fun _ _ h => h) (fun _ h => h.elim) ?aF ?aB ?aS ?aL ?_; (case aR => exact cs_ HR0 HB); (case aB => exact (hq_ HB)); (case aF => exact (fun _ _ => trivial)); (case aO => exact (rs_ HO252)); (case aS => exact (below_size (hq_ HB))); (case aL => have := LMc10.out; omega); intro v254 w14 ho hb hg hat; rw [← Ny253.out] at ho; have HO255 := Aside0.mk (ho); replace HB := Aside0.mk (hb); clear HO252; clear ho hb hg hat))
    go_loopg [9, 10, 11] k (fun kq v9 v10 v11 w' => ∃ (x9_1 : List (S37)) (x10_1 : List Bool) (x11_1 : Int), v11 = .int .i64 x11_1 ∧ Aside0 (spigotref04_Run.l0 kq l1 l2 x9_1 x10_1 x11_1 = some (r1, r2, r3)) ∧ Aside0 (kq ≤ k) ∧ Aside0 (Kd.R k37 37 w' w.heap.size (fun _ => True) v9 x9_1) ∧ Aside0 (Kd.R Kd.bool 4 w' w.heap.size (fun _ => True) v10 x10_1) ∧ Aside0 (Below w.heap.size w w'))
    case atStart => exact ⟨(y253), (([] : List Bool)), (0), rf_, H', ⟨Nat.le_refl _⟩, ⟨rs_ HO255⟩, ⟨by first | exact Kd.R_nil _ _ _ _ _ | exact Kd.N_nil _ _ _ _ _ | exact Kd.V_nil _ _ _ _ _ | exact Kd.Q_nil _ _ _ _ _ | exact Kd.S_nil _ _ _ _ _⟩, bw_⟩
    case round =>
     clear H'
     try clear c1
     try clear c2
     try clear c5
     try clear c5b0
     try clear c5b1
     try clear c6
     try clear c6b0
     try clear c6b1
     try clear c9
     try clear c10
     obtain ⟨x9_1, x10_1, x11_1, rfl, HA, HK1, HO_9, HO_10, HB⟩ := hrel
     cases gk with
     | zero => exact absurd HA.out (by simp [spigotref04_Run.l0])
     | succ k1 =>
      have H := HA.out
      clear HA
      simp only [spigotref04_Run.l0] at H
      by_cases c15 : x11_1 < (l1.length : Int)
      ·rw [if_pos c15] at H
       have c15b0 : decide (x11_1 < (l1.length : Int)) = true := decide_eq_true c15
       clear c15
       by_cases c16 : 0 ≤ x11_1
       rotate_left
       ·rw [if_neg c16] at H; exact absurd H (by simp)
       rw [if_pos c16] at H
       have c16b0 : decide (0 ≤ x11_1) = true := decide_eq_true c16
       clear c16
       by_cases c17 : x11_1 < (l2.length : Int)
       rotate_left
       ·rw [if_neg c17] at H; exact absurd H (by simp)
       rw [if_pos c17] at H
       have c17b0 : decide (x11_1 < (l2.length : Int)) = true := decide_eq_true c17
       clear c17
       obtain ⟨⟨t258, t259⟩, A18, H⟩ := bo_ H
       replace H : (if x10_1.length < 140737488355328 then (spigotref04_Run.l0 k1 l1 l2 t258 (x10_1 ++ [t259]) (wrap64 (x11_1 + 1))) else (none)) = some (r1, r2, r3) := H
       by_cases c19 : x10_1.length < 140737488355328
       rotate_left
       ·rw [if_neg c19] at H; exact absurd H (by simp)
       rw [if_pos c19] at H
       have LMc19 := Aside0.mk c19
       clear c19
       obtain ⟨y262, hy262⟩ : ∃ y_ : List Bool, y_ = (x10_1 ++ [t259]) := ⟨_, rfl⟩
       replace H : (spigotref04_Run.l0 k1 l1 l2 t258 y262 (wrap64 (x11_1 + 1))) = some (r1, r2, r3) := by first | (rw [hy262]; with_reducible exact H) | (have H2_ := (Option.bind_some _ _).symm.trans H; rw [hy262]; with_reducible exact H2_) | (have H2_ := (Option.bind_some _ _).symm.trans H; with_reducible exact H2_) | with_reducible exact H | (rw [hy262]; exact H) | exact H
       have Ny262 := Aside0.mk hy262
       clear hy262
       have H' := Aside0.mk H
       clear H
       try go_wp2
       replace HO_9 := Aside0.mk (Kd.R_drew HO_9.out)
       replace HO_10 := Aside0.mk (Kd.R_drew HO_10.out)
       replace HB := Aside0.mk (below_drew1 HB.out)
       have p256 : 0 ≤ (x11_1 : Int) := of_decide_eq_true (by first | (with_reducible assumption) | assumption)
       have q256 : x11_1 < (l1.length : Int) := of_decide_eq_true (by first | (with_reducible assumption) | assumption)
       obtain ⟨ad256, e256, hx256_0⟩ := Kd.at_int HR1.out x11_1 p256 q256
       have hw256_0 := hx256_0
       cases e256
       replace hx256_0 := (HB.out.cell (World.block_lt_of_cell? w _ hx256_0)).trans hx256_0
       replace p256 := eq_true p256
       replace q256 := eq_true q256
       have p257 : 0 ≤ (x11_1 : Int) := of_decide_eq_true (by first | (with_reducible assumption) | assumption)
       have q257 : x11_1 < (l2.length : Int) := of_decide_eq_true (by first | (with_reducible assumption) | assumption)
       obtain ⟨ad257, e257, hx257_0⟩ := Kd.at_int HR2.out x11_1 p257 q257
       have hw257_0 := hx257_0
       cases e257
       replace hx257_0 := (HB.out.cell (World.block_lt_of_cell? w _ hx257_0)).trans hx257_0
       replace p257 := eq_true p257
       replace q257 := eq_true q257
       obtain ⟨Ao21, co21, eo21⟩ := Kd.R_slice HO_9.out
       (first | subst eo21 | (injection eo21 with f1_ f2_ f3_; have f4_ := f1_.symm; have f5_ := f3_.symm; clear f1_ f2_ f3_; subst f4_; subst f5_))
       refine start_ (n := 15) (S := fun w' => w'.cell? (ad256.add (x11_1).toNat) = some (.int .u64 (rd l1 x11_1)) ∧ w'.cell? (ad257.add (x11_1).toNat) = some (.int .i64 (rd l2 x11_1))) (ds := []) (bl_ 15 0) (by kernel_rfl) rfl (by kernel_rfl) ⟨((HB.out.cell (World.block_lt_of_cell? w _ hw256_0)).trans hw256_0), ((HB.out.cell (World.block_lt_of_cell? w _ hw257_0)).trans hw257_0)⟩ (fun hHeld => ?_); refine with_tabW spigotref04_Run.tab12 spigotref04_Run.bits12 (fun HT_ HW_ => ?_)
       generalize wr.drew = w20 at HO_9 HO_10 HB hx256_0 hx257_0 hHeld ⊢
       refine pa_ 0 (some 36) (bl_ 15 1) HT_ ?_
       refine pa_ 1 (some 37) (bl_ 15 3) HT_ ?_
       refine pa_ 2 (some 38) (bl_ 15 7) HT_ ?_
       refine pa_ 3 (some 39) (bl_ 15 15) HT_ ?_
       refine pa_ 5 (some 41) (bl_ 15 47) HT_ ?_
       refine pa_ 6 (some 42) (bl_ 15 111) HT_ ?_
       refine pa_ 7 (some 43) (bl_ 15 239) HT_ ?_
       refine ta_ 4 (some 40) (bl_ 15 255) HT_ HW_ hHeld ?_
       refine ta_ 8 (some 44) (bl_ 15 511) HT_ HW_ hHeld ?_
       refine oa_ 9 (some 45) (bl_ 15 1023) HT_ fun K hK => ?_
       refine goesB_ Try.func36 #[.slice Ao21 x9_1.length co21, .int .u64 (rd l1 x11_1), .int .i64 (rd l2 x11_1)] ?_
       with_reducible refine (spigotref04_taken.calls k1 _ _ x9_1 (rd l1 x11_1) (rd l2 x11_1) t258 t259 _ ?side1 ?side2 A18.out).mono ?_
       (case side1 => exact cr_ HO_9)
       (case side2 => exact (Kd.R_reads' HO_9.out).2.1)
       rintro e w22 ⟨v260, rfl, ho0, hb⟩
       refine ⟨_, rfl, ?_⟩
       have HO261 := Aside0.mk (Kd.R_lower (Kd.R_new' ho0 (Kd.R_lt (rs_ HO_9))) (below_size (hq_ HB)))
       replace HO_9 := Aside0.mk (Kd.R_elder' (rs_ HO_9) (Kd.R_base ho0) hb)
       replace HO_10 := rb_ HO_10 hb
       replace HB := bs_ w hb
       (try clear hb)
       (try clear hk)
       (try clear ho0)
       refine hK.out _ _ ⟨((HB.out.cell (World.block_lt_of_cell? w _ hw256_0)).trans hw256_0), ((HB.out.cell (World.block_lt_of_cell? w _ hw257_0)).trans hw257_0)⟩ (fun hHeld => ?_)
       clear hK K
       refine nm_ (some 45) ?_
       refine pa_ 10 (some 35) (bl_ 15 2047) HT_ ?_
       refine pa_ 11 (some 46) (bl_ 15 4095) HT_ ?_
       refine pa_ 12 (some 47) (bl_ 15 8191) HT_ ?_
       refine pa_ 13 (some 12) (bl_ 15 16383) HT_ ?_
       refine pa_ 14 (some 13) (bl_ 15 32767) HT_ ?_
       refine done_ (done_of HT_.out (by kernel_rfl)) ?_
       try go_wp2_with (first | ((with_reducible refine gate_builtin (b := .append) (xs := #[.tmp 49, .tmp 51]) rfl ?_); at_builtin; refine Kd.R_append Kd.bool (w0 := w) w.heap.size rfl (.tmp 49) (.tmp 51) 27 4 (.bool false) 1 rfl Try.underlying27 info4 rfl (by decide) (by omega) u10 x10_1 t259 [.bool t259] (fun _ => True) (fun _ => False) rfl rfl ?aP (fun _ hk => hk.elim) ?aF ?aO ?aB ?aS ?aL ?_; (case aP => exact rfl); (case aB => exact (hq_ HB)); (case aF => exact (fun _ _ => trivial)); (case aO => exact (rs_ HO_10)); (case aS => exact (below_size (hq_ HB))); (case aL => have := LMc19.out; omega); intro v263 w23 ho hb hg hat; rw [← Ny262.out] at ho; have HO264 := Aside0.mk (ho); replace HO_9 := Aside0.mk (Kd.R_over' (rs_ HO_9) (Kd.R_typed (rs_ HO_10)) (by decide) hg); replace HO261 := Aside0.mk (Kd.R_over' (rs_ HO261) (Kd.R_typed (rs_ HO_10)) (by decide) hg); replace HB := Aside0.mk (hb); clear HO_10; clear ho hb hg hat))
       go_roundg k1
       case measure => have := HK1.out; omega
       case rel => exact ⟨(t258), (y262), (wrap64 (x11_1 + 1)), rf_, H', ⟨by have := HK1.out; omega⟩, ⟨by (with_reducible repeat (first | apply Kd.R_alloc | apply Kd.R_drewN | apply Kd.R_drew)); exact Kd.R_mono HO261.out (fun _ hk => trivial)⟩, ⟨rs_ HO264⟩, bw_⟩
      ·rw [if_neg c15] at H
       have c15b0 : decide (x11_1 < (l1.length : Int)) = false := decide_eq_false c15
       clear c15
       simp only [Option.some.injEq, Prod.mk.injEq] at H
       obtain ⟨rfl, rfl, rfl⟩ := H
       go_wp2
       go_ret3
       exact ⟨_, _, by first | rfl | (simp [errW_none, errW_some] <;> rfl) | (simp [*, errW_none, errW_some] <;> rfl), by (with_reducible repeat (first | apply Kd.R_alloc | apply Kd.R_drewN | apply Kd.R_drew)); exact HO_9.out, by (with_reducible repeat (first | apply Kd.R_alloc | apply Kd.R_drewN | apply Kd.R_drew)); exact HO_10.out, by repeat (first | (with_reducible first | exact HB.out | apply below_alloc | apply pw_below_drewN | apply below_drew1) | exact HB.out)⟩
   ·replace c9 := Bool.eq_false_iff.mpr c9
    subst c9
    rw [if_neg (show ¬ (false = true) by decide)] at H
    try dsimp only at H
    simp only [Option.some.injEq, Prod.mk.injEq] at H
    obtain ⟨rfl, rfl, rfl⟩ := H
    go_enter Try.func13, Try.ntmps13
    go_wp2_with (first | ((with_reducible refine gate_callee (f := 27) rfl ?_); refine goesA_ (some 15) Try.func27 #[.slice A0 l0.length c0] ?_; (with_reducible refine (spigotref04_Check.calls k _ _ l0 t247 _ ?side1 ?side2 A4.out).mono ?_); (case side1 => exact ch_ HR0); (case side2 => exact HC0.out); rintro e w24 ⟨rfl, hb⟩; refine ⟨_, rfl, ?_⟩; replace HB := bs_ w hb; clear hb) | ((with_reducible refine gate_callee (f := 28) rfl ?_); refine goesA_ (some 24) Try.func28 #[.slice A1 l1.length c1, .slice A2 l2.length c2] ?_; (with_reducible refine (spigotref04_Costs.calls k _ _ l1 _ _ l2 false _ ?side1 ?side2 ?side3 ?side4 A8.out).mono ?_); (case side1 => exact cs_ HR1 HB); (case side2 => exact HC1.out); (case side3 => exact cs_ HR2 HB); (case side4 => exact HC2.out); rintro e w' ⟨rfl, ⟨nd, rfl⟩⟩; refine ⟨_, rfl, ?_⟩))
    go_ret3
    exact ⟨_, _, by first | rfl | (simp [errW_none, errW_some] <;> rfl) | (simp [*, errW_none, errW_some] <;> rfl), by first | exact Kd.R_nil _ _ _ _ _ | exact Kd.N_nil _ _ _ _ _ | exact Kd.V_nil _ _ _ _ _ | exact Kd.Q_nil _ _ _ _ _ | exact Kd.S_nil _ _ _ _ _, by first | exact Kd.R_nil _ _ _ _ _ | exact Kd.N_nil _ _ _ _ _ | exact Kd.V_nil _ _ _ _ _ | exact Kd.Q_nil _ _ _ _ _ | exact Kd.S_nil _ _ _ _ _, by repeat (first | (with_reducible first | exact HB.out | apply below_alloc | apply pw_below_drewN | apply below_drew1) | exact HB.out)⟩
 ·rw [if_neg c5] at H
  have c5b0 : (t247 == 0) = false := beq_eq_false_iff_ne.mpr c5
  have c5b1 : (t247 != 0) = true := bne_iff_ne.mpr c5
  obtain ⟨t248, A25, H⟩ := bo_ H
  replace H : (some (([] : List (S37)), ([] : List Bool), t248)) = some (r1, r2, r3) := H
  simp only [Option.some.injEq, Prod.mk.injEq] at H
  obtain ⟨rfl, rfl, rfl⟩ := H
  go_enter Try.func13, Try.ntmps13
  go_wp2_with (first | ((with_reducible refine gate_callee (f := 27) rfl ?_); refine goesA_ (some 15) Try.func27 #[.slice A0 l0.length c0] ?_; (with_reducible refine (spigotref04_Check.calls k _ _ l0 t247 _ ?side1 ?side2 A4.out).mono ?_); (case side1 => exact ch_ HR0); (case side2 => exact HC0.out); rintro e w26 ⟨rfl, hb⟩; refine ⟨_, rfl, ?_⟩; replace HB := bs_ w hb; clear hb) | ((with_reducible refine gate_callee (f := 27) rfl ?_); refine goesA_ (some 18) Try.func27 #[.slice A0 l0.length c0] ?_; (with_reducible refine (spigotref04_Check.calls k _ _ l0 t248 _ ?side1 ?side2 A25.out).mono ?_); (case side1 => exact cs_ HR0 HB); (case side2 => exact HC0.out); rintro e w27 ⟨rfl, hb⟩; refine ⟨_, rfl, ?_⟩; replace HB := bs_ w hb; clear hb))
  go_ret3
  exact ⟨_, _, by first | rfl | (simp [errW_none, errW_some] <;> rfl) | (simp [*, errW_none, errW_some] <;> rfl), by first | exact Kd.R_nil _ _ _ _ _ | exact Kd.N_nil _ _ _ _ _ | exact Kd.V_nil _ _ _ _ _ | exact Kd.Q_nil _ _ _ _ _ | exact Kd.S_nil _ _ _ _ _, by first | exact Kd.R_nil _ _ _ _ _ | exact Kd.N_nil _ _ _ _ _ | exact Kd.V_nil _ _ _ _ _ | exact Kd.Q_nil _ _ _ _ _ | exact Kd.S_nil _ _ _ _ _, by repeat (first | (with_reducible first | exact HB.out | apply below_alloc | apply pw_below_drewN | apply below_drew1) | exact HB.out)⟩

end Go.Proofs.Ytaegpnbgppjicaa.X
