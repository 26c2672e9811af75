-- written by xprint.py, a program of this session over the kit's print
import Derived.Test.YtaegpnbgppjicaaX0
import Derived.Test.YtaegpnbgppjicaaX1
import Derived.Test.YtaegpnbgppjicaaX10
import Derived.Test.YtaegpnbgppjicaaX12
import Derived.Test.YtaegpnbgppjicaaX13
import Derived.Test.YtaegpnbgppjicaaX14
import Derived.Test.YtaegpnbgppjicaaX23
import Derived.Test.YtaegpnbgppjicaaX27
import Derived.Test.YtaegpnbgppjicaaX32
namespace Go.Proofs.Ytaegpnbgppjicaa.X
open Go.RowKit Go.Proofs.YtaegpnbgppjicaaW.PrintWords Go.Proofs.YtaegpnbgppjicaaW.PrintLast Go.Proofs.YtaegpnbgppjicaaW.PrintMore
attribute [local go_sem] max2_int min2_int max_two min_two max_three min_three max_four min_four   -- for this text's walks alone
set_option linter.unusedVariables false
set_option linter.unusedSimpArgs false

attribute [local go_sem high] eqA37
/-! ### spigotlaw04_LevelsAlone: function 9 -/
mutual
def spigotlaw04_LevelsAlone.j0 : Nat → List (S37) → List Int → List Int → Int → Bool → Option (Bool)
  | 0, _, _, _, _, _ => none
  | k + 1, x0, x1, x2, x3, x41 => if x41 = true then ((spigotlaw04_alive.f k).bind fun t742 => (some t742)) else ((levels_Run.f k x0 x1 x2).bind fun bt743 => (if bt743.2.2 = 0 then (if (bt743.1.length : Int) = (x0.length : Int) then (if (bt743.2.1.length : Int) = (x1.length : Int) then (if 0 ≤ x3 then (if x3 < (x0.length : Int) then (spigotlaw04_LevelsAlone.l0 k x1 x2 x3 bt743.1 bt743.2.1 0 ((rd_T37 x0 x3).f0.f0) ((rd_T37 x0 x3).f0.f1) ((rd_T37 x0 x3).f0.f2) ((rd_T37 x0 x3).f1) ((rd_T37 x0 x3).f2) ((rd_T37 x0 x3).f3)) else (none)) else (none)) else (none)) else (none)) else (none)))
def spigotlaw04_LevelsAlone.l0 : Nat → List Int → List Int → Int → List (S37) → List Bool → Int → Int → Int → Int → Int → Int → Int → Option (Bool)
  | 0, _, _, _, _, _, _, _, _, _, _, _, _ => none
  | k + 1, x1, x2, x3, x9, x10, x13, x752000, x752001, x752002, x752003, x752004, x752005 => if x13 < (x1.length : Int) then (if 0 ≤ x13 then ((bucket_Refill.f k x752000 x752001 x752002 x752003 x752004 x752005 (rd x1 x13)).bind fun bt756 => (if bt756.2.2.2.2.2.2 = 0 then (if x13 < (x10.length : Int) then (if rdOf false x10 x13 = true then (if x13 < (x2.length : Int) then ((bucket_Charge.f bt756.1 bt756.2.1 bt756.2.2.1 bt756.2.2.2.1 bt756.2.2.2.2.1 bt756.2.2.2.2.2.1 (rd x2 x13)).bind fun bt766 => (if bt766.2.2.2.2.2.2 = 0 then (spigotlaw04_LevelsAlone.l0 k x1 x2 x3 x9 x10 (wrap64 (x13 + 1)) bt766.1 bt766.2.1 bt766.2.2.1 bt766.2.2.2.1 bt766.2.2.2.2.1 bt766.2.2.2.2.2.1) else (none))) else (none)) else (spigotlaw04_LevelsAlone.l0 k x1 x2 x3 x9 x10 (wrap64 (x13 + 1)) bt756.1 bt756.2.1 bt756.2.2.1 bt756.2.2.2.1 bt756.2.2.2.2.1 bt756.2.2.2.2.2.1)) else (none)) else (none))) else (none)) else (if 0 ≤ x3 then (if x3 < (x9.length : Int) then (if ((x752000 == ((rd_T37 x9 x3).f0.f0) && (x752001 == ((rd_T37 x9 x3).f0.f1) && (x752002 == ((rd_T37 x9 x3).f0.f2)))) && (x752003 == ((rd_T37 x9 x3).f1) && (x752004 == ((rd_T37 x9 x3).f2) && (x752005 == ((rd_T37 x9 x3).f3))))) = true then ((spigotref03_Check.f x752000 x752001 x752002 x752003 x752004 x752005).bind fun t753 => (if t753 = 0 then ((spigotlaw04_alive.f k).bind fun t754 => (some t754)) else (none))) else (none)) else (none)) else (none))
end
def spigotlaw04_LevelsAlone.f (k : Nat) (l0 : List (S37)) (l1 : List Int) (l2 : List Int) (a3 : Int) : Option (Bool) := (spigotlaw04_fit.f k l0).bind fun t740 => (if t740 = true then (if (l1.length : Int) > 30 then (spigotlaw04_LevelsAlone.j0 k l0 l1 l2 a3 true) else ((spigotref04_Costs.f k l1 l2).bind fun t741 => (if t741 = true then (if a3 < 0 then (spigotlaw04_LevelsAlone.j0 k l0 l1 l2 a3 true) else (spigotlaw04_LevelsAlone.j0 k l0 l1 l2 a3 (decide (a3 ≥ (l0.length : Int))))) else (spigotlaw04_LevelsAlone.j0 k l0 l1 l2 a3 true)))) else (spigotlaw04_LevelsAlone.j0 k l0 l1 l2 a3 true))
theorem spigotlaw04_LevelsAlone.mono_l : ∀ k, (∀ y0 y1 y2 y3 y4, LeO (spigotlaw04_LevelsAlone.j0 k y0 y1 y2 y3 y4) (spigotlaw04_LevelsAlone.j0 (k + 1) y0 y1 y2 y3 y4)) ∧ (∀ y0 y1 y2 y3 y4 y5 y6 y7 y8 y9 y10 y11, LeO (spigotlaw04_LevelsAlone.l0 k y0 y1 y2 y3 y4 y5 y6 y7 y8 y9 y10 y11) (spigotlaw04_LevelsAlone.l0 (k + 1) y0 y1 y2 y3 y4 y5 y6 y7 y8 y9 y10 y11))
  | 0 => ⟨fun _ _ _ _ _ r h => by simp [spigotlaw04_LevelsAlone.j0] at h, fun _ _ _ _ _ _ _ _ _ _ _ _ r h => by simp [spigotlaw04_LevelsAlone.l0] at h⟩
  | k + 1 => by
    obtain ⟨ih0, ih1⟩ := spigotlaw04_LevelsAlone.mono_l k
    refine ⟨?_, ?_⟩
    · intro y0 y1 y2 y3 y4
      unfold spigotlaw04_LevelsAlone.j0
      repeat' first
      | (with_reducible exact ih0 _ _ _ _ _)
      | (with_reducible exact ih1 _ _ _ _ _ _ _ _ _ _ _ _)
      | (with_reducible exact bucket_Refill.mono _ _ _ _ _ _ _ _)
      | (with_reducible exact levels_Run.mono _ _ _ _)
      | (with_reducible exact spigotlaw04_alive.mono _)
      | (with_reducible exact spigotlaw04_fit.mono _ _)
      | (with_reducible exact spigotref04_Costs.mono _ _ _)
      | (with_reducible exact LeO.refl _)
      | (with_reducible exact LeO.none _)
      | (with_reducible refine LeO.ite ?_ ?_)
      | (with_reducible refine LeO.bind ?_ (fun _ => ?_))
      | exact ih0 _ _ _ _ _
      | exact ih1 _ _ _ _ _ _ _ _ _ _ _ _
      | exact bucket_Refill.mono _ _ _ _ _ _ _ _
      | exact levels_Run.mono _ _ _ _
      | exact spigotlaw04_alive.mono _
      | exact spigotlaw04_fit.mono _ _
      | exact spigotref04_Costs.mono _ _ _
      | exact LeO.none _
      | refine LeO.ite ?_ ?_
      | refine LeO.bind ?_ (fun _ => ?_)
    · intro y0 y1 y2 y3 y4 y5 y6 y7 y8 y9 y10 y11
      unfold spigotlaw04_LevelsAlone.l0
      repeat' first
      | (with_reducible exact ih0 _ _ _ _ _)
      | (with_reducible exact ih1 _ _ _ _ _ _ _ _ _ _ _ _)
      | (with_reducible exact bucket_Refill.mono _ _ _ _ _ _ _ _)
      | (with_reducible exact levels_Run.mono _ _ _ _)
      | (with_reducible exact spigotlaw04_alive.mono _)
      | (with_reducible exact spigotlaw04_fit.mono _ _)
      | (with_reducible exact spigotref04_Costs.mono _ _ _)
      | (with_reducible exact LeO.refl _)
      | (with_reducible exact LeO.none _)
      | (with_reducible refine LeO.ite ?_ ?_)
      | (with_reducible refine LeO.bind ?_ (fun _ => ?_))
      | exact ih0 _ _ _ _ _
      | exact ih1 _ _ _ _ _ _ _ _ _ _ _ _
      | exact bucket_Refill.mono _ _ _ _ _ _ _ _
      | exact levels_Run.mono _ _ _ _
      | exact spigotlaw04_alive.mono _
      | exact spigotlaw04_fit.mono _ _
      | exact spigotref04_Costs.mono _ _ _
      | exact LeO.none _
      | refine LeO.ite ?_ ?_
      | refine LeO.bind ?_ (fun _ => ?_)
theorem spigotlaw04_LevelsAlone.mono : ∀ a0 a1 a2 a3 k, LeO (spigotlaw04_LevelsAlone.f k a0 a1 a2 a3) (spigotlaw04_LevelsAlone.f (k + 1) a0 a1 a2 a3) := by
  intro a0 a1 a2 a3 k
  obtain ⟨ih0, ih1⟩ := spigotlaw04_LevelsAlone.mono_l k
  unfold spigotlaw04_LevelsAlone.f
  repeat' first
      | (with_reducible exact ih0 _ _ _ _ _)
      | (with_reducible exact ih1 _ _ _ _ _ _ _ _ _ _ _ _)
      | (with_reducible exact bucket_Refill.mono _ _ _ _ _ _ _ _)
      | (with_reducible exact levels_Run.mono _ _ _ _)
      | (with_reducible exact spigotlaw04_alive.mono _)
      | (with_reducible exact spigotlaw04_fit.mono _ _)
      | (with_reducible exact spigotref04_Costs.mono _ _ _)
      | (with_reducible exact LeO.refl _)
      | (with_reducible exact LeO.none _)
      | (with_reducible refine LeO.ite ?_ ?_)
      | (with_reducible refine LeO.bind ?_ (fun _ => ?_))
      | exact ih0 _ _ _ _ _
      | exact ih1 _ _ _ _ _ _ _ _ _ _ _ _
      | exact bucket_Refill.mono _ _ _ _ _ _ _ _
      | exact levels_Run.mono _ _ _ _
      | exact spigotlaw04_alive.mono _
      | exact spigotlaw04_fit.mono _ _
      | exact spigotref04_Costs.mono _ _ _
      | exact LeO.none _
      | refine LeO.ite ?_ ?_
      | refine LeO.bind ?_ (fun _ => ?_)
def spigotlaw04_LevelsAlone.T10 : Bool × List (List Nat × List Nat) := (true, [([], []), ([], []), ([], []), ([1, 2], [1, 2]), ([3], [3]), ([0, 4], [0, 4]), ([5], [5]), ([6], [6]), ([6], [6]), ([], []), ([9, 7, 5, 0, 1, 2, 3, 4, 5, 6, 7, 9], [7, 9]), ([8, 10, 0, 1, 2, 3, 4, 5, 6, 7, 8, 9, 10], [8])])
def spigotlaw04_LevelsAlone.B10 : List Nat := [0, 0, 0, 6, 14, 31, 63, 127, 127, 0, 767, 2047]
theorem spigotlaw04_LevelsAlone.tab10 : rtab .any (opsOf Try.f9 10) = spigotlaw04_LevelsAlone.T10 := by kernel_rfl
theorem spigotlaw04_LevelsAlone.bits10 : waitsOk spigotlaw04_LevelsAlone.T10.2 spigotlaw04_LevelsAlone.B10 = true := by kernel_rfl
def spigotlaw04_LevelsAlone.T15 : Bool × List (List Nat × List Nat) := (true, [([], []), ([], []), ([], []), ([1, 2], [1, 2]), ([3], [3]), ([0, 4], [0, 4]), ([5], [5]), ([6], [6]), ([6], [6]), ([], []), ([9, 7, 5, 0, 1, 2, 3, 4, 5, 6, 7, 9], [7, 9]), ([8, 10, 0, 1, 2, 3, 4, 5, 6, 7, 8, 9, 10], [8])])
def spigotlaw04_LevelsAlone.B15 : List Nat := [0, 0, 0, 6, 14, 31, 63, 127, 127, 0, 767, 2047]
theorem spigotlaw04_LevelsAlone.tab15 : rtab .any (opsOf Try.f9 15) = spigotlaw04_LevelsAlone.T15 := by kernel_rfl
theorem spigotlaw04_LevelsAlone.bits15 : waitsOk spigotlaw04_LevelsAlone.T15.2 spigotlaw04_LevelsAlone.B15 = true := by kernel_rfl
def spigotlaw04_LevelsAlone.T19 : Bool × List (List Nat × List Nat) := (true, [([], []), ([], []), ([], []), ([1, 2], [1, 2]), ([3], [3]), ([0, 4], [0, 4]), ([5], [5]), ([6], [6]), ([7, 6, 6], [6, 7]), ([8, 6], [6, 8]), ([6, 9], [6, 9]), ([10, 8], [10]), ([11, 11], [11]), ([11, 12], [11, 12]), ([13, 12, 0, 1, 2, 3, 4, 5, 6, 7, 8, 9, 10, 11, 12, 13], [13])])
def spigotlaw04_LevelsAlone.B19 : List Nat := [0, 0, 0, 6, 14, 31, 63, 127, 255, 511, 1023, 2047, 4095, 8191, 16383]
theorem spigotlaw04_LevelsAlone.tab19 : rtab .any (opsOf Try.f9 19) = spigotlaw04_LevelsAlone.T19 := by kernel_rfl
theorem spigotlaw04_LevelsAlone.bits19 : waitsOk spigotlaw04_LevelsAlone.T19.2 spigotlaw04_LevelsAlone.B19 = true := by kernel_rfl
set_option maxHeartbeats 8000000 in
set_option maxRecDepth 100000 in
theorem spigotlaw04_LevelsAlone.calls (k : Nat) (A0 : Option Addr) (c0 : Nat) (l0 : List (S37)) (A1 : Option Addr) (c1 : Nat) (l1 : List Int) (A2 : Option Addr) (c2 : Nat) (l2 : List Int) (a3 : Int) (r : Bool) (w : World) (hr0 : Kd.C k37 w A0 l0.length l0) (hc0 : l0.length ≤ c0) (hr1 : Kd.C (Kd.int .u64) w A1 l1.length l1) (hc1 : l1.length ≤ c1) (hr2 : Kd.C (Kd.int .i64) w A2 l2.length l2) (hc2 : l2.length ≤ c2) (h : spigotlaw04_LevelsAlone.f k l0 l1 l2 a3 = some r) :
  Calls Try.prog 9 #[.slice A0 l0.length c0, .slice A1 l1.length c1, .slice A2 l2.length c2, .int .i64 a3] w fun e w' => e = .returned (.bool r) ∧ Below w.heap.size w w' := by
 have hu37 := Try.underlying37
 have HR0 := Aside0.mk hr0
 have HC0 := Aside0.mk hc0
 clear hr0 hc0
 have HR1 := Aside0.mk hr1
 have HC1 := Aside0.mk hc1
 clear hr1 hc1
 have HR2 := Aside0.mk hr2
 have HC2 := Aside0.mk hc2
 clear hr2 hc2
 have HB := Aside0.mk (Below.refl w.heap.size w)
 have H : ((spigotlaw04_fit.f k l0).bind fun t740 => (if t740 = true then (if (l1.length : Int) > 30 then (spigotlaw04_LevelsAlone.j0 k l0 l1 l2 a3 true) else ((spigotref04_Costs.f k l1 l2).bind fun t741 => (if t741 = true then (if a3 < 0 then (spigotlaw04_LevelsAlone.j0 k l0 l1 l2 a3 true) else (spigotlaw04_LevelsAlone.j0 k l0 l1 l2 a3 (decide (a3 ≥ (l0.length : Int))))) else (spigotlaw04_LevelsAlone.j0 k l0 l1 l2 a3 true)))) else (spigotlaw04_LevelsAlone.j0 k l0 l1 l2 a3 true))) = some r := h
 clear h
 have HC5 := Aside0.mk H
 clear H
 go_enter Try.func9, Try.ntmps9
 go_upto_region 1 with (fail)
 go_cut [41] (fun v41 wc => ∃ (kq : Nat) (x41_4 : Bool), v41 = .bool x41_4 ∧ Aside0 (spigotlaw04_LevelsAlone.j0 kq l0 l1 l2 a3 x41_4 = some r) ∧ Aside0 (kq ≤ k) ∧ Aside0 (Below w.heap.size w wc))
 case first =>
  have H := HC5.out
  clear HC5
  replace H := Option.bind_eq_some_iff.mp H
  obtain ⟨t740, A60, H⟩ := H
  try dsimp only at H
  have A6 := Aside0.mk A60
  clear A60
  by_cases c7 : t740 = true
  ·subst c7
   have H1 : (if (l1.length : Int) > 30 then (spigotlaw04_LevelsAlone.j0 k l0 l1 l2 a3 true) else ((spigotref04_Costs.f k l1 l2).bind fun t741 => (if t741 = true then (if a3 < 0 then (spigotlaw04_LevelsAlone.j0 k l0 l1 l2 a3 true) else (spigotlaw04_LevelsAlone.j0 k l0 l1 l2 a3 (decide (a3 ≥ (l0.length : Int))))) else (spigotlaw04_LevelsAlone.j0 k l0 l1 l2 a3 true)))) = some r := by rw [if_pos rfl] at H; exact H
   clear H
   have H := H1
   clear H1
   by_cases c8 : (l1.length : Int) > 30
   ·rw [if_pos c8] at H
    have c8b0 : decide (30 < (l1.length : Int)) = true := decide_eq_true c8
    have c8b1 : decide (30 < l1.length) = true := decide_eq_true (by omega)
    clear c8
    (first | rw [c8b0] | (simp only [i64_w, i32_w]; rw [c8b0]) | skip)
    have H' := Aside0.mk H
    clear H
    go_wp2_with (first | ((with_reducible refine gate_callee (f := 16) rfl ?_); refine goesL_ (some 19) rfl rfl Try.func16 (by kernel_rfl) rfl #[.slice A0 l0.length c0] rfl (by (try simp only [List.map_toArray, List.map_cons, List.map_nil]); first | done | rfl | (simp only [List.length_drop, List.length_take]; rfl)) ?_; (with_reducible refine (spigotlaw04_fit.calls k _ _ l0 true _ ?side1 ?side2 A6.out).mono ?_); (case side1 => repeat (first | exact (Kd.C_below HR0.out HB.out) | (with_reducible refine Kd.C_alloc ?_ _) | (with_reducible refine Kd.C_drewN ?_ _) | (with_reducible refine Kd.C_drew ?_))); (case side2 => exact HC0.out); rintro e w9 ⟨rfl, hb⟩; refine ⟨_, rfl, ?_⟩; replace HB := bs_ w hb; (try clear hb); (try clear hb2); (try clear hk); (try clear hi)))
    go_meet
    case rel => exact ⟨_, (true), (by first | rfl | (simp; done) | (simp [*]; done)), H', ⟨by first | omega | exact Nat.le_refl _⟩, ⟨by repeat (first | (with_reducible first | exact HB.out | apply below_alloc | apply pw_below_drewN | apply below_drew1) | exact HB.out)⟩⟩
   ·rw [if_neg c8] at H
    have c8b0 : decide (30 < (l1.length : Int)) = false := decide_eq_false c8
    have c8b1 : decide (30 < l1.length) = false := decide_eq_false (by omega)
    clear c8
    (first | rw [c8b0] | (simp only [i64_w, i32_w]; rw [c8b0]) | skip)
    replace H := Option.bind_eq_some_iff.mp H
    obtain ⟨t741, A100, H⟩ := H
    try dsimp only at H
    have A10 := Aside0.mk A100
    clear A100
    by_cases c11 : t741 = true
    ·subst c11
     have H1 : (if a3 < 0 then (spigotlaw04_LevelsAlone.j0 k l0 l1 l2 a3 true) else (spigotlaw04_LevelsAlone.j0 k l0 l1 l2 a3 (decide (a3 ≥ (l0.length : Int))))) = some r := by rw [if_pos rfl] at H; exact H
     clear H
     have H := H1
     clear H1
     by_cases c12 : a3 < 0
     ·rw [if_pos c12] at H
      have c12b0 : decide (a3 < 0) = true := decide_eq_true c12
      clear c12
      have H' := Aside0.mk H
      clear H
      go_wp2_with (first | ((with_reducible refine gate_callee (f := 16) rfl ?_); refine goesL_ (some 19) rfl rfl Try.func16 (by kernel_rfl) rfl #[.slice A0 l0.length c0] rfl (by (try simp only [List.map_toArray, List.map_cons, List.map_nil]); first | done | rfl | (simp only [List.length_drop, List.length_take]; rfl)) ?_; (with_reducible refine (spigotlaw04_fit.calls k _ _ l0 true _ ?side1 ?side2 A6.out).mono ?_); (case side1 => repeat (first | exact (Kd.C_below HR0.out HB.out) | (with_reducible refine Kd.C_alloc ?_ _) | (with_reducible refine Kd.C_drewN ?_ _) | (with_reducible refine Kd.C_drew ?_))); (case side2 => exact HC0.out); rintro e w13 ⟨rfl, hb⟩; refine ⟨_, rfl, ?_⟩; replace HB := bs_ w hb; (try clear hb); (try clear hb2); (try clear hk); (try clear hi)) | (go_at_call 28; (with_reducible refine (spigotref04_Costs.calls k _ _ l1 _ _ l2 true _ ?side1 ?side2 ?side3 ?side4 A10.out).mono ?_); (case side1 => repeat (first | exact (Kd.C_below HR1.out HB.out) | (with_reducible refine Kd.C_alloc ?_ _) | (with_reducible refine Kd.C_drewN ?_ _) | (with_reducible refine Kd.C_drew ?_))); (case side2 => exact HC1.out); (case side3 => repeat (first | exact (Kd.C_below HR2.out HB.out) | (with_reducible refine Kd.C_alloc ?_ _) | (with_reducible refine Kd.C_drewN ?_ _) | (with_reducible refine Kd.C_drew ?_))); (case side4 => exact HC2.out); rintro e w' ⟨rfl, ⟨nd, rfl⟩⟩))
      go_meet
      case rel => exact ⟨_, (true), (by first | rfl | (simp; done) | (simp [*]; done)), H', ⟨by first | omega | exact Nat.le_refl _⟩, ⟨by repeat (first | (with_reducible first | exact HB.out | apply below_alloc | apply pw_below_drewN | apply below_drew1) | exact HB.out)⟩⟩
     ·rw [if_neg c12] at H
      have c12b0 : decide (a3 < 0) = false := decide_eq_false c12
      clear c12
      have H' := Aside0.mk H
      clear H
      go_wp2_with (first | ((with_reducible refine gate_callee (f := 16) rfl ?_); refine goesL_ (some 19) rfl rfl Try.func16 (by kernel_rfl) rfl #[.slice A0 l0.length c0] rfl (by (try simp only [List.map_toArray, List.map_cons, List.map_nil]); first | done | rfl | (simp only [List.length_drop, List.length_take]; rfl)) ?_; (with_reducible refine (spigotlaw04_fit.calls k _ _ l0 true _ ?side1 ?side2 A6.out).mono ?_); (case side1 => repeat (first | exact (Kd.C_below HR0.out HB.out) | (with_reducible refine Kd.C_alloc ?_ _) | (with_reducible refine Kd.C_drewN ?_ _) | (with_reducible refine Kd.C_drew ?_))); (case side2 => exact HC0.out); rintro e w14 ⟨rfl, hb⟩; refine ⟨_, rfl, ?_⟩; replace HB := bs_ w hb; (try clear hb); (try clear hb2); (try clear hk); (try clear hi)) | (go_at_call 28; (with_reducible refine (spigotref04_Costs.calls k _ _ l1 _ _ l2 true _ ?side1 ?side2 ?side3 ?side4 A10.out).mono ?_); (case side1 => repeat (first | exact (Kd.C_below HR1.out HB.out) | (with_reducible refine Kd.C_alloc ?_ _) | (with_reducible refine Kd.C_drewN ?_ _) | (with_reducible refine Kd.C_drew ?_))); (case side2 => exact HC1.out); (case side3 => repeat (first | exact (Kd.C_below HR2.out HB.out) | (with_reducible refine Kd.C_alloc ?_ _) | (with_reducible refine Kd.C_drewN ?_ _) | (with_reducible refine Kd.C_drew ?_))); (case side4 => exact HC2.out); rintro e w' ⟨rfl, ⟨nd, rfl⟩⟩))
      go_meet
      case rel => exact ⟨_, (decide (a3 ≥ (l0.length : Int))), (by first | rfl | (simp; done) | (simp [*]; done)), H', ⟨by first | omega | exact Nat.le_refl _⟩, ⟨by repeat (first | (with_reducible first | exact HB.out | apply below_alloc | apply pw_below_drewN | apply below_drew1) | exact HB.out)⟩⟩
    ·replace c11 := Bool.eq_false_iff.mpr c11
     subst c11
     have H1 : (spigotlaw04_LevelsAlone.j0 k l0 l1 l2 a3 true) = some r := by rw [if_neg (show ¬ (false = true) by decide)] at H; exact H
     clear H
     have H := H1
     clear H1
     have H' := Aside0.mk H
     clear H
     go_wp2_with (first | ((with_reducible refine gate_callee (f := 16) rfl ?_); refine goesL_ (some 19) rfl rfl Try.func16 (by kernel_rfl) rfl #[.slice A0 l0.length c0] rfl (by (try simp only [List.map_toArray, List.map_cons, List.map_nil]); first | done | rfl | (simp only [List.length_drop, List.length_take]; rfl)) ?_; (with_reducible refine (spigotlaw04_fit.calls k _ _ l0 true _ ?side1 ?side2 A6.out).mono ?_); (case side1 => repeat (first | exact (Kd.C_below HR0.out HB.out) | (with_reducible refine Kd.C_alloc ?_ _) | (with_reducible refine Kd.C_drewN ?_ _) | (with_reducible refine Kd.C_drew ?_))); (case side2 => exact HC0.out); rintro e w15 ⟨rfl, hb⟩; refine ⟨_, rfl, ?_⟩; replace HB := bs_ w hb; (try clear hb); (try clear hb2); (try clear hk); (try clear hi)) | (go_at_call 28; (with_reducible refine (spigotref04_Costs.calls k _ _ l1 _ _ l2 false _ ?side1 ?side2 ?side3 ?side4 A10.out).mono ?_); (case side1 => repeat (first | exact (Kd.C_below HR1.out HB.out) | (with_reducible refine Kd.C_alloc ?_ _) | (with_reducible refine Kd.C_drewN ?_ _) | (with_reducible refine Kd.C_drew ?_))); (case side2 => exact HC1.out); (case side3 => repeat (first | exact (Kd.C_below HR2.out HB.out) | (with_reducible refine Kd.C_alloc ?_ _) | (with_reducible refine Kd.C_drewN ?_ _) | (with_reducible refine Kd.C_drew ?_))); (case side4 => exact HC2.out); rintro e w' ⟨rfl, ⟨nd, rfl⟩⟩))
     go_meet
     case rel => exact ⟨_, (true), (by first | rfl | (simp; done) | (simp [*]; done)), H', ⟨by first | omega | exact Nat.le_refl _⟩, ⟨by repeat (first | (with_reducible first | exact HB.out | apply below_alloc | apply pw_below_drewN | apply below_drew1) | exact HB.out)⟩⟩
  ·replace c7 := Bool.eq_false_iff.mpr c7
   subst c7
   have H1 : (spigotlaw04_LevelsAlone.j0 k l0 l1 l2 a3 true) = some r := by rw [if_neg (show ¬ (false = true) by decide)] at H; exact H
   clear H
   have H := H1
   clear H1
   have H' := Aside0.mk H
   clear H
   go_wp2_with (first | ((with_reducible refine gate_callee (f := 16) rfl ?_); refine goesL_ (some 19) rfl rfl Try.func16 (by kernel_rfl) rfl #[.slice A0 l0.length c0] rfl (by (try simp only [List.map_toArray, List.map_cons, List.map_nil]); first | done | rfl | (simp only [List.length_drop, List.length_take]; rfl)) ?_; (with_reducible refine (spigotlaw04_fit.calls k _ _ l0 false _ ?side1 ?side2 A6.out).mono ?_); (case side1 => repeat (first | exact (Kd.C_below HR0.out HB.out) | (with_reducible refine Kd.C_alloc ?_ _) | (with_reducible refine Kd.C_drewN ?_ _) | (with_reducible refine Kd.C_drew ?_))); (case side2 => exact HC0.out); rintro e w16 ⟨rfl, hb⟩; refine ⟨_, rfl, ?_⟩; replace HB := bs_ w hb; (try clear hb); (try clear hb2); (try clear hk); (try clear hi)))
   go_meet
   case rel => exact ⟨_, (true), (by first | rfl | (simp; done) | (simp [*]; done)), H', ⟨by first | omega | exact Nat.le_refl _⟩, ⟨by repeat (first | (with_reducible first | exact HB.out | apply below_alloc | apply pw_below_drewN | apply below_drew1) | exact HB.out)⟩⟩
 case rest =>
  clear HC5
  try clear c1
  try clear c2
  try clear p2
  try clear c7
  try clear c8
  try clear c8b0
  try clear c8b1
  try clear c9
  try clear c11
  try clear c12
  try clear c12b0
  try clear c16
  obtain ⟨kq, x41_4, rfl, HA, HJ4, HB⟩ := hcut
  cases kq with
  | zero => exact absurd HA.out (by simp [spigotlaw04_LevelsAlone.j0])
  | succ kj4 =>
   have H := HA.out
   clear HA
   simp only [spigotlaw04_LevelsAlone.j0] at H
   by_cases c17 : x41_4 = true
   ·subst c17
    have H1 : ((spigotlaw04_alive.f kj4).bind fun t742 => (some t742)) = some r := by rw [if_pos rfl] at H; exact H
    clear H
    have H := H1
    clear H1
    replace H := Option.bind_eq_some_iff.mp H
    obtain ⟨t742, A180, H⟩ := H
    replace H : (some t742) = some r := H
    have A18 := Aside0.mk A180
    clear A180
    obtain rfl := Option.some.inj H
    go_wp2_with (first | ((with_reducible refine gate_callee (f := 17) rfl ?_); refine goesL_ (some 42) rfl rfl Try.func17 (by kernel_rfl) rfl #[] rfl (by (try simp only [List.map_toArray, List.map_cons, List.map_nil]); first | done | rfl | (simp only [List.length_drop, List.length_take]; rfl)) ?_; (with_reducible refine (spigotlaw04_alive.calls kj4  t742 _ A18.out).mono ?_); rintro e w19 ⟨rfl, hb⟩; refine ⟨_, rfl, ?_⟩; replace HB := bs_ w hb; (try clear hb); (try clear hb2); (try clear hk); (try clear hi)))
    go_ret
    exact ⟨by first | rfl | (simp [errW_none, errW_some] <;> rfl) | (simp [*, errW_none, errW_some] <;> rfl), by repeat (first | (with_reducible first | exact HB.out | apply below_alloc | apply pw_below_drewN | apply below_drew1) | exact HB.out)⟩
   ·replace c17 := Bool.eq_false_iff.mpr c17
    subst c17
    have H1 : ((levels_Run.f kj4 l0 l1 l2).bind fun bt743 => (if bt743.2.2 = 0 then (if (bt743.1.length : Int) = (l0.length : Int) then (if (bt743.2.1.length : Int) = (l1.length : Int) then (if 0 ≤ a3 then (if a3 < (l0.length : Int) then (spigotlaw04_LevelsAlone.l0 kj4 l1 l2 a3 bt743.1 bt743.2.1 0 ((rd_T37 l0 a3).f0.f0) ((rd_T37 l0 a3).f0.f1) ((rd_T37 l0 a3).f0.f2) ((rd_T37 l0 a3).f1) ((rd_T37 l0 a3).f2) ((rd_T37 l0 a3).f3)) else (none)) else (none)) else (none)) else (none)) else (none))) = some r := by rw [if_neg (show ¬ (false = true) by decide)] at H; exact H
    clear H
    have H := H1
    clear H1
    replace H := Option.bind_eq_some_iff.mp H
    obtain ⟨⟨t743, t744, t745⟩, A200, H⟩ := H
    try dsimp only at H
    have A20 := Aside0.mk A200
    clear A200
    by_cases c21 : t745 = 0
    rotate_left
    ·rw [if_neg c21] at H; exact absurd H (by simp)
    rw [if_pos c21] at H
    have c21b0 : (t745 == 0) = true := beq_iff_eq.mpr c21
    have c21b1 : (t745 != 0) = false := bne_eq_false_iff_eq.mpr c21
    clear c21
    by_cases c22 : (t743.length : Int) = (l0.length : Int)
    rotate_left
    ·rw [if_neg c22] at H; exact absurd H (by simp)
    rw [if_pos c22] at H
    have c22b0 : ((t743.length : Int) == (l0.length : Int)) = true := beq_iff_eq.mpr c22
    have c22b1 : ((t743.length : Int) != (l0.length : Int)) = false := bne_eq_false_iff_eq.mpr c22
    have c22b2 : (t743.length == l0.length) = true := by first | simpa using c22 | (simp at c22 ⊢; omega)
    clear c22
    by_cases c23 : (t744.length : Int) = (l1.length : Int)
    rotate_left
    ·rw [if_neg c23] at H; exact absurd H (by simp)
    rw [if_pos c23] at H
    have c23b0 : ((t744.length : Int) == (l1.length : Int)) = true := beq_iff_eq.mpr c23
    have c23b1 : ((t744.length : Int) != (l1.length : Int)) = false := bne_eq_false_iff_eq.mpr c23
    have c23b2 : (t744.length == l1.length) = true := by first | simpa using c23 | (simp at c23 ⊢; omega)
    clear c23
    by_cases c24 : 0 ≤ a3
    rotate_left
    ·rw [if_neg c24] at H; exact absurd H (by simp)
    rw [if_pos c24] at H
    have c24b0 : decide (0 ≤ a3) = true := decide_eq_true c24
    clear c24
    by_cases c25 : a3 < (l0.length : Int)
    rotate_left
    ·rw [if_neg c25] at H; exact absurd H (by simp)
    rw [if_pos c25] at H
    have c25b0 : decide (a3 < (l0.length : Int)) = true := decide_eq_true c25
    clear c25
    have H' := Aside0.mk H
    clear H
    go_wp2_with (first | ((with_reducible refine gate_callee (f := 12) rfl ?_); refine goesL_ (some 47) rfl rfl Try.func12 (by kernel_rfl) rfl #[.slice A0 l0.length c0, .slice A1 l1.length c1, .slice A2 l2.length c2] rfl (by (try simp only [List.map_toArray, List.map_cons, List.map_nil]); first | done | rfl | (simp only [List.length_drop, List.length_take]; rfl)) ?_; (with_reducible refine (levels_Run.calls kj4 _ _ l0 _ _ l1 _ _ l2 t743 t744 t745 _ ?side1 ?side2 ?side3 ?side4 ?side5 ?side6 A20.out).mono ?_); (case side1 => repeat (first | exact (Kd.C_below HR0.out HB.out) | (with_reducible refine Kd.C_alloc ?_ _) | (with_reducible refine Kd.C_drewN ?_ _) | (with_reducible refine Kd.C_drew ?_))); (case side2 => exact HC0.out); (case side3 => repeat (first | exact (Kd.C_below HR1.out HB.out) | (with_reducible refine Kd.C_alloc ?_ _) | (with_reducible refine Kd.C_drewN ?_ _) | (with_reducible refine Kd.C_drew ?_))); (case side4 => exact HC1.out); (case side5 => repeat (first | exact (Kd.C_below HR2.out HB.out) | (with_reducible refine Kd.C_alloc ?_ _) | (with_reducible refine Kd.C_drewN ?_ _) | (with_reducible refine Kd.C_drew ?_))); (case side6 => exact HC2.out); rintro e w26 ⟨v746, v748, rfl, ho0, ho1, hb⟩; refine ⟨_, rfl, ?_⟩; have HO747 := Aside0.mk (Kd.R_lower ho0 (below_size (hq_ HB))); have HO749 := Aside0.mk (Kd.R_lower ho1 (below_size (hq_ HB))); replace HB := bs_ w hb; (try clear hb); (try clear hb2); (try clear hk); (try clear hi); (try clear ho0); (try clear ho1); obtain ⟨Ao27, co27, eo27⟩ := Kd.R_slice HO747.out; subst eo27; obtain ⟨Ao28, co28, eo28⟩ := Kd.R_slice HO749.out; subst eo28; have p750 : 0 ≤ (a3 : Int) := of_decide_eq_true (by first | (with_reducible assumption) | assumption); have q750 : a3 < (l0.length : Int) := of_decide_eq_true (by first | (with_reducible assumption) | assumption); obtain ⟨ad750, e750, hx750_0, hx750_1, hx750_2, hx750_3, hx750_4, hx750_5⟩ := at_T37 HR0.out a3 p750 q750; cases e750; replace hx750_0 := (HB.out.cell (World.block_lt_of_cell? w _ hx750_0)).trans hx750_0; replace hx750_1 := (HB.out.cell (World.block_lt_of_cell? w _ hx750_1)).trans hx750_1; replace hx750_2 := (HB.out.cell (World.block_lt_of_cell? w _ hx750_2)).trans hx750_2; replace hx750_3 := (HB.out.cell (World.block_lt_of_cell? w _ hx750_3)).trans hx750_3; replace hx750_4 := (HB.out.cell (World.block_lt_of_cell? w _ hx750_4)).trans hx750_4; replace hx750_5 := (HB.out.cell (World.block_lt_of_cell? w _ hx750_5)).trans hx750_5; replace p750 := eq_true p750; replace q750 := eq_true q750) | ((with_reducible refine gate_dst (N := 12) rfl ?_); refine box_event ?hg (N := 12) ?hd (cs := #[.int .i64 0, .int .i64 0, .int .i64 0, .int .i64 0, .int .i64 0, .int .u64 0]) (t := 37) ?hr ?_; (case hd => rfl); (case hg => rfl); (case hr => first | (go_simp; done) | (go_simp; rfl)); intro gb751 hg w29 hbox hb; have BK751 := Aside0.mk (hbox); have GW751 := bz_ w hg; have GE751 := GW751; replace HO747 := Aside0.mk (Kd.R_below (Kd.R_elderB (by (with_reducible repeat (first | apply Kd.R_alloc | apply Kd.R_drewN | apply Kd.R_drew)); exact HO747.out) gb751 (Nat.le_of_eq hg.symm)) hb); replace HO749 := Aside0.mk (Kd.R_below (by (with_reducible repeat (first | apply Kd.R_alloc | apply Kd.R_drewN | apply Kd.R_drew)); exact HO749.out) hb); replace HB := bs_ w hb; clear hb hbox hg; have hcz30_0 : w29.cell? ⟨gb751, 0, none⟩ = some (.int .i64 0) := (blk_cell BK751.out 0).trans rfl; have hcz30_1 : w29.cell? ⟨gb751, 1, none⟩ = some (.int .i64 0) := (blk_cell BK751.out 1).trans rfl; have hcz30_2 : w29.cell? ⟨gb751, 2, none⟩ = some (.int .i64 0) := (blk_cell BK751.out 2).trans rfl; have hcz30_3 : w29.cell? ⟨gb751, 3, none⟩ = some (.int .i64 0) := (blk_cell BK751.out 3).trans rfl; have hcz30_4 : w29.cell? ⟨gb751, 4, none⟩ = some (.int .i64 0) := (blk_cell BK751.out 4).trans rfl; have hcz30_5 : w29.cell? ⟨gb751, 5, none⟩ = some (.int .u64 0) := (blk_cell BK751.out 5).trans rfl; have hfz30_0 := blk_frozen BK751.out 0; have hfz30_1 := blk_frozen BK751.out 1; have hfz30_2 := blk_frozen BK751.out 2; have hfz30_3 := blk_frozen BK751.out 3; have hfz30_4 := blk_frozen BK751.out 4; have hfz30_5 := blk_frozen BK751.out 5))
    go_loopg [13] kj4 (fun kq v13 w' => ∃ (x13_2 : Int) (x752000_2 : Int) (x752001_2 : Int) (x752002_2 : Int) (x752003_2 : Int) (x752004_2 : Int) (x752005_2 : Int), v13 = .int .i64 x13_2 ∧ Aside0 (spigotlaw04_LevelsAlone.l0 kq l1 l2 a3 t743 t744 x13_2 x752000_2 x752001_2 x752002_2 x752003_2 x752004_2 x752005_2 = some r) ∧ Aside0 (kq ≤ kj4) ∧ Aside0 (Kd.R k37 37 w' w.heap.size (fun k_ => k_ ≠ gb751) (.slice Ao27 t743.length co27) t743) ∧ Aside0 (Kd.R Kd.bool 4 w' w.heap.size (fun _ => True) (.slice Ao28 t744.length co28) t744) ∧ Aside0 (w'.heap[gb751]? = some (.cells #[.int .i64 x752000_2, .int .i64 x752001_2, .int .i64 x752002_2, .int .i64 x752003_2, .int .i64 x752004_2, .int .u64 x752005_2] 37 (0, 0))) ∧ Aside0 (Below w.heap.size w w'))
    case atStart => exact ⟨(0), ((rd_T37 l0 a3).f0.f0), ((rd_T37 l0 a3).f0.f1), ((rd_T37 l0 a3).f0.f2), ((rd_T37 l0 a3).f1), ((rd_T37 l0 a3).f2), ((rd_T37 l0 a3).f3), (by first | rfl | (simp; done) | (simp [*]; done)), H', ⟨Nat.le_refl _⟩, ⟨by (with_reducible repeat (first | apply Kd.R_alloc | apply Kd.R_drewN | apply Kd.R_drew)); exact Kd.R_mono (Kd.R_far (p := ⟨gb751, 5, none⟩) (Kd.R_far (p := ⟨gb751, 4, none⟩) (Kd.R_far (p := ⟨gb751, 3, none⟩) (Kd.R_far (p := ⟨gb751, 2, none⟩) (Kd.R_far (p := ⟨gb751, 1, none⟩) (Kd.R_far (p := ⟨gb751, 0, none⟩) (Kd.R_mono HO747.out (fun k_ hk => (⟨hk, hk.2⟩ : _ ∧ k_ ≠ gb751))) (fun _ hk => hk.2) (.int .i64 ((rd_T37 l0 a3).f0.f0))) (fun _ hk => hk.2) (.int .i64 ((rd_T37 l0 a3).f0.f1))) (fun _ hk => hk.2) (.int .i64 ((rd_T37 l0 a3).f0.f2))) (fun _ hk => hk.2) (.int .i64 ((rd_T37 l0 a3).f1))) (fun _ hk => hk.2) (.int .i64 ((rd_T37 l0 a3).f2))) (fun _ hk => hk.2) (.int .u64 ((rd_T37 l0 a3).f3))) (fun _ hk => hk.1.2)⟩, ⟨by (with_reducible repeat (first | apply Kd.R_alloc | apply Kd.R_drewN | apply Kd.R_drew)); exact Kd.R_mono (Kd.R_far (p := ⟨gb751, 5, none⟩) (Kd.R_far (p := ⟨gb751, 4, none⟩) (Kd.R_far (p := ⟨gb751, 3, none⟩) (Kd.R_far (p := ⟨gb751, 2, none⟩) (Kd.R_far (p := ⟨gb751, 1, none⟩) (Kd.R_far (p := ⟨gb751, 0, none⟩) (Kd.R_types HO749.out BK751.out (by decide)) (fun _ hk => hk.2) (.int .i64 ((rd_T37 l0 a3).f0.f0))) (fun _ hk => hk.2) (.int .i64 ((rd_T37 l0 a3).f0.f1))) (fun _ hk => hk.2) (.int .i64 ((rd_T37 l0 a3).f0.f2))) (fun _ hk => hk.2) (.int .i64 ((rd_T37 l0 a3).f1))) (fun _ hk => hk.2) (.int .i64 ((rd_T37 l0 a3).f2))) (fun _ hk => hk.2) (.int .u64 ((rd_T37 l0 a3).f3))) (fun _ hk => trivial)⟩, ⟨(blk_put (cs := #[.int .i64 ((rd_T37 l0 a3).f0.f0), .int .i64 ((rd_T37 l0 a3).f0.f1), .int .i64 ((rd_T37 l0 a3).f0.f2), .int .i64 ((rd_T37 l0 a3).f1), .int .i64 ((rd_T37 l0 a3).f2), .int .u64 0]) (blk_put (cs := #[.int .i64 ((rd_T37 l0 a3).f0.f0), .int .i64 ((rd_T37 l0 a3).f0.f1), .int .i64 ((rd_T37 l0 a3).f0.f2), .int .i64 ((rd_T37 l0 a3).f1), .int .i64 0, .int .u64 0]) (blk_put (cs := #[.int .i64 ((rd_T37 l0 a3).f0.f0), .int .i64 ((rd_T37 l0 a3).f0.f1), .int .i64 ((rd_T37 l0 a3).f0.f2), .int .i64 0, .int .i64 0, .int .u64 0]) (blk_put (cs := #[.int .i64 ((rd_T37 l0 a3).f0.f0), .int .i64 ((rd_T37 l0 a3).f0.f1), .int .i64 0, .int .i64 0, .int .i64 0, .int .u64 0]) (blk_put (cs := #[.int .i64 ((rd_T37 l0 a3).f0.f0), .int .i64 0, .int .i64 0, .int .i64 0, .int .i64 0, .int .u64 0]) (blk_put (cs := #[.int .i64 0, .int .i64 0, .int .i64 0, .int .i64 0, .int .i64 0, .int .u64 0]) (bq_ BK751) 0 _ rfl) 1 _ rfl) 2 _ rfl) 3 _ rfl) 4 _ rfl) 5 _ rfl)⟩, ⟨by repeat (first | (with_reducible first | exact HB.out | apply below_alloc | apply pw_below_drewN | apply below_drew1 | refine below_set ?_ GE751.out) | exact HB.out)⟩⟩
    case round =>
     clear H'
     try clear c1
     try clear c2
     try clear p2
     try clear c7
     try clear p7
     try clear q7
     try clear hx7
     try clear c8
     try clear c8b0
     try clear c8b1
     try clear c9
     try clear c11
     try clear c12
     try clear c12b0
     try clear c16
     try clear c17
     try clear c21
     try clear c21b0
     try clear c21b1
     try clear c22
     try clear c22b0
     try clear c22b1
     try clear c22b2
     try clear c23
     try clear c23b0
     try clear c23b1
     try clear c23b2
     try clear c24
     try clear c24b0
     try clear c25
     try clear c25b0
     try clear hcz30_0
     try clear hcz30_1
     try clear hcz30_2
     try clear hcz30_3
     try clear hcz30_4
     try clear hcz30_5
     try clear hfz30_0
     try clear hfz30_1
     try clear hfz30_2
     try clear hfz30_3
     try clear hfz30_4
     try clear hfz30_5
     try clear hx750_0
     try clear hx750_1
     try clear hx750_2
     try clear hx750_3
     try clear hx750_4
     try clear hx750_5
     try clear p2
     try clear p750
     try clear q750
     obtain ⟨x13_2, x752000_2, x752001_2, x752002_2, x752003_2, x752004_2, x752005_2, rfl, HA, HK2, HO_9, HO_10, BK751, HB⟩ := hrel
     cases gk with
     | zero => exact absurd HA.out (by simp [spigotlaw04_LevelsAlone.l0])
     | succ k2 =>
      have H := HA.out
      clear HA
      simp only [spigotlaw04_LevelsAlone.l0] at H
      by_cases c31 : x13_2 < (l1.length : Int)
      ·rw [if_pos c31] at H
       have c31b0 : decide (x13_2 < (l1.length : Int)) = true := decide_eq_true c31
       clear c31
       by_cases c32 : 0 ≤ x13_2
       rotate_left
       ·rw [if_neg c32] at H; exact absurd H (by simp)
       rw [if_pos c32] at H
       have c32b0 : decide (0 ≤ x13_2) = true := decide_eq_true c32
       clear c32
       replace H := Option.bind_eq_some_iff.mp H
       obtain ⟨⟨t756, t757, t758, t759, t760, t761, t762⟩, A330, H⟩ := H
       try dsimp only at H
       have A33 := Aside0.mk A330
       clear A330
       by_cases c34 : t762 = 0
       rotate_left
       ·rw [if_neg c34] at H; exact absurd H (by simp)
       rw [if_pos c34] at H
       have c34b0 : (t762 == 0) = true := beq_iff_eq.mpr c34
       have c34b1 : (t762 != 0) = false := bne_eq_false_iff_eq.mpr c34
       clear c34
       by_cases c35 : x13_2 < (t744.length : Int)
       rotate_left
       ·rw [if_neg c35] at H; exact absurd H (by simp)
       rw [if_pos c35] at H
       have c35b0 : decide (x13_2 < (t744.length : Int)) = true := decide_eq_true c35
       clear c35
       obtain ⟨bq36, hbq36⟩ : ∃ b_ : Bool, b_ = (rdOf false t744 x13_2) := ⟨_, rfl⟩
       replace H : (if bq36 = true then (if x13_2 < (l2.length : Int) then ((bucket_Charge.f t756 t757 t758 t759 t760 t761 (rd l2 x13_2)).bind fun bt766 => (if bt766.2.2.2.2.2.2 = 0 then (spigotlaw04_LevelsAlone.l0 k2 l1 l2 a3 t743 t744 (wrap64 (x13_2 + 1)) bt766.1 bt766.2.1 bt766.2.2.1 bt766.2.2.2.1 bt766.2.2.2.2.1 bt766.2.2.2.2.2.1) else (none))) else (none)) else (spigotlaw04_LevelsAlone.l0 k2 l1 l2 a3 t743 t744 (wrap64 (x13_2 + 1)) t756 t757 t758 t759 t760 t761)) = some r := by rw [← hbq36] at H; exact H
       have Nbq36 := Aside0.mk hbq36
       clear hbq36
       by_cases c37 : bq36 = true
       ·subst c37
        have H1 : (if x13_2 < (l2.length : Int) then ((bucket_Charge.f t756 t757 t758 t759 t760 t761 (rd l2 x13_2)).bind fun bt766 => (if bt766.2.2.2.2.2.2 = 0 then (spigotlaw04_LevelsAlone.l0 k2 l1 l2 a3 t743 t744 (wrap64 (x13_2 + 1)) bt766.1 bt766.2.1 bt766.2.2.1 bt766.2.2.2.1 bt766.2.2.2.2.1 bt766.2.2.2.2.2.1) else (none))) else (none)) = some r := by rw [if_pos rfl] at H; exact H
        clear H
        have H := H1
        clear H1
        by_cases c38 : x13_2 < (l2.length : Int)
        rotate_left
        ·rw [if_neg c38] at H; exact absurd H (by simp)
        rw [if_pos c38] at H
        have c38b0 : decide (x13_2 < (l2.length : Int)) = true := decide_eq_true c38
        clear c38
        replace H := Option.bind_eq_some_iff.mp H
        obtain ⟨⟨t766, t767, t768, t769, t770, t771, t772⟩, A390, H⟩ := H
        replace H : (if t772 = 0 then (spigotlaw04_LevelsAlone.l0 k2 l1 l2 a3 t743 t744 (wrap64 (x13_2 + 1)) t766 t767 t768 t769 t770 t771) else (none)) = some r := H
        have A39 := Aside0.mk A390
        clear A390
        by_cases c40 : t772 = 0
        rotate_left
        ·rw [if_neg c40] at H; exact absurd H (by simp)
        rw [if_pos c40] at H
        have c40b0 : (t772 == 0) = true := beq_iff_eq.mpr c40
        have c40b1 : (t772 != 0) = false := bne_eq_false_iff_eq.mpr c40
        clear c40
        have H' := Aside0.mk H
        clear H
        try go_wp2
        replace HO_9 := Aside0.mk (Kd.R_drew HO_9.out)
        replace HO_10 := Aside0.mk (Kd.R_drew HO_10.out)
        replace BK751 := Aside0.mk (blk_drew BK751.out)
        replace HB := Aside0.mk (below_drew1 HB.out)
        have p755 : 0 ≤ (x13_2 : Int) := of_decide_eq_true (by first | (with_reducible assumption) | assumption)
        have q755 : x13_2 < (l1.length : Int) := of_decide_eq_true (by first | (with_reducible assumption) | assumption)
        obtain ⟨ad755, e755, hx755_0⟩ := Kd.at_int HR1.out x13_2 p755 q755
        have hw755_0 := hx755_0
        cases e755
        replace hx755_0 := (HB.out.cell (World.block_lt_of_cell? w _ hx755_0)).trans hx755_0
        replace p755 := eq_true p755
        replace q755 := eq_true q755
        refine start_ (n := 12) (S := fun w' => w'.cell? ⟨gb751, 0, none⟩ = some (.int .i64 x752000_2) ∧ w'.cell? ⟨gb751, 1, none⟩ = some (.int .i64 x752001_2) ∧ w'.cell? ⟨gb751, 2, none⟩ = some (.int .i64 x752002_2) ∧ w'.cell? ⟨gb751, 3, none⟩ = some (.int .i64 x752003_2) ∧ w'.cell? ⟨gb751, 4, none⟩ = some (.int .i64 x752004_2) ∧ w'.cell? ⟨gb751, 5, none⟩ = some (.int .u64 x752005_2) ∧ w'.cell? (ad755.add (x13_2).toNat) = some (.int .u64 (rd l1 x13_2))) (ds := []) #[false, false, false, false, false, false, false, false, false, false, false, false] (by kernel_rfl) rfl rfl ⟨(blk_cell BK751.out 0).trans rfl, (blk_cell BK751.out 1).trans rfl, (blk_cell BK751.out 2).trans rfl, (blk_cell BK751.out 3).trans rfl, (blk_cell BK751.out 4).trans rfl, (blk_cell BK751.out 5).trans rfl, ((HB.out.cell (World.block_lt_of_cell? w _ hw755_0)).trans hw755_0)⟩ (fun hHeld => ?_); refine with_tabW spigotlaw04_LevelsAlone.tab10 spigotlaw04_LevelsAlone.bits10 (fun HT_ HW_ => ?_)
        generalize wr.drew = w41 at HO_9 HO_10 BK751 HB hx755_0 hHeld ⊢
        refine pure_ (i := 1) (N := some 79) (v := ?_) (a' := ?_) #[false, true, false, false, false, false, false, false, false, false, false, false] rfl rfl (any_of HT_.out (by kernel_rfl)) (fun _ _ _ h => h) (Or.inl ⟨by rfl, ?_⟩) ?_ ?_
        rotate_left
        ·intro w'
         go_simp
         with_reducible rfl
        rotate_left
        ·simp only [Act.put, List.setIfInBounds_toArray, List.set_cons_zero, List.set_cons_succ, i64_w, i32_w]
         rfl
        refine pure_ (i := 2) (N := some 80) (v := ?_) (a' := ?_) #[false, true, true, false, false, false, false, false, false, false, false, false] rfl rfl (any_of HT_.out (by kernel_rfl)) (fun _ _ _ h => h) (Or.inl ⟨by rfl, ?_⟩) ?_ ?_
        rotate_left
        ·intro w'
         go_simp
         with_reducible rfl
        rotate_left
        ·simp only [Act.put, List.setIfInBounds_toArray, List.set_cons_zero, List.set_cons_succ, i64_w, i32_w]
         rfl
        refine pure_ (i := 3) (N := some 81) (v := ?_) (a' := ?_) #[false, true, true, true, false, false, false, false, false, false, false, false] rfl rfl (any_of HT_.out (by kernel_rfl)) (fun _ _ _ h => h) (Or.inl ⟨by rfl, ?_⟩) ?_ ?_
        rotate_left
        ·intro w'
         go_simp
         with_reducible rfl
        rotate_left
        ·simp only [Act.put, List.setIfInBounds_toArray, List.set_cons_zero, List.set_cons_succ, i64_w, i32_w]
         rfl
        refine take_ (i := 0) (N := some 78) (v := ?_) (a' := ?_) #[true, true, true, true, false, false, false, false, false, false, false, false] rfl rfl (take_ofW HT_.out HW_.out (by kernel_rfl)) (fun _ _ _ h => h) (Or.inl ⟨by rfl, ?_⟩) hHeld ?_ ?_
        rotate_left
        ·rintro w' ⟨s0, s1, s2, s3, s4, s5, s6⟩
         go_simp
         with_reducible rfl
        rotate_left
        ·simp only [Act.put, List.setIfInBounds_toArray, List.set_cons_zero, List.set_cons_succ, i64_w, i32_w]
         rfl
        refine take_ (i := 4) (N := some 82) (v := ?_) (a' := ?_) #[true, true, true, true, true, false, false, false, false, false, false, false] rfl rfl (take_ofW HT_.out HW_.out (by kernel_rfl)) (fun _ _ _ h => h) (Or.inl ⟨by rfl, ?_⟩) hHeld ?_ ?_
        rotate_left
        ·rintro w' ⟨s0, s1, s2, s3, s4, s5, s6⟩
         go_simp
         with_reducible rfl
        rotate_left
        ·simp only [Act.put, List.setIfInBounds_toArray, List.set_cons_zero, List.set_cons_succ, i64_w, i32_w]
         rfl
        refine join_ (σ := Nat) 2 #[true, true, true, true, true, true, true, true, true, true, false, false] (fun s_ => [(83, .tuple #[.agg #[.int .i64 t756, .int .i64 t757, .int .i64 t758, .int .i64 t759, .int .i64 t760, .int .u64 t761], .int .i64 t762]), (14, .pointer (some ⟨s_, 0, none⟩)), (77, .tuple #[.agg #[.int .i64 t756, .int .i64 t757, .int .i64 t758, .int .i64 t759, .int .i64 t760, .int .u64 t761], .int .i64 t762]), (84, .agg #[.int .i64 t756, .int .i64 t757, .int .i64 t758, .int .i64 t759, .int .i64 t760, .int .u64 t761]), (85, .int .i64 t762)]) (fun s_ w' => (w'.cell? ⟨gb751, 0, none⟩ = some (.int .i64 x752000_2) ∧ w'.cell? ⟨gb751, 1, none⟩ = some (.int .i64 x752001_2) ∧ w'.cell? ⟨gb751, 2, none⟩ = some (.int .i64 x752002_2) ∧ w'.cell? ⟨gb751, 3, none⟩ = some (.int .i64 x752003_2) ∧ w'.cell? ⟨gb751, 4, none⟩ = some (.int .i64 x752004_2) ∧ w'.cell? ⟨gb751, 5, none⟩ = some (.int .u64 x752005_2) ∧ w'.cell? (ad755.add (x13_2).toNat) = some (.int .u64 (rd l1 x13_2))) ∧ (Kd.R Kd.bool 4 w' w.heap.size (fun _ => True) (.slice Ao28 t744.length co28) t744) ∧ (Kd.R k37 37 w' w.heap.size (fun k_ => k_ ≠ gb751 ∧ k_ ≠ s_) (.slice Ao27 t743.length co27) t743) ∧ (w'.heap[gb751]? = some (.cells #[.int .i64 x752000_2, .int .i64 x752001_2, .int .i64 x752002_2, .int .i64 x752003_2, .int .i64 x752004_2, .int .u64 x752005_2] 37 (0, 0))) ∧ (w'.heap[s_]? = some (.cells #[.int .i64 0, .int .i64 0, .int .i64 0, .int .i64 0, .int .i64 0, .int .u64 0] 37 (0, 0))) ∧ (w.heap.size ≤ s_) ∧ (w.heap.size ≤ s_) ∧ (gb751 ≠ s_) ∧ (s_ ≠ gb751) ∧ (Below w.heap.size w w')) ?_ ?_
        rotate_left
        ·intro hCont
         refine two_ (i := 5) (j := 9) (Ni := some 83) (Nj := some 14) #[true, true, true, true, true, true, false, false, false, false, false, false] #[true, true, true, true, true, false, false, false, false, true, false, false] rfl rfl rfl rfl (two_of HT_.out (by kernel_rfl)) (by decide) (by decide) (fun K hK => ?_) (fun K hK => ?_)
         ·skip
          refine goes_ Try.func29 (by kernel_rfl) rfl #[.agg #[.int .i64 x752000_2, .int .i64 x752001_2, .int .i64 x752002_2, .int .i64 x752003_2, .int .i64 x752004_2, .int .u64 x752005_2], .int .u64 (rd l1 x13_2)] (by rfl) rfl rfl (by (try simp only [List.map_toArray, List.map_cons, List.map_nil]); first | done | rfl | (simp only [List.length_drop, List.length_take]; rfl)) ?_
          with_reducible refine (bucket_Refill.calls k2 x752000_2 x752001_2 x752002_2 x752003_2 x752004_2 x752005_2 (rd l1 x13_2) t756 t757 t758 t759 t760 t761 t762 _ A33.out).mono ?_
          rintro e w42 ⟨rfl, hb⟩
          refine ⟨_, rfl, ?_⟩
          replace HO_9 := Aside0.mk (Kd.R_below (by (with_reducible repeat (first | apply Kd.R_alloc | apply Kd.R_drewN | apply Kd.R_drew)); exact HO_9.out) hb)
          replace HO_10 := Aside0.mk (Kd.R_below (by (with_reducible repeat (first | apply Kd.R_alloc | apply Kd.R_drewN | apply Kd.R_drew)); exact HO_10.out) hb)
          replace BK751 := bb_ BK751 hb
          replace HB := bs_ w hb
          (try clear hb)
          (try clear hb2)
          (try clear hk)
          (try clear hi)
          refine hK.out _ _ ⟨(blk_cell BK751.out 0).trans rfl, (blk_cell BK751.out 1).trans rfl, (blk_cell BK751.out 2).trans rfl, (blk_cell BK751.out 3).trans rfl, (blk_cell BK751.out 4).trans rfl, (blk_cell BK751.out 5).trans rfl, ((HB.out.cell (World.block_lt_of_cell? w _ hw755_0)).trans hw755_0)⟩ (fun hHeld => ?_)
          clear hK K
          refine norm_ (a' := ?_) ?_ ?_
          rotate_left
          ·show Act.put _ (some 83) _ = _
           simp only [Act.put, List.setIfInBounds_toArray, List.set_cons_zero, List.set_cons_succ, i64_w, i32_w]
           rfl
          refine pure_ (i := 6) (N := some 77) (v := ?_) (a' := ?_) #[true, true, true, true, true, true, true, false, false, false, false, false] rfl rfl (any_of HT_.out (by kernel_rfl)) (fun _ _ _ h => h) (Or.inl ⟨by rfl, ?_⟩) ?_ ?_
          rotate_left
          ·intro w'
           go_simp
           with_reducible rfl
          rotate_left
          ·simp only [Act.put, List.setIfInBounds_toArray, List.set_cons_zero, List.set_cons_succ, i64_w, i32_w]
           rfl
          refine pure_ (i := 7) (N := some 84) (v := ?_) (a' := ?_) #[true, true, true, true, true, true, true, true, false, false, false, false] rfl rfl (any_of HT_.out (by kernel_rfl)) (fun _ _ _ h => h) (Or.inl ⟨by rfl, ?_⟩) ?_ ?_
          rotate_left
          ·intro w'
           go_simp
           with_reducible rfl
          rotate_left
          ·simp only [Act.put, List.setIfInBounds_toArray, List.set_cons_zero, List.set_cons_succ, i64_w, i32_w]
           rfl
          refine pure_ (i := 8) (N := some 85) (v := ?_) (a' := ?_) #[true, true, true, true, true, true, true, true, true, false, false, false] rfl rfl (any_of HT_.out (by kernel_rfl)) (fun _ _ _ h => h) (Or.inl ⟨by rfl, ?_⟩) ?_ ?_
          rotate_left
          ·intro w'
           go_simp
           with_reducible rfl
          rotate_left
          ·simp only [Act.put, List.setIfInBounds_toArray, List.set_cons_zero, List.set_cons_succ, i64_w, i32_w]
           rfl
          refine one_ (i := 9) (N := some 14) #[true, true, true, true, true, true, true, true, true, true, false, false] rfl rfl (one_of HT_.out (by kernel_rfl)) (by decide) (fun K hK => ?_)
          refine box_step ?hg (N := 14) ?hd (cs := #[.int .i64 0, .int .i64 0, .int .i64 0, .int .i64 0, .int .i64 0, .int .u64 0]) (t := 37) ?hr ?_; (case hd => rfl); (case hg => rfl); (case hr => first | (go_simp; done) | (go_simp; rfl))
          intro gb763 hg w43 hbox hb
          have BK763 := Aside0.mk (hbox)
          have GW763 := bz_ w hg
          have GE763 := GW763
          have NB751_763 := bn_ BK751 hg
          have NB763_751 := bm_ BK751 hg
          replace HO_9 := Aside0.mk (Kd.R_below (Kd.R_elderB (by (with_reducible repeat (first | apply Kd.R_alloc | apply Kd.R_drewN | apply Kd.R_drew)); exact HO_9.out) gb763 (Nat.le_of_eq hg.symm)) hb)
          replace HO_10 := Aside0.mk (Kd.R_below (by (with_reducible repeat (first | apply Kd.R_alloc | apply Kd.R_drewN | apply Kd.R_drew)); exact HO_10.out) hb)
          replace BK751 := bb_ BK751 hb
          replace HB := bs_ w hb
          clear hb hbox hg
          refine hK.out _ _ ⟨(blk_cell BK751.out 0).trans rfl, (blk_cell BK751.out 1).trans rfl, (blk_cell BK751.out 2).trans rfl, (blk_cell BK751.out 3).trans rfl, (blk_cell BK751.out 4).trans rfl, (blk_cell BK751.out 5).trans rfl, ((HB.out.cell (World.block_lt_of_cell? w _ hw755_0)).trans hw755_0)⟩ (fun hHeld => ?_)
          clear hK K
          refine norm_ (a' := ?_) ?_ ?_
          rotate_left
          ·show Act.put _ (some 14) _ = _
           simp only [Act.put, List.setIfInBounds_toArray, List.set_cons_zero, List.set_cons_succ, i64_w, i32_w]
           rfl
          exact norm_ (by simp only [putAll, Act.put, List.setIfInBounds_toArray, List.set_cons_zero, List.set_cons_succ]) (hCont (gb763) _ ⟨hHeld, (by (with_reducible repeat (first | apply Kd.R_alloc | apply Kd.R_drewN | apply Kd.R_drew)); exact HO_10.out), (by (with_reducible repeat (first | apply Kd.R_alloc | apply Kd.R_drewN | apply Kd.R_drew)); exact HO_9.out), (bq_ BK751), (bq_ BK763), GW763.out, GE763.out, NB751_763.out, NB763_751.out, (by repeat (first | (with_reducible first | exact HB.out | apply below_alloc | apply pw_below_drewN | apply below_drew1 | refine below_set ?_ (Aside0.out (by assumption))) | exact HB.out))⟩)
         ·skip
          refine box_step ?hg (N := 14) ?hd (cs := #[.int .i64 0, .int .i64 0, .int .i64 0, .int .i64 0, .int .i64 0, .int .u64 0]) (t := 37) ?hr ?_; (case hd => rfl); (case hg => rfl); (case hr => first | (go_simp; done) | (go_simp; rfl))
          intro gb763 hg w42 hbox hb
          have BK763 := Aside0.mk (hbox)
          have GW763 := bz_ w hg
          have GE763 := GW763
          have NB751_763 := bn_ BK751 hg
          have NB763_751 := bm_ BK751 hg
          replace HO_9 := Aside0.mk (Kd.R_below (Kd.R_elderB (by (with_reducible repeat (first | apply Kd.R_alloc | apply Kd.R_drewN | apply Kd.R_drew)); exact HO_9.out) gb763 (Nat.le_of_eq hg.symm)) hb)
          replace HO_10 := Aside0.mk (Kd.R_below (by (with_reducible repeat (first | apply Kd.R_alloc | apply Kd.R_drewN | apply Kd.R_drew)); exact HO_10.out) hb)
          replace BK751 := bb_ BK751 hb
          replace HB := bs_ w hb
          clear hb hbox hg
          refine hK.out _ _ ⟨(blk_cell BK751.out 0).trans rfl, (blk_cell BK751.out 1).trans rfl, (blk_cell BK751.out 2).trans rfl, (blk_cell BK751.out 3).trans rfl, (blk_cell BK751.out 4).trans rfl, (blk_cell BK751.out 5).trans rfl, ((HB.out.cell (World.block_lt_of_cell? w _ hw755_0)).trans hw755_0)⟩ (fun hHeld => ?_)
          clear hK K
          refine norm_ (a' := ?_) ?_ ?_
          rotate_left
          ·show Act.put _ (some 14) _ = _
           simp only [Act.put, List.setIfInBounds_toArray, List.set_cons_zero, List.set_cons_succ, i64_w, i32_w]
           rfl
          refine one_ (i := 5) (N := some 83) #[true, true, true, true, true, true, false, false, false, true, false, false] rfl rfl (one_of HT_.out (by kernel_rfl)) (by decide) (fun K hK => ?_)
          refine goes_ Try.func29 (by kernel_rfl) rfl #[.agg #[.int .i64 x752000_2, .int .i64 x752001_2, .int .i64 x752002_2, .int .i64 x752003_2, .int .i64 x752004_2, .int .u64 x752005_2], .int .u64 (rd l1 x13_2)] (by rfl) rfl rfl (by (try simp only [List.map_toArray, List.map_cons, List.map_nil]); first | done | rfl | (simp only [List.length_drop, List.length_take]; rfl)) ?_
          with_reducible refine (bucket_Refill.calls k2 x752000_2 x752001_2 x752002_2 x752003_2 x752004_2 x752005_2 (rd l1 x13_2) t756 t757 t758 t759 t760 t761 t762 _ A33.out).mono ?_
          rintro e w43 ⟨rfl, hb⟩
          refine ⟨_, rfl, ?_⟩
          replace HO_9 := Aside0.mk (Kd.R_below (by (with_reducible repeat (first | apply Kd.R_alloc | apply Kd.R_drewN | apply Kd.R_drew)); exact HO_9.out) hb)
          replace HO_10 := Aside0.mk (Kd.R_below (by (with_reducible repeat (first | apply Kd.R_alloc | apply Kd.R_drewN | apply Kd.R_drew)); exact HO_10.out) hb)
          replace BK751 := bb_ BK751 hb
          replace BK763 := bb_ BK763 hb
          replace HB := bs_ w hb
          (try clear hb)
          (try clear hb2)
          (try clear hk)
          (try clear hi)
          refine hK.out _ _ ⟨(blk_cell BK751.out 0).trans rfl, (blk_cell BK751.out 1).trans rfl, (blk_cell BK751.out 2).trans rfl, (blk_cell BK751.out 3).trans rfl, (blk_cell BK751.out 4).trans rfl, (blk_cell BK751.out 5).trans rfl, ((HB.out.cell (World.block_lt_of_cell? w _ hw755_0)).trans hw755_0)⟩ (fun hHeld => ?_)
          clear hK K
          refine norm_ (a' := ?_) ?_ ?_
          rotate_left
          ·show Act.put _ (some 83) _ = _
           simp only [Act.put, List.setIfInBounds_toArray, List.set_cons_zero, List.set_cons_succ, i64_w, i32_w]
           rfl
          refine pure_ (i := 6) (N := some 77) (v := ?_) (a' := ?_) #[true, true, true, true, true, true, true, false, false, true, false, false] rfl rfl (any_of HT_.out (by kernel_rfl)) (fun _ _ _ h => h) (Or.inl ⟨by rfl, ?_⟩) ?_ ?_
          rotate_left
          ·intro w'
           go_simp
           with_reducible rfl
          rotate_left
          ·simp only [Act.put, List.setIfInBounds_toArray, List.set_cons_zero, List.set_cons_succ, i64_w, i32_w]
           rfl
          refine pure_ (i := 7) (N := some 84) (v := ?_) (a' := ?_) #[true, true, true, true, true, true, true, true, false, true, false, false] rfl rfl (any_of HT_.out (by kernel_rfl)) (fun _ _ _ h => h) (Or.inl ⟨by rfl, ?_⟩) ?_ ?_
          rotate_left
          ·intro w'
           go_simp
           with_reducible rfl
          rotate_left
          ·simp only [Act.put, List.setIfInBounds_toArray, List.set_cons_zero, List.set_cons_succ, i64_w, i32_w]
           rfl
          refine pure_ (i := 8) (N := some 85) (v := ?_) (a' := ?_) #[true, true, true, true, true, true, true, true, true, true, false, false] rfl rfl (any_of HT_.out (by kernel_rfl)) (fun _ _ _ h => h) (Or.inl ⟨by rfl, ?_⟩) ?_ ?_
          rotate_left
          ·intro w'
           go_simp
           with_reducible rfl
          rotate_left
          ·simp only [Act.put, List.setIfInBounds_toArray, List.set_cons_zero, List.set_cons_succ, i64_w, i32_w]
           rfl
          exact norm_ (by simp only [putAll, Act.put, List.setIfInBounds_toArray, List.set_cons_zero, List.set_cons_succ]) (hCont (gb763) _ ⟨hHeld, (by (with_reducible repeat (first | apply Kd.R_alloc | apply Kd.R_drewN | apply Kd.R_drew)); exact HO_10.out), (by (with_reducible repeat (first | apply Kd.R_alloc | apply Kd.R_drewN | apply Kd.R_drew)); exact HO_9.out), (bq_ BK751), (bq_ BK763), GW763.out, GE763.out, NB751_763.out, NB763_751.out, (by repeat (first | (with_reducible first | exact HB.out | apply below_alloc | apply pw_below_drewN | apply below_drew1 | refine below_set ?_ (Aside0.out (by assumption))) | exact HB.out))⟩)
        rintro gb763 w44 ⟨hS_, h0_, h1_, h2_, h3_, h4_, h5_, h6_, h7_, h8_⟩
        have BK763 : Aside0 (w44.heap[gb763]? = some (.cells #[.int .i64 0, .int .i64 0, .int .i64 0, .int .i64 0, .int .i64 0, .int .u64 0] 37 (0, 0))) := ⟨h3_⟩
        have GW763 : Aside0 (w.heap.size ≤ gb763) := ⟨h4_⟩
        have GE763 : Aside0 (w.heap.size ≤ gb763) := ⟨h5_⟩
        have NB751_763 : Aside0 (gb751 ≠ gb763) := ⟨h6_⟩
        have NB763_751 : Aside0 (gb763 ≠ gb751) := ⟨h7_⟩
        replace HO_10 : Aside0 (Kd.R Kd.bool 4 w44 w.heap.size (fun _ => True) (.slice Ao28 t744.length co28) t744) := ⟨h0_⟩
        replace HO_9 : Aside0 (Kd.R k37 37 w44 w.heap.size (fun k_ => k_ ≠ gb751 ∧ k_ ≠ gb763) (.slice Ao27 t743.length co27) t743) := ⟨h1_⟩
        replace BK751 : Aside0 (w44.heap[gb751]? = some (.cells #[.int .i64 x752000_2, .int .i64 x752001_2, .int .i64 x752002_2, .int .i64 x752003_2, .int .i64 x752004_2, .int .u64 x752005_2] 37 (0, 0))) := ⟨h2_⟩
        replace HB : Aside0 (Below w.heap.size w w44) := ⟨h8_⟩
        clear h0_ h1_ h2_ h3_ h4_ h5_ h6_ h7_ h8_
        have hHeld : w44.cell? ⟨gb751, 0, none⟩ = some (.int .i64 x752000_2) ∧ w44.cell? ⟨gb751, 1, none⟩ = some (.int .i64 x752001_2) ∧ w44.cell? ⟨gb751, 2, none⟩ = some (.int .i64 x752002_2) ∧ w44.cell? ⟨gb751, 3, none⟩ = some (.int .i64 x752003_2) ∧ w44.cell? ⟨gb751, 4, none⟩ = some (.int .i64 x752004_2) ∧ w44.cell? ⟨gb751, 5, none⟩ = some (.int .u64 x752005_2) ∧ w44.cell? (ad755.add (x13_2).toNat) = some (.int .u64 (rd l1 x13_2)) := hS_
        refine norm_ (a' := ?_) ?_ ?_
        rotate_left
        ·simp only [putAll, Act.put, List.setIfInBounds_toArray, List.set_cons_zero, List.set_cons_succ]
         rfl
        refine one_ (i := 10) (N := none) #[true, true, true, true, true, true, true, true, true, true, true, false] rfl rfl (one_of HT_.out (by kernel_rfl)) (by decide) (fun K hK => ?_)
        have hs45 : w44.cell? ⟨gb763, 0, none⟩ = some (.int .i64 0) := (blk_cell BK763.out 0).trans rfl
        have hfs45 := blk_frozen BK763.out 0
        have hns45_0 := NB751_763.out
        have hms45_0 := NB763_751.out
        have hs46 : w44.cell? ⟨gb763, 1, none⟩ = some (.int .i64 0) := (blk_cell BK763.out 1).trans rfl
        have hfs46 := blk_frozen BK763.out 1
        have hns46_0 := NB751_763.out
        have hms46_0 := NB763_751.out
        have hs47 : w44.cell? ⟨gb763, 2, none⟩ = some (.int .i64 0) := (blk_cell BK763.out 2).trans rfl
        have hfs47 := blk_frozen BK763.out 2
        have hns47_0 := NB751_763.out
        have hms47_0 := NB763_751.out
        have hs48 : w44.cell? ⟨gb763, 3, none⟩ = some (.int .i64 0) := (blk_cell BK763.out 3).trans rfl
        have hfs48 := blk_frozen BK763.out 3
        have hns48_0 := NB751_763.out
        have hms48_0 := NB763_751.out
        have hs49 : w44.cell? ⟨gb763, 4, none⟩ = some (.int .i64 0) := (blk_cell BK763.out 4).trans rfl
        have hfs49 := blk_frozen BK763.out 4
        have hns49_0 := NB751_763.out
        have hms49_0 := NB763_751.out
        have hs50 : w44.cell? ⟨gb763, 5, none⟩ = some (.int .u64 0) := (blk_cell BK763.out 5).trans rfl
        have hfs50 := blk_frozen BK763.out 5
        have hns50_0 := NB751_763.out
        have hms50_0 := NB763_751.out
        refine skip_ (w1 := ?_) (by rfl) rfl ?_ ?_
        rotate_left
        ·go_simp
         rfl
        refine hK.out _ _ ⟨((cell_far (p := ⟨gb763, _, none⟩) NB751_763.out _).trans (((cell_far (p := ⟨gb763, _, none⟩) NB751_763.out _).trans (((cell_far (p := ⟨gb763, _, none⟩) NB751_763.out _).trans (((cell_far (p := ⟨gb763, _, none⟩) NB751_763.out _).trans (((cell_far (p := ⟨gb763, _, none⟩) NB751_763.out _).trans (((cell_far (p := ⟨gb763, _, none⟩) NB751_763.out _).trans (hHeld.1)))))))))))), ((cell_far (p := ⟨gb763, _, none⟩) NB751_763.out _).trans (((cell_far (p := ⟨gb763, _, none⟩) NB751_763.out _).trans (((cell_far (p := ⟨gb763, _, none⟩) NB751_763.out _).trans (((cell_far (p := ⟨gb763, _, none⟩) NB751_763.out _).trans (((cell_far (p := ⟨gb763, _, none⟩) NB751_763.out _).trans (((cell_far (p := ⟨gb763, _, none⟩) NB751_763.out _).trans (hHeld.2.1)))))))))))), ((cell_far (p := ⟨gb763, _, none⟩) NB751_763.out _).trans (((cell_far (p := ⟨gb763, _, none⟩) NB751_763.out _).trans (((cell_far (p := ⟨gb763, _, none⟩) NB751_763.out _).trans (((cell_far (p := ⟨gb763, _, none⟩) NB751_763.out _).trans (((cell_far (p := ⟨gb763, _, none⟩) NB751_763.out _).trans (((cell_far (p := ⟨gb763, _, none⟩) NB751_763.out _).trans (hHeld.2.2.1)))))))))))), ((cell_far (p := ⟨gb763, _, none⟩) NB751_763.out _).trans (((cell_far (p := ⟨gb763, _, none⟩) NB751_763.out _).trans (((cell_far (p := ⟨gb763, _, none⟩) NB751_763.out _).trans (((cell_far (p := ⟨gb763, _, none⟩) NB751_763.out _).trans (((cell_far (p := ⟨gb763, _, none⟩) NB751_763.out _).trans (((cell_far (p := ⟨gb763, _, none⟩) NB751_763.out _).trans (hHeld.2.2.2.1)))))))))))), ((cell_far (p := ⟨gb763, _, none⟩) NB751_763.out _).trans (((cell_far (p := ⟨gb763, _, none⟩) NB751_763.out _).trans (((cell_far (p := ⟨gb763, _, none⟩) NB751_763.out _).trans (((cell_far (p := ⟨gb763, _, none⟩) NB751_763.out _).trans (((cell_far (p := ⟨gb763, _, none⟩) NB751_763.out _).trans (((cell_far (p := ⟨gb763, _, none⟩) NB751_763.out _).trans (hHeld.2.2.2.2.1)))))))))))), ((cell_far (p := ⟨gb763, _, none⟩) NB751_763.out _).trans (((cell_far (p := ⟨gb763, _, none⟩) NB751_763.out _).trans (((cell_far (p := ⟨gb763, _, none⟩) NB751_763.out _).trans (((cell_far (p := ⟨gb763, _, none⟩) NB751_763.out _).trans (((cell_far (p := ⟨gb763, _, none⟩) NB751_763.out _).trans (((cell_far (p := ⟨gb763, _, none⟩) NB751_763.out _).trans (hHeld.2.2.2.2.2.1)))))))))))), ((cell_far (p := ⟨gb763, _, none⟩) (by first | exact Nat.ne_of_lt (Nat.lt_of_lt_of_le (by have := World.block_lt_of_cell? _ _ hw755_0; first | rwa [add_block] at this | exact this) GW763.out) | (rw [add_block]; exact Nat.ne_of_lt (Nat.lt_of_lt_of_le (by have := World.block_lt_of_cell? _ _ hw755_0; first | rwa [add_block] at this | exact this) GW763.out)) | (show (Addr.add _ _).block ≠ _; rw [add_block]; exact Nat.ne_of_lt (Nat.lt_of_lt_of_le (by have := World.block_lt_of_cell? _ _ hw755_0; first | rwa [add_block] at this | exact this) GW763.out)) | (dsimp only; exact Nat.ne_of_lt (Nat.lt_of_lt_of_le (by have := World.block_lt_of_cell? _ _ hw755_0; first | rwa [add_block] at this | exact this) GW763.out))) _).trans (((cell_far (p := ⟨gb763, _, none⟩) (by first | exact Nat.ne_of_lt (Nat.lt_of_lt_of_le (by have := World.block_lt_of_cell? _ _ hw755_0; first | rwa [add_block] at this | exact this) GW763.out) | (rw [add_block]; exact Nat.ne_of_lt (Nat.lt_of_lt_of_le (by have := World.block_lt_of_cell? _ _ hw755_0; first | rwa [add_block] at this | exact this) GW763.out)) | (show (Addr.add _ _).block ≠ _; rw [add_block]; exact Nat.ne_of_lt (Nat.lt_of_lt_of_le (by have := World.block_lt_of_cell? _ _ hw755_0; first | rwa [add_block] at this | exact this) GW763.out)) | (dsimp only; exact Nat.ne_of_lt (Nat.lt_of_lt_of_le (by have := World.block_lt_of_cell? _ _ hw755_0; first | rwa [add_block] at this | exact this) GW763.out))) _).trans (((cell_far (p := ⟨gb763, _, none⟩) (by first | exact Nat.ne_of_lt (Nat.lt_of_lt_of_le (by have := World.block_lt_of_cell? _ _ hw755_0; first | rwa [add_block] at this | exact this) GW763.out) | (rw [add_block]; exact Nat.ne_of_lt (Nat.lt_of_lt_of_le (by have := World.block_lt_of_cell? _ _ hw755_0; first | rwa [add_block] at this | exact this) GW763.out)) | (show (Addr.add _ _).block ≠ _; rw [add_block]; exact Nat.ne_of_lt (Nat.lt_of_lt_of_le (by have := World.block_lt_of_cell? _ _ hw755_0; first | rwa [add_block] at this | exact this) GW763.out)) | (dsimp only; exact Nat.ne_of_lt (Nat.lt_of_lt_of_le (by have := World.block_lt_of_cell? _ _ hw755_0; first | rwa [add_block] at this | exact this) GW763.out))) _).trans (((cell_far (p := ⟨gb763, _, none⟩) (by first | exact Nat.ne_of_lt (Nat.lt_of_lt_of_le (by have := World.block_lt_of_cell? _ _ hw755_0; first | rwa [add_block] at this | exact this) GW763.out) | (rw [add_block]; exact Nat.ne_of_lt (Nat.lt_of_lt_of_le (by have := World.block_lt_of_cell? _ _ hw755_0; first | rwa [add_block] at this | exact this) GW763.out)) | (show (Addr.add _ _).block ≠ _; rw [add_block]; exact Nat.ne_of_lt (Nat.lt_of_lt_of_le (by have := World.block_lt_of_cell? _ _ hw755_0; first | rwa [add_block] at this | exact this) GW763.out)) | (dsimp only; exact Nat.ne_of_lt (Nat.lt_of_lt_of_le (by have := World.block_lt_of_cell? _ _ hw755_0; first | rwa [add_block] at this | exact this) GW763.out))) _).trans (((cell_far (p := ⟨gb763, _, none⟩) (by first | exact Nat.ne_of_lt (Nat.lt_of_lt_of_le (by have := World.block_lt_of_cell? _ _ hw755_0; first | rwa [add_block] at this | exact this) GW763.out) | (rw [add_block]; exact Nat.ne_of_lt (Nat.lt_of_lt_of_le (by have := World.block_lt_of_cell? _ _ hw755_0; first | rwa [add_block] at this | exact this) GW763.out)) | (show (Addr.add _ _).block ≠ _; rw [add_block]; exact Nat.ne_of_lt (Nat.lt_of_lt_of_le (by have := World.block_lt_of_cell? _ _ hw755_0; first | rwa [add_block] at this | exact this) GW763.out)) | (dsimp only; exact Nat.ne_of_lt (Nat.lt_of_lt_of_le (by have := World.block_lt_of_cell? _ _ hw755_0; first | rwa [add_block] at this | exact this) GW763.out))) _).trans (((cell_far (p := ⟨gb763, _, none⟩) (by first | exact Nat.ne_of_lt (Nat.lt_of_lt_of_le (by have := World.block_lt_of_cell? _ _ hw755_0; first | rwa [add_block] at this | exact this) GW763.out) | (rw [add_block]; exact Nat.ne_of_lt (Nat.lt_of_lt_of_le (by have := World.block_lt_of_cell? _ _ hw755_0; first | rwa [add_block] at this | exact this) GW763.out)) | (show (Addr.add _ _).block ≠ _; rw [add_block]; exact Nat.ne_of_lt (Nat.lt_of_lt_of_le (by have := World.block_lt_of_cell? _ _ hw755_0; first | rwa [add_block] at this | exact this) GW763.out)) | (dsimp only; exact Nat.ne_of_lt (Nat.lt_of_lt_of_le (by have := World.block_lt_of_cell? _ _ hw755_0; first | rwa [add_block] at this | exact this) GW763.out))) _).trans (hHeld.2.2.2.2.2.2))))))))))))⟩ (fun hHeld => ?_)
        clear hK K
        refine pure_ (i := 11) (N := some 15) (v := ?_) (a' := ?_) #[true, true, true, true, true, true, true, true, true, true, true, true] rfl rfl (any_of HT_.out (by kernel_rfl)) (fun _ _ _ h => h) (Or.inl ⟨by rfl, ?_⟩) ?_ ?_
        rotate_left
        ·intro w'
         go_simp
         with_reducible rfl
        rotate_left
        ·simp only [Act.put, List.setIfInBounds_toArray, List.set_cons_zero, List.set_cons_succ, i64_w, i32_w]
         rfl
        refine done_ (done_of HT_.out (by kernel_rfl)) ?_
        have hnb51 := NB763_751.out
        have hnc51 := NB751_763.out
        have hcz52_0 : w44.cell? ⟨gb763, 0, none⟩ = some (.int .i64 0) := (blk_cell BK763.out 0).trans rfl
        have hcz52_1 : w44.cell? ⟨gb763, 1, none⟩ = some (.int .i64 0) := (blk_cell BK763.out 1).trans rfl
        have hcz52_2 : w44.cell? ⟨gb763, 2, none⟩ = some (.int .i64 0) := (blk_cell BK763.out 2).trans rfl
        have hcz52_3 : w44.cell? ⟨gb763, 3, none⟩ = some (.int .i64 0) := (blk_cell BK763.out 3).trans rfl
        have hcz52_4 : w44.cell? ⟨gb763, 4, none⟩ = some (.int .i64 0) := (blk_cell BK763.out 4).trans rfl
        have hcz52_5 : w44.cell? ⟨gb763, 5, none⟩ = some (.int .u64 0) := (blk_cell BK763.out 5).trans rfl
        have hfz52_0 := blk_frozen BK763.out 0
        have hfz52_1 := blk_frozen BK763.out 1
        have hfz52_2 := blk_frozen BK763.out 2
        have hfz52_3 := blk_frozen BK763.out 3
        have hfz52_4 := blk_frozen BK763.out 4
        have hfz52_5 := blk_frozen BK763.out 5
        have hcz53_0 : w44.cell? ⟨gb751, 0, none⟩ = some (.int .i64 x752000_2) := (blk_cell BK751.out 0).trans rfl
        have hcz53_1 : w44.cell? ⟨gb751, 1, none⟩ = some (.int .i64 x752001_2) := (blk_cell BK751.out 1).trans rfl
        have hcz53_2 : w44.cell? ⟨gb751, 2, none⟩ = some (.int .i64 x752002_2) := (blk_cell BK751.out 2).trans rfl
        have hcz53_3 : w44.cell? ⟨gb751, 3, none⟩ = some (.int .i64 x752003_2) := (blk_cell BK751.out 3).trans rfl
        have hcz53_4 : w44.cell? ⟨gb751, 4, none⟩ = some (.int .i64 x752004_2) := (blk_cell BK751.out 4).trans rfl
        have hcz53_5 : w44.cell? ⟨gb751, 5, none⟩ = some (.int .u64 x752005_2) := (blk_cell BK751.out 5).trans rfl
        have hfz53_0 := blk_frozen BK751.out 0
        have hfz53_1 := blk_frozen BK751.out 1
        have hfz53_2 := blk_frozen BK751.out 2
        have hfz53_3 := blk_frozen BK751.out 3
        have hfz53_4 := blk_frozen BK751.out 4
        have hfz53_5 := blk_frozen BK751.out 5
        have p764 : 0 ≤ (x13_2 : Int) := of_decide_eq_true (by first | (with_reducible assumption) | assumption)
        have q764 : x13_2 < (t744.length : Int) := of_decide_eq_true (by first | (with_reducible assumption) | assumption)
        obtain ⟨ad764, e764, hx764_0⟩ := Kd.at_bool (Kd.R_reads' HO_10.out).2.2 x13_2 p764 q764
        (try rw [← Nbq36.out] at hx764_0)
        cases e764
        have hn764_0 : ad764.block ≠ gb763 := Kd.own_blk (Kd.R_ne HO_10.out BK763.out (by decide))
        have hn764_1 : ad764.block ≠ gb763 := Kd.own_blk (Kd.R_ne HO_10.out BK763.out (by decide))
        have hn764_2 : ad764.block ≠ gb763 := Kd.own_blk (Kd.R_ne HO_10.out BK763.out (by decide))
        have hn764_3 : ad764.block ≠ gb763 := Kd.own_blk (Kd.R_ne HO_10.out BK763.out (by decide))
        have hn764_4 : ad764.block ≠ gb763 := Kd.own_blk (Kd.R_ne HO_10.out BK763.out (by decide))
        have hn764_5 : ad764.block ≠ gb763 := Kd.own_blk (Kd.R_ne HO_10.out BK763.out (by decide))
        have hn764_6 : ad764.block ≠ gb751 := Kd.own_blk (Kd.R_ne HO_10.out BK751.out (by decide))
        have hn764_7 : ad764.block ≠ gb751 := Kd.own_blk (Kd.R_ne HO_10.out BK751.out (by decide))
        have hn764_8 : ad764.block ≠ gb751 := Kd.own_blk (Kd.R_ne HO_10.out BK751.out (by decide))
        have hn764_9 : ad764.block ≠ gb751 := Kd.own_blk (Kd.R_ne HO_10.out BK751.out (by decide))
        have hn764_10 : ad764.block ≠ gb751 := Kd.own_blk (Kd.R_ne HO_10.out BK751.out (by decide))
        have hn764_11 : ad764.block ≠ gb751 := Kd.own_blk (Kd.R_ne HO_10.out BK751.out (by decide))
        replace hx764_0 := (cell_far (p := ⟨gb763, 0, none⟩) (by first | (rw [add_block]; exact hn764_0) | (show (Addr.add _ _).block ≠ _; rw [add_block]; exact hn764_0) | exact hn764_0) (.int .i64 t756)).trans hx764_0
        replace hx764_0 := (cell_far (p := ⟨gb763, 1, none⟩) (by first | (rw [add_block]; exact hn764_1) | (show (Addr.add _ _).block ≠ _; rw [add_block]; exact hn764_1) | exact hn764_1) (.int .i64 t757)).trans hx764_0
        replace hx764_0 := (cell_far (p := ⟨gb763, 2, none⟩) (by first | (rw [add_block]; exact hn764_2) | (show (Addr.add _ _).block ≠ _; rw [add_block]; exact hn764_2) | exact hn764_2) (.int .i64 t758)).trans hx764_0
        replace hx764_0 := (cell_far (p := ⟨gb763, 3, none⟩) (by first | (rw [add_block]; exact hn764_3) | (show (Addr.add _ _).block ≠ _; rw [add_block]; exact hn764_3) | exact hn764_3) (.int .i64 t759)).trans hx764_0
        replace hx764_0 := (cell_far (p := ⟨gb763, 4, none⟩) (by first | (rw [add_block]; exact hn764_4) | (show (Addr.add _ _).block ≠ _; rw [add_block]; exact hn764_4) | exact hn764_4) (.int .i64 t760)).trans hx764_0
        replace hx764_0 := (cell_far (p := ⟨gb763, 5, none⟩) (by first | (rw [add_block]; exact hn764_5) | (show (Addr.add _ _).block ≠ _; rw [add_block]; exact hn764_5) | exact hn764_5) (.int .u64 t761)).trans hx764_0
        replace hx764_0 := (cell_far (p := ⟨gb751, 0, none⟩) (by first | (rw [add_block]; exact hn764_6) | (show (Addr.add _ _).block ≠ _; rw [add_block]; exact hn764_6) | exact hn764_6) (.int .i64 t756)).trans hx764_0
        replace hx764_0 := (cell_far (p := ⟨gb751, 1, none⟩) (by first | (rw [add_block]; exact hn764_7) | (show (Addr.add _ _).block ≠ _; rw [add_block]; exact hn764_7) | exact hn764_7) (.int .i64 t757)).trans hx764_0
        replace hx764_0 := (cell_far (p := ⟨gb751, 2, none⟩) (by first | (rw [add_block]; exact hn764_8) | (show (Addr.add _ _).block ≠ _; rw [add_block]; exact hn764_8) | exact hn764_8) (.int .i64 t758)).trans hx764_0
        replace hx764_0 := (cell_far (p := ⟨gb751, 3, none⟩) (by first | (rw [add_block]; exact hn764_9) | (show (Addr.add _ _).block ≠ _; rw [add_block]; exact hn764_9) | exact hn764_9) (.int .i64 t759)).trans hx764_0
        replace hx764_0 := (cell_far (p := ⟨gb751, 4, none⟩) (by first | (rw [add_block]; exact hn764_10) | (show (Addr.add _ _).block ≠ _; rw [add_block]; exact hn764_10) | exact hn764_10) (.int .i64 t760)).trans hx764_0
        replace hx764_0 := (cell_far (p := ⟨gb751, 5, none⟩) (by first | (rw [add_block]; exact hn764_11) | (show (Addr.add _ _).block ≠ _; rw [add_block]; exact hn764_11) | exact hn764_11) (.int .u64 t761)).trans hx764_0
        clear hn764_0
        clear hn764_1
        clear hn764_2
        clear hn764_3
        clear hn764_4
        clear hn764_5
        clear hn764_6
        clear hn764_7
        clear hn764_8
        clear hn764_9
        clear hn764_10
        clear hn764_11
        replace p764 := eq_true p764
        replace q764 := eq_true q764
        try go_wp2
        have n0_ : Aside0 (Kd.R k37 37 ((((((((((((w44.setCell ⟨gb763, 0, none⟩ (.int .i64 t756)).setCell ⟨gb763, 1, none⟩ (.int .i64 t757)).setCell ⟨gb763, 2, none⟩ (.int .i64 t758)).setCell ⟨gb763, 3, none⟩ (.int .i64 t759)).setCell ⟨gb763, 4, none⟩ (.int .i64 t760)).setCell ⟨gb763, 5, none⟩ (.int .u64 t761)).setCell ⟨gb751, 0, none⟩ (.int .i64 t756)).setCell ⟨gb751, 1, none⟩ (.int .i64 t757)).setCell ⟨gb751, 2, none⟩ (.int .i64 t758)).setCell ⟨gb751, 3, none⟩ (.int .i64 t759)).setCell ⟨gb751, 4, none⟩ (.int .i64 t760)).setCell ⟨gb751, 5, none⟩ (.int .u64 t761)) w.heap.size (fun k_ => k_ ≠ gb751 ∧ k_ ≠ gb763) (.slice Ao27 t743.length co27) t743) := ⟨by (with_reducible repeat (first | apply Kd.R_alloc | apply Kd.R_drewN | apply Kd.R_drew)); exact Kd.R_mono (Kd.R_far (p := ⟨gb751, 5, none⟩) (Kd.R_far (p := ⟨gb751, 4, none⟩) (Kd.R_far (p := ⟨gb751, 3, none⟩) (Kd.R_far (p := ⟨gb751, 2, none⟩) (Kd.R_far (p := ⟨gb751, 1, none⟩) (Kd.R_far (p := ⟨gb751, 0, none⟩) (Kd.R_far (p := ⟨gb763, 5, none⟩) (Kd.R_far (p := ⟨gb763, 4, none⟩) (Kd.R_far (p := ⟨gb763, 3, none⟩) (Kd.R_far (p := ⟨gb763, 2, none⟩) (Kd.R_far (p := ⟨gb763, 1, none⟩) (Kd.R_far (p := ⟨gb763, 0, none⟩) (Kd.R_mono (Kd.R_mono HO_9.out (fun k_ hk => (⟨hk, hk.2⟩ : _ ∧ k_ ≠ gb763))) (fun k_ hk => (⟨hk, hk.1.1⟩ : _ ∧ k_ ≠ gb751))) (fun _ hk => hk.1.2) (.int .i64 t756)) (fun _ hk => hk.1.2) (.int .i64 t757)) (fun _ hk => hk.1.2) (.int .i64 t758)) (fun _ hk => hk.1.2) (.int .i64 t759)) (fun _ hk => hk.1.2) (.int .i64 t760)) (fun _ hk => hk.1.2) (.int .u64 t761)) (fun _ hk => hk.2) (.int .i64 t756)) (fun _ hk => hk.2) (.int .i64 t757)) (fun _ hk => hk.2) (.int .i64 t758)) (fun _ hk => hk.2) (.int .i64 t759)) (fun _ hk => hk.2) (.int .i64 t760)) (fun _ hk => hk.2) (.int .u64 t761)) (fun _ hk => ⟨hk.1.1.1, hk.1.1.2⟩)⟩
        have n1_ : Aside0 (Kd.R Kd.bool 4 ((((((((((((w44.setCell ⟨gb763, 0, none⟩ (.int .i64 t756)).setCell ⟨gb763, 1, none⟩ (.int .i64 t757)).setCell ⟨gb763, 2, none⟩ (.int .i64 t758)).setCell ⟨gb763, 3, none⟩ (.int .i64 t759)).setCell ⟨gb763, 4, none⟩ (.int .i64 t760)).setCell ⟨gb763, 5, none⟩ (.int .u64 t761)).setCell ⟨gb751, 0, none⟩ (.int .i64 t756)).setCell ⟨gb751, 1, none⟩ (.int .i64 t757)).setCell ⟨gb751, 2, none⟩ (.int .i64 t758)).setCell ⟨gb751, 3, none⟩ (.int .i64 t759)).setCell ⟨gb751, 4, none⟩ (.int .i64 t760)).setCell ⟨gb751, 5, none⟩ (.int .u64 t761)) w.heap.size (fun _ => True) (.slice (some ad764) t744.length co28) t744) := ⟨by (with_reducible repeat (first | apply Kd.R_alloc | apply Kd.R_drewN | apply Kd.R_drew)); exact Kd.R_mono (Kd.R_far (p := ⟨gb751, 5, none⟩) (Kd.R_far (p := ⟨gb751, 4, none⟩) (Kd.R_far (p := ⟨gb751, 3, none⟩) (Kd.R_far (p := ⟨gb751, 2, none⟩) (Kd.R_far (p := ⟨gb751, 1, none⟩) (Kd.R_far (p := ⟨gb751, 0, none⟩) (Kd.R_far (p := ⟨gb763, 5, none⟩) (Kd.R_far (p := ⟨gb763, 4, none⟩) (Kd.R_far (p := ⟨gb763, 3, none⟩) (Kd.R_far (p := ⟨gb763, 2, none⟩) (Kd.R_far (p := ⟨gb763, 1, none⟩) (Kd.R_far (p := ⟨gb763, 0, none⟩) (Kd.R_types (Kd.R_types HO_10.out BK763.out (by decide)) BK751.out (by decide)) (fun _ hk => hk.1.2) (.int .i64 t756)) (fun _ hk => hk.1.2) (.int .i64 t757)) (fun _ hk => hk.1.2) (.int .i64 t758)) (fun _ hk => hk.1.2) (.int .i64 t759)) (fun _ hk => hk.1.2) (.int .i64 t760)) (fun _ hk => hk.1.2) (.int .u64 t761)) (fun _ hk => hk.2) (.int .i64 t756)) (fun _ hk => hk.2) (.int .i64 t757)) (fun _ hk => hk.2) (.int .i64 t758)) (fun _ hk => hk.2) (.int .i64 t759)) (fun _ hk => hk.2) (.int .i64 t760)) (fun _ hk => hk.2) (.int .u64 t761)) (fun _ hk => trivial)⟩
        have n2_ : Aside0 (((((((((((((w44.setCell ⟨gb763, 0, none⟩ (.int .i64 t756)).setCell ⟨gb763, 1, none⟩ (.int .i64 t757)).setCell ⟨gb763, 2, none⟩ (.int .i64 t758)).setCell ⟨gb763, 3, none⟩ (.int .i64 t759)).setCell ⟨gb763, 4, none⟩ (.int .i64 t760)).setCell ⟨gb763, 5, none⟩ (.int .u64 t761)).setCell ⟨gb751, 0, none⟩ (.int .i64 t756)).setCell ⟨gb751, 1, none⟩ (.int .i64 t757)).setCell ⟨gb751, 2, none⟩ (.int .i64 t758)).setCell ⟨gb751, 3, none⟩ (.int .i64 t759)).setCell ⟨gb751, 4, none⟩ (.int .i64 t760)).setCell ⟨gb751, 5, none⟩ (.int .u64 t761)).heap[gb751]? = some (.cells #[.int .i64 t756, .int .i64 t757, .int .i64 t758, .int .i64 t759, .int .i64 t760, .int .u64 t761] 37 (0, 0))) := ⟨(blk_put (cs := #[.int .i64 t756, .int .i64 t757, .int .i64 t758, .int .i64 t759, .int .i64 t760, .int .u64 x752005_2]) (blk_put (cs := #[.int .i64 t756, .int .i64 t757, .int .i64 t758, .int .i64 t759, .int .i64 x752004_2, .int .u64 x752005_2]) (blk_put (cs := #[.int .i64 t756, .int .i64 t757, .int .i64 t758, .int .i64 x752003_2, .int .i64 x752004_2, .int .u64 x752005_2]) (blk_put (cs := #[.int .i64 t756, .int .i64 t757, .int .i64 x752002_2, .int .i64 x752003_2, .int .i64 x752004_2, .int .u64 x752005_2]) (blk_put (cs := #[.int .i64 t756, .int .i64 x752001_2, .int .i64 x752002_2, .int .i64 x752003_2, .int .i64 x752004_2, .int .u64 x752005_2]) (blk_put (cs := #[.int .i64 x752000_2, .int .i64 x752001_2, .int .i64 x752002_2, .int .i64 x752003_2, .int .i64 x752004_2, .int .u64 x752005_2]) (blk_far (blk_far (blk_far (blk_far (blk_far (blk_far (bq_ BK751) NB751_763.out _) NB751_763.out _) NB751_763.out _) NB751_763.out _) NB751_763.out _) NB751_763.out _) 0 _ rfl) 1 _ rfl) 2 _ rfl) 3 _ rfl) 4 _ rfl) 5 _ rfl)⟩
        have n3_ : Aside0 (((((((((((((w44.setCell ⟨gb763, 0, none⟩ (.int .i64 t756)).setCell ⟨gb763, 1, none⟩ (.int .i64 t757)).setCell ⟨gb763, 2, none⟩ (.int .i64 t758)).setCell ⟨gb763, 3, none⟩ (.int .i64 t759)).setCell ⟨gb763, 4, none⟩ (.int .i64 t760)).setCell ⟨gb763, 5, none⟩ (.int .u64 t761)).setCell ⟨gb751, 0, none⟩ (.int .i64 t756)).setCell ⟨gb751, 1, none⟩ (.int .i64 t757)).setCell ⟨gb751, 2, none⟩ (.int .i64 t758)).setCell ⟨gb751, 3, none⟩ (.int .i64 t759)).setCell ⟨gb751, 4, none⟩ (.int .i64 t760)).setCell ⟨gb751, 5, none⟩ (.int .u64 t761)).heap[gb763]? = some (.cells #[.int .i64 t756, .int .i64 t757, .int .i64 t758, .int .i64 t759, .int .i64 t760, .int .u64 t761] 37 (0, 0))) := ⟨(blk_far (blk_far (blk_far (blk_far (blk_far (blk_far (blk_put (cs := #[.int .i64 t756, .int .i64 t757, .int .i64 t758, .int .i64 t759, .int .i64 t760, .int .u64 0]) (blk_put (cs := #[.int .i64 t756, .int .i64 t757, .int .i64 t758, .int .i64 t759, .int .i64 0, .int .u64 0]) (blk_put (cs := #[.int .i64 t756, .int .i64 t757, .int .i64 t758, .int .i64 0, .int .i64 0, .int .u64 0]) (blk_put (cs := #[.int .i64 t756, .int .i64 t757, .int .i64 0, .int .i64 0, .int .i64 0, .int .u64 0]) (blk_put (cs := #[.int .i64 t756, .int .i64 0, .int .i64 0, .int .i64 0, .int .i64 0, .int .u64 0]) (blk_put (cs := #[.int .i64 0, .int .i64 0, .int .i64 0, .int .i64 0, .int .i64 0, .int .u64 0]) (bq_ BK763) 0 _ rfl) 1 _ rfl) 2 _ rfl) 3 _ rfl) 4 _ rfl) 5 _ rfl) NB763_751.out _) NB763_751.out _) NB763_751.out _) NB763_751.out _) NB763_751.out _) NB763_751.out _)⟩
        have n4_ : Aside0 (Below w.heap.size w ((((((((((((w44.setCell ⟨gb763, 0, none⟩ (.int .i64 t756)).setCell ⟨gb763, 1, none⟩ (.int .i64 t757)).setCell ⟨gb763, 2, none⟩ (.int .i64 t758)).setCell ⟨gb763, 3, none⟩ (.int .i64 t759)).setCell ⟨gb763, 4, none⟩ (.int .i64 t760)).setCell ⟨gb763, 5, none⟩ (.int .u64 t761)).setCell ⟨gb751, 0, none⟩ (.int .i64 t756)).setCell ⟨gb751, 1, none⟩ (.int .i64 t757)).setCell ⟨gb751, 2, none⟩ (.int .i64 t758)).setCell ⟨gb751, 3, none⟩ (.int .i64 t759)).setCell ⟨gb751, 4, none⟩ (.int .i64 t760)).setCell ⟨gb751, 5, none⟩ (.int .u64 t761))) := ⟨by repeat (first | (with_reducible first | exact HB.out | apply below_alloc | apply pw_below_drewN | apply below_drew1 | refine below_set ?_ GE751.out | refine below_set ?_ GE763.out) | exact HB.out)⟩
        (try clear HO_9)
        (try clear HO_10)
        (try clear BK751)
        (try clear BK763)
        (try clear HB)
        generalize ((((((((((((w44.setCell ⟨gb763, 0, none⟩ (.int .i64 t756)).setCell ⟨gb763, 1, none⟩ (.int .i64 t757)).setCell ⟨gb763, 2, none⟩ (.int .i64 t758)).setCell ⟨gb763, 3, none⟩ (.int .i64 t759)).setCell ⟨gb763, 4, none⟩ (.int .i64 t760)).setCell ⟨gb763, 5, none⟩ (.int .u64 t761)).setCell ⟨gb751, 0, none⟩ (.int .i64 t756)).setCell ⟨gb751, 1, none⟩ (.int .i64 t757)).setCell ⟨gb751, 2, none⟩ (.int .i64 t758)).setCell ⟨gb751, 3, none⟩ (.int .i64 t759)).setCell ⟨gb751, 4, none⟩ (.int .i64 t760)).setCell ⟨gb751, 5, none⟩ (.int .u64 t761)) = w54 at n0_ n1_ n2_ n3_ n4_ ⊢
        have HO_9 := n0_
        have HO_10 := n1_
        have BK751 := n2_
        have BK763 := n3_
        have HB := n4_
        clear n0_ n1_ n2_ n3_ n4_
        replace HO_9 := Aside0.mk (Kd.R_drew HO_9.out)
        replace HO_10 := Aside0.mk (Kd.R_drew HO_10.out)
        replace BK751 := Aside0.mk (blk_drew BK751.out)
        replace BK763 := Aside0.mk (blk_drew BK763.out)
        replace HB := Aside0.mk (below_drew1 HB.out)
        have p765 : 0 ≤ (x13_2 : Int) := of_decide_eq_true (by first | (with_reducible assumption) | assumption)
        have q765 : x13_2 < (l2.length : Int) := of_decide_eq_true (by first | (with_reducible assumption) | assumption)
        obtain ⟨ad765, e765, hx765_0⟩ := Kd.at_int HR2.out x13_2 p765 q765
        have hw765_0 := hx765_0
        cases e765
        replace hx765_0 := (HB.out.cell (World.block_lt_of_cell? w _ hx765_0)).trans hx765_0
        replace p765 := eq_true p765
        replace q765 := eq_true q765
        refine start_ (n := 12) (S := fun w' => w'.cell? ⟨gb751, 0, none⟩ = some (.int .i64 t756) ∧ w'.cell? ⟨gb751, 1, none⟩ = some (.int .i64 t757) ∧ w'.cell? ⟨gb751, 2, none⟩ = some (.int .i64 t758) ∧ w'.cell? ⟨gb751, 3, none⟩ = some (.int .i64 t759) ∧ w'.cell? ⟨gb751, 4, none⟩ = some (.int .i64 t760) ∧ w'.cell? ⟨gb751, 5, none⟩ = some (.int .u64 t761) ∧ w'.cell? (ad765.add (x13_2).toNat) = some (.int .i64 (rd l2 x13_2))) (ds := []) #[false, false, false, false, false, false, false, false, false, false, false, false] (by kernel_rfl) rfl rfl ⟨(blk_cell BK751.out 0).trans rfl, (blk_cell BK751.out 1).trans rfl, (blk_cell BK751.out 2).trans rfl, (blk_cell BK751.out 3).trans rfl, (blk_cell BK751.out 4).trans rfl, (blk_cell BK751.out 5).trans rfl, ((HB.out.cell (World.block_lt_of_cell? w _ hw765_0)).trans hw765_0)⟩ (fun hHeld => ?_); refine with_tabW spigotlaw04_LevelsAlone.tab15 spigotlaw04_LevelsAlone.bits15 (fun HT_ HW_ => ?_)
        generalize w54.drew = w55 at HO_9 HO_10 BK751 BK763 HB hx765_0 hHeld ⊢
        refine pure_ (i := 1) (N := some 96) (v := ?_) (a' := ?_) #[false, true, false, false, false, false, false, false, false, false, false, false] rfl rfl (any_of HT_.out (by kernel_rfl)) (fun _ _ _ h => h) (Or.inl ⟨by rfl, ?_⟩) ?_ ?_
        rotate_left
        ·intro w'
         go_simp
         with_reducible rfl
        rotate_left
        ·simp only [Act.put, List.setIfInBounds_toArray, List.set_cons_zero, List.set_cons_succ, i64_w, i32_w]
         rfl
        refine pure_ (i := 2) (N := some 97) (v := ?_) (a' := ?_) #[false, true, true, false, false, false, false, false, false, false, false, false] rfl rfl (any_of HT_.out (by kernel_rfl)) (fun _ _ _ h => h) (Or.inl ⟨by rfl, ?_⟩) ?_ ?_
        rotate_left
        ·intro w'
         go_simp
         with_reducible rfl
        rotate_left
        ·simp only [Act.put, List.setIfInBounds_toArray, List.set_cons_zero, List.set_cons_succ, i64_w, i32_w]
         rfl
        refine pure_ (i := 3) (N := some 98) (v := ?_) (a' := ?_) #[false, true, true, true, false, false, false, false, false, false, false, false] rfl rfl (any_of HT_.out (by kernel_rfl)) (fun _ _ _ h => h) (Or.inl ⟨by rfl, ?_⟩) ?_ ?_
        rotate_left
        ·intro w'
         go_simp
         with_reducible rfl
        rotate_left
        ·simp only [Act.put, List.setIfInBounds_toArray, List.set_cons_zero, List.set_cons_succ, i64_w, i32_w]
         rfl
        refine take_ (i := 0) (N := some 95) (v := ?_) (a' := ?_) #[true, true, true, true, false, false, false, false, false, false, false, false] rfl rfl (take_ofW HT_.out HW_.out (by kernel_rfl)) (fun _ _ _ h => h) (Or.inl ⟨by rfl, ?_⟩) hHeld ?_ ?_
        rotate_left
        ·rintro w' ⟨s0, s1, s2, s3, s4, s5, s6⟩
         go_simp
         with_reducible rfl
        rotate_left
        ·simp only [Act.put, List.setIfInBounds_toArray, List.set_cons_zero, List.set_cons_succ, i64_w, i32_w]
         rfl
        refine take_ (i := 4) (N := some 99) (v := ?_) (a' := ?_) #[true, true, true, true, true, false, false, false, false, false, false, false] rfl rfl (take_ofW HT_.out HW_.out (by kernel_rfl)) (fun _ _ _ h => h) (Or.inl ⟨by rfl, ?_⟩) hHeld ?_ ?_
        rotate_left
        ·rintro w' ⟨s0, s1, s2, s3, s4, s5, s6⟩
         go_simp
         with_reducible rfl
        rotate_left
        ·simp only [Act.put, List.setIfInBounds_toArray, List.set_cons_zero, List.set_cons_succ, i64_w, i32_w]
         rfl
        refine join_ (σ := Nat) 2 #[true, true, true, true, true, true, true, true, true, true, false, false] (fun s_ => [(100, .tuple #[.agg #[.int .i64 t766, .int .i64 t767, .int .i64 t768, .int .i64 t769, .int .i64 t770, .int .u64 t771], .int .i64 t772]), (16, .pointer (some ⟨s_, 0, none⟩)), (94, .tuple #[.agg #[.int .i64 t766, .int .i64 t767, .int .i64 t768, .int .i64 t769, .int .i64 t770, .int .u64 t771], .int .i64 t772]), (101, .agg #[.int .i64 t766, .int .i64 t767, .int .i64 t768, .int .i64 t769, .int .i64 t770, .int .u64 t771]), (102, .int .i64 t772)]) (fun s_ w' => (w'.cell? ⟨gb751, 0, none⟩ = some (.int .i64 t756) ∧ w'.cell? ⟨gb751, 1, none⟩ = some (.int .i64 t757) ∧ w'.cell? ⟨gb751, 2, none⟩ = some (.int .i64 t758) ∧ w'.cell? ⟨gb751, 3, none⟩ = some (.int .i64 t759) ∧ w'.cell? ⟨gb751, 4, none⟩ = some (.int .i64 t760) ∧ w'.cell? ⟨gb751, 5, none⟩ = some (.int .u64 t761) ∧ w'.cell? (ad765.add (x13_2).toNat) = some (.int .i64 (rd l2 x13_2))) ∧ (Kd.R Kd.bool 4 w' w.heap.size (fun _ => True) (.slice (some ad764) t744.length co28) t744) ∧ (Kd.R k37 37 w' w.heap.size (fun k_ => k_ ≠ gb751 ∧ k_ ≠ gb763 ∧ k_ ≠ s_) (.slice Ao27 t743.length co27) t743) ∧ (w'.heap[gb751]? = some (.cells #[.int .i64 t756, .int .i64 t757, .int .i64 t758, .int .i64 t759, .int .i64 t760, .int .u64 t761] 37 (0, 0))) ∧ (w'.heap[gb763]? = some (.cells #[.int .i64 t756, .int .i64 t757, .int .i64 t758, .int .i64 t759, .int .i64 t760, .int .u64 t761] 37 (0, 0))) ∧ (w'.heap[s_]? = some (.cells #[.int .i64 0, .int .i64 0, .int .i64 0, .int .i64 0, .int .i64 0, .int .u64 0] 37 (0, 0))) ∧ (w.heap.size ≤ s_) ∧ (w.heap.size ≤ s_) ∧ (gb751 ≠ s_) ∧ (s_ ≠ gb751) ∧ (gb763 ≠ s_) ∧ (s_ ≠ gb763) ∧ (Below w.heap.size w w')) ?_ ?_
        rotate_left
        ·intro hCont
         refine two_ (i := 5) (j := 9) (Ni := some 100) (Nj := some 16) #[true, true, true, true, true, true, false, false, false, false, false, false] #[true, true, true, true, true, false, false, false, false, true, false, false] rfl rfl rfl rfl (two_of HT_.out (by kernel_rfl)) (by decide) (by decide) (fun K hK => ?_) (fun K hK => ?_)
         ·skip
          refine goes_ Try.func30 (by kernel_rfl) rfl #[.agg #[.int .i64 t756, .int .i64 t757, .int .i64 t758, .int .i64 t759, .int .i64 t760, .int .u64 t761], .int .i64 (rd l2 x13_2)] (by rfl) rfl rfl (by (try simp only [List.map_toArray, List.map_cons, List.map_nil]); first | done | rfl | (simp only [List.length_drop, List.length_take]; rfl)) ?_
          with_reducible refine (bucket_Charge.calls t756 t757 t758 t759 t760 t761 (rd l2 x13_2) t766 t767 t768 t769 t770 t771 t772 _ A39.out).mono ?_
          rintro e w56 ⟨rfl, hb⟩
          refine ⟨_, rfl, ?_⟩
          replace HO_9 := Aside0.mk (Kd.R_below (by (with_reducible repeat (first | apply Kd.R_alloc | apply Kd.R_drewN | apply Kd.R_drew)); exact HO_9.out) hb)
          replace HO_10 := Aside0.mk (Kd.R_below (by (with_reducible repeat (first | apply Kd.R_alloc | apply Kd.R_drewN | apply Kd.R_drew)); exact HO_10.out) hb)
          replace BK751 := bb_ BK751 hb
          replace BK763 := bb_ BK763 hb
          replace HB := bs_ w hb
          (try clear hb)
          (try clear hb2)
          (try clear hk)
          (try clear hi)
          refine hK.out _ _ ⟨(blk_cell BK751.out 0).trans rfl, (blk_cell BK751.out 1).trans rfl, (blk_cell BK751.out 2).trans rfl, (blk_cell BK751.out 3).trans rfl, (blk_cell BK751.out 4).trans rfl, (blk_cell BK751.out 5).trans rfl, ((HB.out.cell (World.block_lt_of_cell? w _ hw765_0)).trans hw765_0)⟩ (fun hHeld => ?_)
          clear hK K
          refine norm_ (a' := ?_) ?_ ?_
          rotate_left
          ·show Act.put _ (some 100) _ = _
           simp only [Act.put, List.setIfInBounds_toArray, List.set_cons_zero, List.set_cons_succ, i64_w, i32_w]
           rfl
          refine pure_ (i := 6) (N := some 94) (v := ?_) (a' := ?_) #[true, true, true, true, true, true, true, false, false, false, false, false] rfl rfl (any_of HT_.out (by kernel_rfl)) (fun _ _ _ h => h) (Or.inl ⟨by rfl, ?_⟩) ?_ ?_
          rotate_left
          ·intro w'
           go_simp
           with_reducible rfl
          rotate_left
          ·simp only [Act.put, List.setIfInBounds_toArray, List.set_cons_zero, List.set_cons_succ, i64_w, i32_w]
           rfl
          refine pure_ (i := 7) (N := some 101) (v := ?_) (a' := ?_) #[true, true, true, true, true, true, true, true, false, false, false, false] rfl rfl (any_of HT_.out (by kernel_rfl)) (fun _ _ _ h => h) (Or.inl ⟨by rfl, ?_⟩) ?_ ?_
          rotate_left
          ·intro w'
           go_simp
           with_reducible rfl
          rotate_left
          ·simp only [Act.put, List.setIfInBounds_toArray, List.set_cons_zero, List.set_cons_succ, i64_w, i32_w]
           rfl
          refine pure_ (i := 8) (N := some 102) (v := ?_) (a' := ?_) #[true, true, true, true, true, true, true, true, true, false, false, false] rfl rfl (any_of HT_.out (by kernel_rfl)) (fun _ _ _ h => h) (Or.inl ⟨by rfl, ?_⟩) ?_ ?_
          rotate_left
          ·intro w'
           go_simp
           with_reducible rfl
          rotate_left
          ·simp only [Act.put, List.setIfInBounds_toArray, List.set_cons_zero, List.set_cons_succ, i64_w, i32_w]
           rfl
          refine one_ (i := 9) (N := some 16) #[true, true, true, true, true, true, true, true, true, true, false, false] rfl rfl (one_of HT_.out (by kernel_rfl)) (by decide) (fun K hK => ?_)
          refine box_step ?hg (N := 16) ?hd (cs := #[.int .i64 0, .int .i64 0, .int .i64 0, .int .i64 0, .int .i64 0, .int .u64 0]) (t := 37) ?hr ?_; (case hd => rfl); (case hg => rfl); (case hr => first | (go_simp; done) | (go_simp; rfl))
          intro gb773 hg w57 hbox hb
          have BK773 := Aside0.mk (hbox)
          have GW773 := bz_ w hg
          have GE773 := GW773
          have NB751_773 := bn_ BK751 hg
          have NB773_751 := bm_ BK751 hg
          have NB763_773 := bn_ BK763 hg
          have NB773_763 := bm_ BK763 hg
          replace HO_9 := Aside0.mk (Kd.R_below (Kd.R_elderB (by (with_reducible repeat (first | apply Kd.R_alloc | apply Kd.R_drewN | apply Kd.R_drew)); exact HO_9.out) gb773 (Nat.le_of_eq hg.symm)) hb)
          replace HO_10 := Aside0.mk (Kd.R_below (by (with_reducible repeat (first | apply Kd.R_alloc | apply Kd.R_drewN | apply Kd.R_drew)); exact HO_10.out) hb)
          replace BK751 := bb_ BK751 hb
          replace BK763 := bb_ BK763 hb
          replace HB := bs_ w hb
          clear hb hbox hg
          refine hK.out _ _ ⟨(blk_cell BK751.out 0).trans rfl, (blk_cell BK751.out 1).trans rfl, (blk_cell BK751.out 2).trans rfl, (blk_cell BK751.out 3).trans rfl, (blk_cell BK751.out 4).trans rfl, (blk_cell BK751.out 5).trans rfl, ((HB.out.cell (World.block_lt_of_cell? w _ hw765_0)).trans hw765_0)⟩ (fun hHeld => ?_)
          clear hK K
          refine norm_ (a' := ?_) ?_ ?_
          rotate_left
          ·show Act.put _ (some 16) _ = _
           simp only [Act.put, List.setIfInBounds_toArray, List.set_cons_zero, List.set_cons_succ, i64_w, i32_w]
           rfl
          exact norm_ (by simp only [putAll, Act.put, List.setIfInBounds_toArray, List.set_cons_zero, List.set_cons_succ]) (hCont (gb773) _ ⟨hHeld, (by (with_reducible repeat (first | apply Kd.R_alloc | apply Kd.R_drewN | apply Kd.R_drew)); exact HO_10.out), (by (with_reducible repeat (first | apply Kd.R_alloc | apply Kd.R_drewN | apply Kd.R_drew)); exact Kd.R_mono HO_9.out (fun _ hk => ⟨hk.1.1, ⟨hk.1.2, hk.2⟩⟩)), (bq_ BK751), (bq_ BK763), (bq_ BK773), GW773.out, GE773.out, NB751_773.out, NB773_751.out, NB763_773.out, NB773_763.out, (by repeat (first | (with_reducible first | exact HB.out | apply below_alloc | apply pw_below_drewN | apply below_drew1 | refine below_set ?_ (Aside0.out (by assumption))) | exact HB.out))⟩)
         ·skip
          refine box_step ?hg (N := 16) ?hd (cs := #[.int .i64 0, .int .i64 0, .int .i64 0, .int .i64 0, .int .i64 0, .int .u64 0]) (t := 37) ?hr ?_; (case hd => rfl); (case hg => rfl); (case hr => first | (go_simp; done) | (go_simp; rfl))
          intro gb773 hg w56 hbox hb
          have BK773 := Aside0.mk (hbox)
          have GW773 := bz_ w hg
          have GE773 := GW773
          have NB751_773 := bn_ BK751 hg
          have NB773_751 := bm_ BK751 hg
          have NB763_773 := bn_ BK763 hg
          have NB773_763 := bm_ BK763 hg
          replace HO_9 := Aside0.mk (Kd.R_below (Kd.R_elderB (by (with_reducible repeat (first | apply Kd.R_alloc | apply Kd.R_drewN | apply Kd.R_drew)); exact HO_9.out) gb773 (Nat.le_of_eq hg.symm)) hb)
          replace HO_10 := Aside0.mk (Kd.R_below (by (with_reducible repeat (first | apply Kd.R_alloc | apply Kd.R_drewN | apply Kd.R_drew)); exact HO_10.out) hb)
          replace BK751 := bb_ BK751 hb
          replace BK763 := bb_ BK763 hb
          replace HB := bs_ w hb
          clear hb hbox hg
          refine hK.out _ _ ⟨(blk_cell BK751.out 0).trans rfl, (blk_cell BK751.out 1).trans rfl, (blk_cell BK751.out 2).trans rfl, (blk_cell BK751.out 3).trans rfl, (blk_cell BK751.out 4).trans rfl, (blk_cell BK751.out 5).trans rfl, ((HB.out.cell (World.block_lt_of_cell? w _ hw765_0)).trans hw765_0)⟩ (fun hHeld => ?_)
          clear hK K
          refine norm_ (a' := ?_) ?_ ?_
          rotate_left
          ·show Act.put _ (some 16) _ = _
           simp only [Act.put, List.setIfInBounds_toArray, List.set_cons_zero, List.set_cons_succ, i64_w, i32_w]
           rfl
          refine one_ (i := 5) (N := some 100) #[true, true, true, true, true, true, false, false, false, true, false, false] rfl rfl (one_of HT_.out (by kernel_rfl)) (by decide) (fun K hK => ?_)
          refine goes_ Try.func30 (by kernel_rfl) rfl #[.agg #[.int .i64 t756, .int .i64 t757, .int .i64 t758, .int .i64 t759, .int .i64 t760, .int .u64 t761], .int .i64 (rd l2 x13_2)] (by rfl) rfl rfl (by (try simp only [List.map_toArray, List.map_cons, List.map_nil]); first | done | rfl | (simp only [List.length_drop, List.length_take]; rfl)) ?_
          with_reducible refine (bucket_Charge.calls t756 t757 t758 t759 t760 t761 (rd l2 x13_2) t766 t767 t768 t769 t770 t771 t772 _ A39.out).mono ?_
          rintro e w57 ⟨rfl, hb⟩
          refine ⟨_, rfl, ?_⟩
          replace HO_9 := Aside0.mk (Kd.R_below (by (with_reducible repeat (first | apply Kd.R_alloc | apply Kd.R_drewN | apply Kd.R_drew)); exact HO_9.out) hb)
          replace HO_10 := Aside0.mk (Kd.R_below (by (with_reducible repeat (first | apply Kd.R_alloc | apply Kd.R_drewN | apply Kd.R_drew)); exact HO_10.out) hb)
          replace BK751 := bb_ BK751 hb
          replace BK763 := bb_ BK763 hb
          replace BK773 := bb_ BK773 hb
          replace HB := bs_ w hb
          (try clear hb)
          (try clear hb2)
          (try clear hk)
          (try clear hi)
          refine hK.out _ _ ⟨(blk_cell BK751.out 0).trans rfl, (blk_cell BK751.out 1).trans rfl, (blk_cell BK751.out 2).trans rfl, (blk_cell BK751.out 3).trans rfl, (blk_cell BK751.out 4).trans rfl, (blk_cell BK751.out 5).trans rfl, ((HB.out.cell (World.block_lt_of_cell? w _ hw765_0)).trans hw765_0)⟩ (fun hHeld => ?_)
          clear hK K
          refine norm_ (a' := ?_) ?_ ?_
          rotate_left
          ·show Act.put _ (some 100) _ = _
           simp only [Act.put, List.setIfInBounds_toArray, List.set_cons_zero, List.set_cons_succ, i64_w, i32_w]
           rfl
          refine pure_ (i := 6) (N := some 94) (v := ?_) (a' := ?_) #[true, true, true, true, true, true, true, false, false, true, false, false] rfl rfl (any_of HT_.out (by kernel_rfl)) (fun _ _ _ h => h) (Or.inl ⟨by rfl, ?_⟩) ?_ ?_
          rotate_left
          ·intro w'
           go_simp
           with_reducible rfl
          rotate_left
          ·simp only [Act.put, List.setIfInBounds_toArray, List.set_cons_zero, List.set_cons_succ, i64_w, i32_w]
           rfl
          refine pure_ (i := 7) (N := some 101) (v := ?_) (a' := ?_) #[true, true, true, true, true, true, true, true, false, true, false, false] rfl rfl (any_of HT_.out (by kernel_rfl)) (fun _ _ _ h => h) (Or.inl ⟨by rfl, ?_⟩) ?_ ?_
          rotate_left
          ·intro w'
           go_simp
           with_reducible rfl
          rotate_left
          ·simp only [Act.put, List.setIfInBounds_toArray, List.set_cons_zero, List.set_cons_succ, i64_w, i32_w]
           rfl
          refine pure_ (i := 8) (N := some 102) (v := ?_) (a' := ?_) #[true, true, true, true, true, true, true, true, true, true, false, false] rfl rfl (any_of HT_.out (by kernel_rfl)) (fun _ _ _ h => h) (Or.inl ⟨by rfl, ?_⟩) ?_ ?_
          rotate_left
          ·intro w'
           go_simp
           with_reducible rfl
          rotate_left
          ·simp only [Act.put, List.setIfInBounds_toArray, List.set_cons_zero, List.set_cons_succ, i64_w, i32_w]
           rfl
          exact norm_ (by simp only [putAll, Act.put, List.setIfInBounds_toArray, List.set_cons_zero, List.set_cons_succ]) (hCont (gb773) _ ⟨hHeld, (by (with_reducible repeat (first | apply Kd.R_alloc | apply Kd.R_drewN | apply Kd.R_drew)); exact HO_10.out), (by (with_reducible repeat (first | apply Kd.R_alloc | apply Kd.R_drewN | apply Kd.R_drew)); exact Kd.R_mono HO_9.out (fun _ hk => ⟨hk.1.1, ⟨hk.1.2, hk.2⟩⟩)), (bq_ BK751), (bq_ BK763), (bq_ BK773), GW773.out, GE773.out, NB751_773.out, NB773_751.out, NB763_773.out, NB773_763.out, (by repeat (first | (with_reducible first | exact HB.out | apply below_alloc | apply pw_below_drewN | apply below_drew1 | refine below_set ?_ (Aside0.out (by assumption))) | exact HB.out))⟩)
        rintro gb773 w58 ⟨hS_, h0_, h1_, h2_, h3_, h4_, h5_, h6_, h7_, h8_, h9_, h10_, h11_⟩
        have BK773 : Aside0 (w58.heap[gb773]? = some (.cells #[.int .i64 0, .int .i64 0, .int .i64 0, .int .i64 0, .int .i64 0, .int .u64 0] 37 (0, 0))) := ⟨h4_⟩
        have GW773 : Aside0 (w.heap.size ≤ gb773) := ⟨h5_⟩
        have GE773 : Aside0 (w.heap.size ≤ gb773) := ⟨h6_⟩
        have NB751_773 : Aside0 (gb751 ≠ gb773) := ⟨h7_⟩
        have NB773_751 : Aside0 (gb773 ≠ gb751) := ⟨h8_⟩
        have NB763_773 : Aside0 (gb763 ≠ gb773) := ⟨h9_⟩
        have NB773_763 : Aside0 (gb773 ≠ gb763) := ⟨h10_⟩
        replace HO_10 : Aside0 (Kd.R Kd.bool 4 w58 w.heap.size (fun _ => True) (.slice (some ad764) t744.length co28) t744) := ⟨h0_⟩
        replace HO_9 : Aside0 (Kd.R k37 37 w58 w.heap.size (fun k_ => k_ ≠ gb751 ∧ k_ ≠ gb763 ∧ k_ ≠ gb773) (.slice Ao27 t743.length co27) t743) := ⟨h1_⟩
        replace BK751 : Aside0 (w58.heap[gb751]? = some (.cells #[.int .i64 t756, .int .i64 t757, .int .i64 t758, .int .i64 t759, .int .i64 t760, .int .u64 t761] 37 (0, 0))) := ⟨h2_⟩
        replace BK763 : Aside0 (w58.heap[gb763]? = some (.cells #[.int .i64 t756, .int .i64 t757, .int .i64 t758, .int .i64 t759, .int .i64 t760, .int .u64 t761] 37 (0, 0))) := ⟨h3_⟩
        replace HB : Aside0 (Below w.heap.size w w58) := ⟨h11_⟩
        clear h0_ h1_ h2_ h3_ h4_ h5_ h6_ h7_ h8_ h9_ h10_ h11_
        have hHeld : w58.cell? ⟨gb751, 0, none⟩ = some (.int .i64 t756) ∧ w58.cell? ⟨gb751, 1, none⟩ = some (.int .i64 t757) ∧ w58.cell? ⟨gb751, 2, none⟩ = some (.int .i64 t758) ∧ w58.cell? ⟨gb751, 3, none⟩ = some (.int .i64 t759) ∧ w58.cell? ⟨gb751, 4, none⟩ = some (.int .i64 t760) ∧ w58.cell? ⟨gb751, 5, none⟩ = some (.int .u64 t761) ∧ w58.cell? (ad765.add (x13_2).toNat) = some (.int .i64 (rd l2 x13_2)) := hS_
        refine norm_ (a' := ?_) ?_ ?_
        rotate_left
        ·simp only [putAll, Act.put, List.setIfInBounds_toArray, List.set_cons_zero, List.set_cons_succ]
         rfl
        refine one_ (i := 10) (N := none) #[true, true, true, true, true, true, true, true, true, true, true, false] rfl rfl (one_of HT_.out (by kernel_rfl)) (by decide) (fun K hK => ?_)
        have hs59 : w58.cell? ⟨gb773, 0, none⟩ = some (.int .i64 0) := (blk_cell BK773.out 0).trans rfl
        have hfs59 := blk_frozen BK773.out 0
        have hns59_0 := NB751_773.out
        have hns59_1 := NB763_773.out
        have hms59_0 := NB773_751.out
        have hms59_1 := NB773_763.out
        have hs60 : w58.cell? ⟨gb773, 1, none⟩ = some (.int .i64 0) := (blk_cell BK773.out 1).trans rfl
        have hfs60 := blk_frozen BK773.out 1
        have hns60_0 := NB751_773.out
        have hns60_1 := NB763_773.out
        have hms60_0 := NB773_751.out
        have hms60_1 := NB773_763.out
        have hs61 : w58.cell? ⟨gb773, 2, none⟩ = some (.int .i64 0) := (blk_cell BK773.out 2).trans rfl
        have hfs61 := blk_frozen BK773.out 2
        have hns61_0 := NB751_773.out
        have hns61_1 := NB763_773.out
        have hms61_0 := NB773_751.out
        have hms61_1 := NB773_763.out
        have hs62 : w58.cell? ⟨gb773, 3, none⟩ = some (.int .i64 0) := (blk_cell BK773.out 3).trans rfl
        have hfs62 := blk_frozen BK773.out 3
        have hns62_0 := NB751_773.out
        have hns62_1 := NB763_773.out
        have hms62_0 := NB773_751.out
        have hms62_1 := NB773_763.out
        have hs63 : w58.cell? ⟨gb773, 4, none⟩ = some (.int .i64 0) := (blk_cell BK773.out 4).trans rfl
        have hfs63 := blk_frozen BK773.out 4
        have hns63_0 := NB751_773.out
        have hns63_1 := NB763_773.out
        have hms63_0 := NB773_751.out
        have hms63_1 := NB773_763.out
        have hs64 : w58.cell? ⟨gb773, 5, none⟩ = some (.int .u64 0) := (blk_cell BK773.out 5).trans rfl
        have hfs64 := blk_frozen BK773.out 5
        have hns64_0 := NB751_773.out
        have hns64_1 := NB763_773.out
        have hms64_0 := NB773_751.out
        have hms64_1 := NB773_763.out
        refine skip_ (w1 := ?_) (by rfl) rfl ?_ ?_
        rotate_left
        ·go_simp
         rfl
        refine hK.out _ _ ⟨((cell_far (p := ⟨gb773, _, none⟩) NB751_773.out _).trans (((cell_far (p := ⟨gb773, _, none⟩) NB751_773.out _).trans (((cell_far (p := ⟨gb773, _, none⟩) NB751_773.out _).trans (((cell_far (p := ⟨gb773, _, none⟩) NB751_773.out _).trans (((cell_far (p := ⟨gb773, _, none⟩) NB751_773.out _).trans (((cell_far (p := ⟨gb773, _, none⟩) NB751_773.out _).trans (hHeld.1)))))))))))), ((cell_far (p := ⟨gb773, _, none⟩) NB751_773.out _).trans (((cell_far (p := ⟨gb773, _, none⟩) NB751_773.out _).trans (((cell_far (p := ⟨gb773, _, none⟩) NB751_773.out _).trans (((cell_far (p := ⟨gb773, _, none⟩) NB751_773.out _).trans (((cell_far (p := ⟨gb773, _, none⟩) NB751_773.out _).trans (((cell_far (p := ⟨gb773, _, none⟩) NB751_773.out _).trans (hHeld.2.1)))))))))))), ((cell_far (p := ⟨gb773, _, none⟩) NB751_773.out _).trans (((cell_far (p := ⟨gb773, _, none⟩) NB751_773.out _).trans (((cell_far (p := ⟨gb773, _, none⟩) NB751_773.out _).trans (((cell_far (p := ⟨gb773, _, none⟩) NB751_773.out _).trans (((cell_far (p := ⟨gb773, _, none⟩) NB751_773.out _).trans (((cell_far (p := ⟨gb773, _, none⟩) NB751_773.out _).trans (hHeld.2.2.1)))))))))))), ((cell_far (p := ⟨gb773, _, none⟩) NB751_773.out _).trans (((cell_far (p := ⟨gb773, _, none⟩) NB751_773.out _).trans (((cell_far (p := ⟨gb773, _, none⟩) NB751_773.out _).trans (((cell_far (p := ⟨gb773, _, none⟩) NB751_773.out _).trans (((cell_far (p := ⟨gb773, _, none⟩) NB751_773.out _).trans (((cell_far (p := ⟨gb773, _, none⟩) NB751_773.out _).trans (hHeld.2.2.2.1)))))))))))), ((cell_far (p := ⟨gb773, _, none⟩) NB751_773.out _).trans (((cell_far (p := ⟨gb773, _, none⟩) NB751_773.out _).trans (((cell_far (p := ⟨gb773, _, none⟩) NB751_773.out _).trans (((cell_far (p := ⟨gb773, _, none⟩) NB751_773.out _).trans (((cell_far (p := ⟨gb773, _, none⟩) NB751_773.out _).trans (((cell_far (p := ⟨gb773, _, none⟩) NB751_773.out _).trans (hHeld.2.2.2.2.1)))))))))))), ((cell_far (p := ⟨gb773, _, none⟩) NB751_773.out _).trans (((cell_far (p := ⟨gb773, _, none⟩) NB751_773.out _).trans (((cell_far (p := ⟨gb773, _, none⟩) NB751_773.out _).trans (((cell_far (p := ⟨gb773, _, none⟩) NB751_773.out _).trans (((cell_far (p := ⟨gb773, _, none⟩) NB751_773.out _).trans (((cell_far (p := ⟨gb773, _, none⟩) NB751_773.out _).trans (hHeld.2.2.2.2.2.1)))))))))))), ((cell_far (p := ⟨gb773, _, none⟩) (by first | exact Nat.ne_of_lt (Nat.lt_of_lt_of_le (by have := World.block_lt_of_cell? _ _ hw765_0; first | rwa [add_block] at this | exact this) GW773.out) | (rw [add_block]; exact Nat.ne_of_lt (Nat.lt_of_lt_of_le (by have := World.block_lt_of_cell? _ _ hw765_0; first | rwa [add_block] at this | exact this) GW773.out)) | (show (Addr.add _ _).block ≠ _; rw [add_block]; exact Nat.ne_of_lt (Nat.lt_of_lt_of_le (by have := World.block_lt_of_cell? _ _ hw765_0; first | rwa [add_block] at this | exact this) GW773.out)) | (dsimp only; exact Nat.ne_of_lt (Nat.lt_of_lt_of_le (by have := World.block_lt_of_cell? _ _ hw765_0; first | rwa [add_block] at this | exact this) GW773.out))) _).trans (((cell_far (p := ⟨gb773, _, none⟩) (by first | exact Nat.ne_of_lt (Nat.lt_of_lt_of_le (by have := World.block_lt_of_cell? _ _ hw765_0; first | rwa [add_block] at this | exact this) GW773.out) | (rw [add_block]; exact Nat.ne_of_lt (Nat.lt_of_lt_of_le (by have := World.block_lt_of_cell? _ _ hw765_0; first | rwa [add_block] at this | exact this) GW773.out)) | (show (Addr.add _ _).block ≠ _; rw [add_block]; exact Nat.ne_of_lt (Nat.lt_of_lt_of_le (by have := World.block_lt_of_cell? _ _ hw765_0; first | rwa [add_block] at this | exact this) GW773.out)) | (dsimp only; exact Nat.ne_of_lt (Nat.lt_of_lt_of_le (by have := World.block_lt_of_cell? _ _ hw765_0; first | rwa [add_block] at this | exact this) GW773.out))) _).trans (((cell_far (p := ⟨gb773, _, none⟩) (by first | exact Nat.ne_of_lt (Nat.lt_of_lt_of_le (by have := World.block_lt_of_cell? _ _ hw765_0; first | rwa [add_block] at this | exact this) GW773.out) | (rw [add_block]; exact Nat.ne_of_lt (Nat.lt_of_lt_of_le (by have := World.block_lt_of_cell? _ _ hw765_0; first | rwa [add_block] at this | exact this) GW773.out)) | (show (Addr.add _ _).block ≠ _; rw [add_block]; exact Nat.ne_of_lt (Nat.lt_of_lt_of_le (by have := World.block_lt_of_cell? _ _ hw765_0; first | rwa [add_block] at this | exact this) GW773.out)) | (dsimp only; exact Nat.ne_of_lt (Nat.lt_of_lt_of_le (by have := World.block_lt_of_cell? _ _ hw765_0; first | rwa [add_block] at this | exact this) GW773.out))) _).trans (((cell_far (p := ⟨gb773, _, none⟩) (by first | exact Nat.ne_of_lt (Nat.lt_of_lt_of_le (by have := World.block_lt_of_cell? _ _ hw765_0; first | rwa [add_block] at this | exact this) GW773.out) | (rw [add_block]; exact Nat.ne_of_lt (Nat.lt_of_lt_of_le (by have := World.block_lt_of_cell? _ _ hw765_0; first | rwa [add_block] at this | exact this) GW773.out)) | (show (Addr.add _ _).block ≠ _; rw [add_block]; exact Nat.ne_of_lt (Nat.lt_of_lt_of_le (by have := World.block_lt_of_cell? _ _ hw765_0; first | rwa [add_block] at this | exact this) GW773.out)) | (dsimp only; exact Nat.ne_of_lt (Nat.lt_of_lt_of_le (by have := World.block_lt_of_cell? _ _ hw765_0; first | rwa [add_block] at this | exact this) GW773.out))) _).trans (((cell_far (p := ⟨gb773, _, none⟩) (by first | exact Nat.ne_of_lt (Nat.lt_of_lt_of_le (by have := World.block_lt_of_cell? _ _ hw765_0; first | rwa [add_block] at this | exact this) GW773.out) | (rw [add_block]; exact Nat.ne_of_lt (Nat.lt_of_lt_of_le (by have := World.block_lt_of_cell? _ _ hw765_0; first | rwa [add_block] at this | exact this) GW773.out)) | (show (Addr.add _ _).block ≠ _; rw [add_block]; exact Nat.ne_of_lt (Nat.lt_of_lt_of_le (by have := World.block_lt_of_cell? _ _ hw765_0; first | rwa [add_block] at this | exact this) GW773.out)) | (dsimp only; exact Nat.ne_of_lt (Nat.lt_of_lt_of_le (by have := World.block_lt_of_cell? _ _ hw765_0; first | rwa [add_block] at this | exact this) GW773.out))) _).trans (((cell_far (p := ⟨gb773, _, none⟩) (by first | exact Nat.ne_of_lt (Nat.lt_of_lt_of_le (by have := World.block_lt_of_cell? _ _ hw765_0; first | rwa [add_block] at this | exact this) GW773.out) | (rw [add_block]; exact Nat.ne_of_lt (Nat.lt_of_lt_of_le (by have := World.block_lt_of_cell? _ _ hw765_0; first | rwa [add_block] at this | exact this) GW773.out)) | (show (Addr.add _ _).block ≠ _; rw [add_block]; exact Nat.ne_of_lt (Nat.lt_of_lt_of_le (by have := World.block_lt_of_cell? _ _ hw765_0; first | rwa [add_block] at this | exact this) GW773.out)) | (dsimp only; exact Nat.ne_of_lt (Nat.lt_of_lt_of_le (by have := World.block_lt_of_cell? _ _ hw765_0; first | rwa [add_block] at this | exact this) GW773.out))) _).trans (hHeld.2.2.2.2.2.2))))))))))))⟩ (fun hHeld => ?_)
        clear hK K
        refine pure_ (i := 11) (N := some 17) (v := ?_) (a' := ?_) #[true, true, true, true, true, true, true, true, true, true, true, true] rfl rfl (any_of HT_.out (by kernel_rfl)) (fun _ _ _ h => h) (Or.inl ⟨by rfl, ?_⟩) ?_ ?_
        rotate_left
        ·intro w'
         go_simp
         with_reducible rfl
        rotate_left
        ·simp only [Act.put, List.setIfInBounds_toArray, List.set_cons_zero, List.set_cons_succ, i64_w, i32_w]
         rfl
        refine done_ (done_of HT_.out (by kernel_rfl)) ?_
        have hnb65 := NB773_751.out
        have hnc65 := NB751_773.out
        have hnb66 := NB773_763.out
        have hnc66 := NB763_773.out
        have hcz67_0 : w58.cell? ⟨gb773, 0, none⟩ = some (.int .i64 0) := (blk_cell BK773.out 0).trans rfl
        have hcz67_1 : w58.cell? ⟨gb773, 1, none⟩ = some (.int .i64 0) := (blk_cell BK773.out 1).trans rfl
        have hcz67_2 : w58.cell? ⟨gb773, 2, none⟩ = some (.int .i64 0) := (blk_cell BK773.out 2).trans rfl
        have hcz67_3 : w58.cell? ⟨gb773, 3, none⟩ = some (.int .i64 0) := (blk_cell BK773.out 3).trans rfl
        have hcz67_4 : w58.cell? ⟨gb773, 4, none⟩ = some (.int .i64 0) := (blk_cell BK773.out 4).trans rfl
        have hcz67_5 : w58.cell? ⟨gb773, 5, none⟩ = some (.int .u64 0) := (blk_cell BK773.out 5).trans rfl
        have hfz67_0 := blk_frozen BK773.out 0
        have hfz67_1 := blk_frozen BK773.out 1
        have hfz67_2 := blk_frozen BK773.out 2
        have hfz67_3 := blk_frozen BK773.out 3
        have hfz67_4 := blk_frozen BK773.out 4
        have hfz67_5 := blk_frozen BK773.out 5
        have hcz68_0 : w58.cell? ⟨gb751, 0, none⟩ = some (.int .i64 t756) := (blk_cell BK751.out 0).trans rfl
        have hcz68_1 : w58.cell? ⟨gb751, 1, none⟩ = some (.int .i64 t757) := (blk_cell BK751.out 1).trans rfl
        have hcz68_2 : w58.cell? ⟨gb751, 2, none⟩ = some (.int .i64 t758) := (blk_cell BK751.out 2).trans rfl
        have hcz68_3 : w58.cell? ⟨gb751, 3, none⟩ = some (.int .i64 t759) := (blk_cell BK751.out 3).trans rfl
        have hcz68_4 : w58.cell? ⟨gb751, 4, none⟩ = some (.int .i64 t760) := (blk_cell BK751.out 4).trans rfl
        have hcz68_5 : w58.cell? ⟨gb751, 5, none⟩ = some (.int .u64 t761) := (blk_cell BK751.out 5).trans rfl
        have hfz68_0 := blk_frozen BK751.out 0
        have hfz68_1 := blk_frozen BK751.out 1
        have hfz68_2 := blk_frozen BK751.out 2
        have hfz68_3 := blk_frozen BK751.out 3
        have hfz68_4 := blk_frozen BK751.out 4
        have hfz68_5 := blk_frozen BK751.out 5
        try go_wp2
        go_roundg k2
        case measure => have := HJ4.out; have := HK2.out; omega
        case rel => exact ⟨(wrap64 (x13_2 + 1)), (t766), (t767), (t768), (t769), (t770), (t771), (by first | rfl | (simp; done) | (simp [*]; done)), H', ⟨by have := HJ4.out; have := HK2.out; omega⟩, ⟨by (with_reducible repeat (first | apply Kd.R_alloc | apply Kd.R_drewN | apply Kd.R_drew)); exact Kd.R_mono (Kd.R_far (p := ⟨gb751, 5, none⟩) (Kd.R_far (p := ⟨gb751, 4, none⟩) (Kd.R_far (p := ⟨gb751, 3, none⟩) (Kd.R_far (p := ⟨gb751, 2, none⟩) (Kd.R_far (p := ⟨gb751, 1, none⟩) (Kd.R_far (p := ⟨gb751, 0, none⟩) (Kd.R_far (p := ⟨gb773, 5, none⟩) (Kd.R_far (p := ⟨gb773, 4, none⟩) (Kd.R_far (p := ⟨gb773, 3, none⟩) (Kd.R_far (p := ⟨gb773, 2, none⟩) (Kd.R_far (p := ⟨gb773, 1, none⟩) (Kd.R_far (p := ⟨gb773, 0, none⟩) (Kd.R_mono (Kd.R_mono HO_9.out (fun k_ hk => (⟨hk, hk.2.2⟩ : _ ∧ k_ ≠ gb773))) (fun k_ hk => (⟨hk, hk.1.1⟩ : _ ∧ k_ ≠ gb751))) (fun _ hk => hk.1.2) (.int .i64 t766)) (fun _ hk => hk.1.2) (.int .i64 t767)) (fun _ hk => hk.1.2) (.int .i64 t768)) (fun _ hk => hk.1.2) (.int .i64 t769)) (fun _ hk => hk.1.2) (.int .i64 t770)) (fun _ hk => hk.1.2) (.int .u64 t771)) (fun _ hk => hk.2) (.int .i64 t766)) (fun _ hk => hk.2) (.int .i64 t767)) (fun _ hk => hk.2) (.int .i64 t768)) (fun _ hk => hk.2) (.int .i64 t769)) (fun _ hk => hk.2) (.int .i64 t770)) (fun _ hk => hk.2) (.int .u64 t771)) (fun _ hk => hk.1.1.1)⟩, ⟨by (with_reducible repeat (first | apply Kd.R_alloc | apply Kd.R_drewN | apply Kd.R_drew)); exact Kd.R_mono (Kd.R_far (p := ⟨gb751, 5, none⟩) (Kd.R_far (p := ⟨gb751, 4, none⟩) (Kd.R_far (p := ⟨gb751, 3, none⟩) (Kd.R_far (p := ⟨gb751, 2, none⟩) (Kd.R_far (p := ⟨gb751, 1, none⟩) (Kd.R_far (p := ⟨gb751, 0, none⟩) (Kd.R_far (p := ⟨gb773, 5, none⟩) (Kd.R_far (p := ⟨gb773, 4, none⟩) (Kd.R_far (p := ⟨gb773, 3, none⟩) (Kd.R_far (p := ⟨gb773, 2, none⟩) (Kd.R_far (p := ⟨gb773, 1, none⟩) (Kd.R_far (p := ⟨gb773, 0, none⟩) (Kd.R_types (Kd.R_types HO_10.out BK773.out (by decide)) BK751.out (by decide)) (fun _ hk => hk.1.2) (.int .i64 t766)) (fun _ hk => hk.1.2) (.int .i64 t767)) (fun _ hk => hk.1.2) (.int .i64 t768)) (fun _ hk => hk.1.2) (.int .i64 t769)) (fun _ hk => hk.1.2) (.int .i64 t770)) (fun _ hk => hk.1.2) (.int .u64 t771)) (fun _ hk => hk.2) (.int .i64 t766)) (fun _ hk => hk.2) (.int .i64 t767)) (fun _ hk => hk.2) (.int .i64 t768)) (fun _ hk => hk.2) (.int .i64 t769)) (fun _ hk => hk.2) (.int .i64 t770)) (fun _ hk => hk.2) (.int .u64 t771)) (fun _ hk => trivial)⟩, ⟨(blk_put (cs := #[.int .i64 t766, .int .i64 t767, .int .i64 t768, .int .i64 t769, .int .i64 t770, .int .u64 t761]) (blk_put (cs := #[.int .i64 t766, .int .i64 t767, .int .i64 t768, .int .i64 t769, .int .i64 t760, .int .u64 t761]) (blk_put (cs := #[.int .i64 t766, .int .i64 t767, .int .i64 t768, .int .i64 t759, .int .i64 t760, .int .u64 t761]) (blk_put (cs := #[.int .i64 t766, .int .i64 t767, .int .i64 t758, .int .i64 t759, .int .i64 t760, .int .u64 t761]) (blk_put (cs := #[.int .i64 t766, .int .i64 t757, .int .i64 t758, .int .i64 t759, .int .i64 t760, .int .u64 t761]) (blk_put (cs := #[.int .i64 t756, .int .i64 t757, .int .i64 t758, .int .i64 t759, .int .i64 t760, .int .u64 t761]) (blk_far (blk_far (blk_far (blk_far (blk_far (blk_far (bq_ BK751) NB751_773.out _) NB751_773.out _) NB751_773.out _) NB751_773.out _) NB751_773.out _) NB751_773.out _) 0 _ rfl) 1 _ rfl) 2 _ rfl) 3 _ rfl) 4 _ rfl) 5 _ rfl)⟩, ⟨by repeat (first | (with_reducible first | exact HB.out | apply below_alloc | apply pw_below_drewN | apply below_drew1 | refine below_set ?_ GE751.out | refine below_set ?_ GE763.out | refine below_set ?_ GE773.out) | exact HB.out)⟩⟩
       ·replace c37 := Bool.eq_false_iff.mpr c37
        subst c37
        have H1 : (spigotlaw04_LevelsAlone.l0 k2 l1 l2 a3 t743 t744 (wrap64 (x13_2 + 1)) t756 t757 t758 t759 t760 t761) = some r := by rw [if_neg (show ¬ (false = true) by decide)] at H; exact H
        clear H
        have H := H1
        clear H1
        have H' := Aside0.mk H
        clear H
        try go_wp2
        replace HO_9 := Aside0.mk (Kd.R_drew HO_9.out)
        replace HO_10 := Aside0.mk (Kd.R_drew HO_10.out)
        replace BK751 := Aside0.mk (blk_drew BK751.out)
        replace HB := Aside0.mk (below_drew1 HB.out)
        have p755 : 0 ≤ (x13_2 : Int) := of_decide_eq_true (by first | (with_reducible assumption) | assumption)
        have q755 : x13_2 < (l1.length : Int) := of_decide_eq_true (by first | (with_reducible assumption) | assumption)
        obtain ⟨ad755, e755, hx755_0⟩ := Kd.at_int HR1.out x13_2 p755 q755
        have hw755_0 := hx755_0
        cases e755
        replace hx755_0 := (HB.out.cell (World.block_lt_of_cell? w _ hx755_0)).trans hx755_0
        replace p755 := eq_true p755
        replace q755 := eq_true q755
        refine start_ (n := 12) (S := fun w' => w'.cell? ⟨gb751, 0, none⟩ = some (.int .i64 x752000_2) ∧ w'.cell? ⟨gb751, 1, none⟩ = some (.int .i64 x752001_2) ∧ w'.cell? ⟨gb751, 2, none⟩ = some (.int .i64 x752002_2) ∧ w'.cell? ⟨gb751, 3, none⟩ = some (.int .i64 x752003_2) ∧ w'.cell? ⟨gb751, 4, none⟩ = some (.int .i64 x752004_2) ∧ w'.cell? ⟨gb751, 5, none⟩ = some (.int .u64 x752005_2) ∧ w'.cell? (ad755.add (x13_2).toNat) = some (.int .u64 (rd l1 x13_2))) (ds := []) #[false, false, false, false, false, false, false, false, false, false, false, false] (by kernel_rfl) rfl rfl ⟨(blk_cell BK751.out 0).trans rfl, (blk_cell BK751.out 1).trans rfl, (blk_cell BK751.out 2).trans rfl, (blk_cell BK751.out 3).trans rfl, (blk_cell BK751.out 4).trans rfl, (blk_cell BK751.out 5).trans rfl, ((HB.out.cell (World.block_lt_of_cell? w _ hw755_0)).trans hw755_0)⟩ (fun hHeld => ?_); refine with_tabW spigotlaw04_LevelsAlone.tab10 spigotlaw04_LevelsAlone.bits10 (fun HT_ HW_ => ?_)
        generalize wr.drew = w69 at HO_9 HO_10 BK751 HB hx755_0 hHeld ⊢
        refine pure_ (i := 1) (N := some 79) (v := ?_) (a' := ?_) #[false, true, false, false, false, false, false, false, false, false, false, false] rfl rfl (any_of HT_.out (by kernel_rfl)) (fun _ _ _ h => h) (Or.inl ⟨by rfl, ?_⟩) ?_ ?_
        rotate_left
        ·intro w'
         go_simp
         with_reducible rfl
        rotate_left
        ·simp only [Act.put, List.setIfInBounds_toArray, List.set_cons_zero, List.set_cons_succ, i64_w, i32_w]
         rfl
        refine pure_ (i := 2) (N := some 80) (v := ?_) (a' := ?_) #[false, true, true, false, false, false, false, false, false, false, false, false] rfl rfl (any_of HT_.out (by kernel_rfl)) (fun _ _ _ h => h) (Or.inl ⟨by rfl, ?_⟩) ?_ ?_
        rotate_left
        ·intro w'
         go_simp
         with_reducible rfl
        rotate_left
        ·simp only [Act.put, List.setIfInBounds_toArray, List.set_cons_zero, List.set_cons_succ, i64_w, i32_w]
         rfl
        refine pure_ (i := 3) (N := some 81) (v := ?_) (a' := ?_) #[false, true, true, true, false, false, false, false, false, false, false, false] rfl rfl (any_of HT_.out (by kernel_rfl)) (fun _ _ _ h => h) (Or.inl ⟨by rfl, ?_⟩) ?_ ?_
        rotate_left
        ·intro w'
         go_simp
         with_reducible rfl
        rotate_left
        ·simp only [Act.put, List.setIfInBounds_toArray, List.set_cons_zero, List.set_cons_succ, i64_w, i32_w]
         rfl
        refine take_ (i := 0) (N := some 78) (v := ?_) (a' := ?_) #[true, true, true, true, false, false, false, false, false, false, false, false] rfl rfl (take_ofW HT_.out HW_.out (by kernel_rfl)) (fun _ _ _ h => h) (Or.inl ⟨by rfl, ?_⟩) hHeld ?_ ?_
        rotate_left
        ·rintro w' ⟨s0, s1, s2, s3, s4, s5, s6⟩
         go_simp
         with_reducible rfl
        rotate_left
        ·simp only [Act.put, List.setIfInBounds_toArray, List.set_cons_zero, List.set_cons_succ, i64_w, i32_w]
         rfl
        refine take_ (i := 4) (N := some 82) (v := ?_) (a' := ?_) #[true, true, true, true, true, false, false, false, false, false, false, false] rfl rfl (take_ofW HT_.out HW_.out (by kernel_rfl)) (fun _ _ _ h => h) (Or.inl ⟨by rfl, ?_⟩) hHeld ?_ ?_
        rotate_left
        ·rintro w' ⟨s0, s1, s2, s3, s4, s5, s6⟩
         go_simp
         with_reducible rfl
        rotate_left
        ·simp only [Act.put, List.setIfInBounds_toArray, List.set_cons_zero, List.set_cons_succ, i64_w, i32_w]
         rfl
        refine join_ (σ := Nat) 2 #[true, true, true, true, true, true, true, true, true, true, false, false] (fun s_ => [(83, .tuple #[.agg #[.int .i64 t756, .int .i64 t757, .int .i64 t758, .int .i64 t759, .int .i64 t760, .int .u64 t761], .int .i64 t762]), (14, .pointer (some ⟨s_, 0, none⟩)), (77, .tuple #[.agg #[.int .i64 t756, .int .i64 t757, .int .i64 t758, .int .i64 t759, .int .i64 t760, .int .u64 t761], .int .i64 t762]), (84, .agg #[.int .i64 t756, .int .i64 t757, .int .i64 t758, .int .i64 t759, .int .i64 t760, .int .u64 t761]), (85, .int .i64 t762)]) (fun s_ w' => (w'.cell? ⟨gb751, 0, none⟩ = some (.int .i64 x752000_2) ∧ w'.cell? ⟨gb751, 1, none⟩ = some (.int .i64 x752001_2) ∧ w'.cell? ⟨gb751, 2, none⟩ = some (.int .i64 x752002_2) ∧ w'.cell? ⟨gb751, 3, none⟩ = some (.int .i64 x752003_2) ∧ w'.cell? ⟨gb751, 4, none⟩ = some (.int .i64 x752004_2) ∧ w'.cell? ⟨gb751, 5, none⟩ = some (.int .u64 x752005_2) ∧ w'.cell? (ad755.add (x13_2).toNat) = some (.int .u64 (rd l1 x13_2))) ∧ (Kd.R Kd.bool 4 w' w.heap.size (fun _ => True) (.slice Ao28 t744.length co28) t744) ∧ (Kd.R k37 37 w' w.heap.size (fun k_ => k_ ≠ gb751 ∧ k_ ≠ s_) (.slice Ao27 t743.length co27) t743) ∧ (w'.heap[gb751]? = some (.cells #[.int .i64 x752000_2, .int .i64 x752001_2, .int .i64 x752002_2, .int .i64 x752003_2, .int .i64 x752004_2, .int .u64 x752005_2] 37 (0, 0))) ∧ (w'.heap[s_]? = some (.cells #[.int .i64 0, .int .i64 0, .int .i64 0, .int .i64 0, .int .i64 0, .int .u64 0] 37 (0, 0))) ∧ (w.heap.size ≤ s_) ∧ (w.heap.size ≤ s_) ∧ (gb751 ≠ s_) ∧ (s_ ≠ gb751) ∧ (Below w.heap.size w w')) ?_ ?_
        rotate_left
        ·intro hCont
         refine two_ (i := 5) (j := 9) (Ni := some 83) (Nj := some 14) #[true, true, true, true, true, true, false, false, false, false, false, false] #[true, true, true, true, true, false, false, false, false, true, false, false] rfl rfl rfl rfl (two_of HT_.out (by kernel_rfl)) (by decide) (by decide) (fun K hK => ?_) (fun K hK => ?_)
         ·skip
          refine goes_ Try.func29 (by kernel_rfl) rfl #[.agg #[.int .i64 x752000_2, .int .i64 x752001_2, .int .i64 x752002_2, .int .i64 x752003_2, .int .i64 x752004_2, .int .u64 x752005_2], .int .u64 (rd l1 x13_2)] (by rfl) rfl rfl (by (try simp only [List.map_toArray, List.map_cons, List.map_nil]); first | done | rfl | (simp only [List.length_drop, List.length_take]; rfl)) ?_
          with_reducible refine (bucket_Refill.calls k2 x752000_2 x752001_2 x752002_2 x752003_2 x752004_2 x752005_2 (rd l1 x13_2) t756 t757 t758 t759 t760 t761 t762 _ A33.out).mono ?_
          rintro e w70 ⟨rfl, hb⟩
          refine ⟨_, rfl, ?_⟩
          replace HO_9 := Aside0.mk (Kd.R_below (by (with_reducible repeat (first | apply Kd.R_alloc | apply Kd.R_drewN | apply Kd.R_drew)); exact HO_9.out) hb)
          replace HO_10 := Aside0.mk (Kd.R_below (by (with_reducible repeat (first | apply Kd.R_alloc | apply Kd.R_drewN | apply Kd.R_drew)); exact HO_10.out) hb)
          replace BK751 := bb_ BK751 hb
          replace HB := bs_ w hb
          (try clear hb)
          (try clear hb2)
          (try clear hk)
          (try clear hi)
          refine hK.out _ _ ⟨(blk_cell BK751.out 0).trans rfl, (blk_cell BK751.out 1).trans rfl, (blk_cell BK751.out 2).trans rfl, (blk_cell BK751.out 3).trans rfl, (blk_cell BK751.out 4).trans rfl, (blk_cell BK751.out 5).trans rfl, ((HB.out.cell (World.block_lt_of_cell? w _ hw755_0)).trans hw755_0)⟩ (fun hHeld => ?_)
          clear hK K
          refine norm_ (a' := ?_) ?_ ?_
          rotate_left
          ·show Act.put _ (some 83) _ = _
           simp only [Act.put, List.setIfInBounds_toArray, List.set_cons_zero, List.set_cons_succ, i64_w, i32_w]
           rfl
          refine pure_ (i := 6) (N := some 77) (v := ?_) (a' := ?_) #[true, true, true, true, true, true, true, false, false, false, false, false] rfl rfl (any_of HT_.out (by kernel_rfl)) (fun _ _ _ h => h) (Or.inl ⟨by rfl, ?_⟩) ?_ ?_
          rotate_left
          ·intro w'
           go_simp
           with_reducible rfl
          rotate_left
          ·simp only [Act.put, List.setIfInBounds_toArray, List.set_cons_zero, List.set_cons_succ, i64_w, i32_w]
           rfl
          refine pure_ (i := 7) (N := some 84) (v := ?_) (a' := ?_) #[true, true, true, true, true, true, true, true, false, false, false, false] rfl rfl (any_of HT_.out (by kernel_rfl)) (fun _ _ _ h => h) (Or.inl ⟨by rfl, ?_⟩) ?_ ?_
          rotate_left
          ·intro w'
           go_simp
           with_reducible rfl
          rotate_left
          ·simp only [Act.put, List.setIfInBounds_toArray, List.set_cons_zero, List.set_cons_succ, i64_w, i32_w]
           rfl
          refine pure_ (i := 8) (N := some 85) (v := ?_) (a' := ?_) #[true, true, true, true, true, true, true, true, true, false, false, false] rfl rfl (any_of HT_.out (by kernel_rfl)) (fun _ _ _ h => h) (Or.inl ⟨by rfl, ?_⟩) ?_ ?_
          rotate_left
          ·intro w'
           go_simp
           with_reducible rfl
          rotate_left
          ·simp only [Act.put, List.setIfInBounds_toArray, List.set_cons_zero, List.set_cons_succ, i64_w, i32_w]
           rfl
          refine one_ (i := 9) (N := some 14) #[true, true, true, true, true, true, true, true, true, true, false, false] rfl rfl (one_of HT_.out (by kernel_rfl)) (by decide) (fun K hK => ?_)
          refine box_step ?hg (N := 14) ?hd (cs := #[.int .i64 0, .int .i64 0, .int .i64 0, .int .i64 0, .int .i64 0, .int .u64 0]) (t := 37) ?hr ?_; (case hd => rfl); (case hg => rfl); (case hr => first | (go_simp; done) | (go_simp; rfl))
          intro gb763 hg w71 hbox hb
          have BK763 := Aside0.mk (hbox)
          have GW763 := bz_ w hg
          have GE763 := GW763
          have NB751_763 := bn_ BK751 hg
          have NB763_751 := bm_ BK751 hg
          replace HO_9 := Aside0.mk (Kd.R_below (Kd.R_elderB (by (with_reducible repeat (first | apply Kd.R_alloc | apply Kd.R_drewN | apply Kd.R_drew)); exact HO_9.out) gb763 (Nat.le_of_eq hg.symm)) hb)
          replace HO_10 := Aside0.mk (Kd.R_below (by (with_reducible repeat (first | apply Kd.R_alloc | apply Kd.R_drewN | apply Kd.R_drew)); exact HO_10.out) hb)
          replace BK751 := bb_ BK751 hb
          replace HB := bs_ w hb
          clear hb hbox hg
          refine hK.out _ _ ⟨(blk_cell BK751.out 0).trans rfl, (blk_cell BK751.out 1).trans rfl, (blk_cell BK751.out 2).trans rfl, (blk_cell BK751.out 3).trans rfl, (blk_cell BK751.out 4).trans rfl, (blk_cell BK751.out 5).trans rfl, ((HB.out.cell (World.block_lt_of_cell? w _ hw755_0)).trans hw755_0)⟩ (fun hHeld => ?_)
          clear hK K
          refine norm_ (a' := ?_) ?_ ?_
          rotate_left
          ·show Act.put _ (some 14) _ = _
           simp only [Act.put, List.setIfInBounds_toArray, List.set_cons_zero, List.set_cons_succ, i64_w, i32_w]
           rfl
          exact norm_ (by simp only [putAll, Act.put, List.setIfInBounds_toArray, List.set_cons_zero, List.set_cons_succ]) (hCont (gb763) _ ⟨hHeld, (by (with_reducible repeat (first | apply Kd.R_alloc | apply Kd.R_drewN | apply Kd.R_drew)); exact HO_10.out), (by (with_reducible repeat (first | apply Kd.R_alloc | apply Kd.R_drewN | apply Kd.R_drew)); exact HO_9.out), (bq_ BK751), (bq_ BK763), GW763.out, GE763.out, NB751_763.out, NB763_751.out, (by repeat (first | (with_reducible first | exact HB.out | apply below_alloc | apply pw_below_drewN | apply below_drew1 | refine below_set ?_ (Aside0.out (by assumption))) | exact HB.out))⟩)
         ·skip
          refine box_step ?hg (N := 14) ?hd (cs := #[.int .i64 0, .int .i64 0, .int .i64 0, .int .i64 0, .int .i64 0, .int .u64 0]) (t := 37) ?hr ?_; (case hd => rfl); (case hg => rfl); (case hr => first | (go_simp; done) | (go_simp; rfl))
          intro gb763 hg w70 hbox hb
          have BK763 := Aside0.mk (hbox)
          have GW763 := bz_ w hg
          have GE763 := GW763
          have NB751_763 := bn_ BK751 hg
          have NB763_751 := bm_ BK751 hg
          replace HO_9 := Aside0.mk (Kd.R_below (Kd.R_elderB (by (with_reducible repeat (first | apply Kd.R_alloc | apply Kd.R_drewN | apply Kd.R_drew)); exact HO_9.out) gb763 (Nat.le_of_eq hg.symm)) hb)
          replace HO_10 := Aside0.mk (Kd.R_below (by (with_reducible repeat (first | apply Kd.R_alloc | apply Kd.R_drewN | apply Kd.R_drew)); exact HO_10.out) hb)
          replace BK751 := bb_ BK751 hb
          replace HB := bs_ w hb
          clear hb hbox hg
          refine hK.out _ _ ⟨(blk_cell BK751.out 0).trans rfl, (blk_cell BK751.out 1).trans rfl, (blk_cell BK751.out 2).trans rfl, (blk_cell BK751.out 3).trans rfl, (blk_cell BK751.out 4).trans rfl, (blk_cell BK751.out 5).trans rfl, ((HB.out.cell (World.block_lt_of_cell? w _ hw755_0)).trans hw755_0)⟩ (fun hHeld => ?_)
          clear hK K
          refine norm_ (a' := ?_) ?_ ?_
          rotate_left
          ·show Act.put _ (some 14) _ = _
           simp only [Act.put, List.setIfInBounds_toArray, List.set_cons_zero, List.set_cons_succ, i64_w, i32_w]
           rfl
          refine one_ (i := 5) (N := some 83) #[true, true, true, true, true, true, false, false, false, true, false, false] rfl rfl (one_of HT_.out (by kernel_rfl)) (by decide) (fun K hK => ?_)
          refine goes_ Try.func29 (by kernel_rfl) rfl #[.agg #[.int .i64 x752000_2, .int .i64 x752001_2, .int .i64 x752002_2, .int .i64 x752003_2, .int .i64 x752004_2, .int .u64 x752005_2], .int .u64 (rd l1 x13_2)] (by rfl) rfl rfl (by (try simp only [List.map_toArray, List.map_cons, List.map_nil]); first | done | rfl | (simp only [List.length_drop, List.length_take]; rfl)) ?_
          with_reducible refine (bucket_Refill.calls k2 x752000_2 x752001_2 x752002_2 x752003_2 x752004_2 x752005_2 (rd l1 x13_2) t756 t757 t758 t759 t760 t761 t762 _ A33.out).mono ?_
          rintro e w71 ⟨rfl, hb⟩
          refine ⟨_, rfl, ?_⟩
          replace HO_9 := Aside0.mk (Kd.R_below (by (with_reducible repeat (first | apply Kd.R_alloc | apply Kd.R_drewN | apply Kd.R_drew)); exact HO_9.out) hb)
          replace HO_10 := Aside0.mk (Kd.R_below (by (with_reducible repeat (first | apply Kd.R_alloc | apply Kd.R_drewN | apply Kd.R_drew)); exact HO_10.out) hb)
          replace BK751 := bb_ BK751 hb
          replace BK763 := bb_ BK763 hb
          replace HB := bs_ w hb
          (try clear hb)
          (try clear hb2)
          (try clear hk)
          (try clear hi)
          refine hK.out _ _ ⟨(blk_cell BK751.out 0).trans rfl, (blk_cell BK751.out 1).trans rfl, (blk_cell BK751.out 2).trans rfl, (blk_cell BK751.out 3).trans rfl, (blk_cell BK751.out 4).trans rfl, (blk_cell BK751.out 5).trans rfl, ((HB.out.cell (World.block_lt_of_cell? w _ hw755_0)).trans hw755_0)⟩ (fun hHeld => ?_)
          clear hK K
          refine norm_ (a' := ?_) ?_ ?_
          rotate_left
          ·show Act.put _ (some 83) _ = _
           simp only [Act.put, List.setIfInBounds_toArray, List.set_cons_zero, List.set_cons_succ, i64_w, i32_w]
           rfl
          refine pure_ (i := 6) (N := some 77) (v := ?_) (a' := ?_) #[true, true, true, true, true, true, true, false, false, true, false, false] rfl rfl (any_of HT_.out (by kernel_rfl)) (fun _ _ _ h => h) (Or.inl ⟨by rfl, ?_⟩) ?_ ?_
          rotate_left
          ·intro w'
           go_simp
           with_reducible rfl
          rotate_left
          ·simp only [Act.put, List.setIfInBounds_toArray, List.set_cons_zero, List.set_cons_succ, i64_w, i32_w]
           rfl
          refine pure_ (i := 7) (N := some 84) (v := ?_) (a' := ?_) #[true, true, true, true, true, true, true, true, false, true, false, false] rfl rfl (any_of HT_.out (by kernel_rfl)) (fun _ _ _ h => h) (Or.inl ⟨by rfl, ?_⟩) ?_ ?_
          rotate_left
          ·intro w'
           go_simp
           with_reducible rfl
          rotate_left
          ·simp only [Act.put, List.setIfInBounds_toArray, List.set_cons_zero, List.set_cons_succ, i64_w, i32_w]
           rfl
          refine pure_ (i := 8) (N := some 85) (v := ?_) (a' := ?_) #[true, true, true, true, true, true, true, true, true, true, false, false] rfl rfl (any_of HT_.out (by kernel_rfl)) (fun _ _ _ h => h) (Or.inl ⟨by rfl, ?_⟩) ?_ ?_
          rotate_left
          ·intro w'
           go_simp
           with_reducible rfl
          rotate_left
          ·simp only [Act.put, List.setIfInBounds_toArray, List.set_cons_zero, List.set_cons_succ, i64_w, i32_w]
           rfl
          exact norm_ (by simp only [putAll, Act.put, List.setIfInBounds_toArray, List.set_cons_zero, List.set_cons_succ]) (hCont (gb763) _ ⟨hHeld, (by (with_reducible repeat (first | apply Kd.R_alloc | apply Kd.R_drewN | apply Kd.R_drew)); exact HO_10.out), (by (with_reducible repeat (first | apply Kd.R_alloc | apply Kd.R_drewN | apply Kd.R_drew)); exact HO_9.out), (bq_ BK751), (bq_ BK763), GW763.out, GE763.out, NB751_763.out, NB763_751.out, (by repeat (first | (with_reducible first | exact HB.out | apply below_alloc | apply pw_below_drewN | apply below_drew1 | refine below_set ?_ (Aside0.out (by assumption))) | exact HB.out))⟩)
        rintro gb763 w72 ⟨hS_, h0_, h1_, h2_, h3_, h4_, h5_, h6_, h7_, h8_⟩
        have BK763 : Aside0 (w72.heap[gb763]? = some (.cells #[.int .i64 0, .int .i64 0, .int .i64 0, .int .i64 0, .int .i64 0, .int .u64 0] 37 (0, 0))) := ⟨h3_⟩
        have GW763 : Aside0 (w.heap.size ≤ gb763) := ⟨h4_⟩
        have GE763 : Aside0 (w.heap.size ≤ gb763) := ⟨h5_⟩
        have NB751_763 : Aside0 (gb751 ≠ gb763) := ⟨h6_⟩
        have NB763_751 : Aside0 (gb763 ≠ gb751) := ⟨h7_⟩
        replace HO_10 : Aside0 (Kd.R Kd.bool 4 w72 w.heap.size (fun _ => True) (.slice Ao28 t744.length co28) t744) := ⟨h0_⟩
        replace HO_9 : Aside0 (Kd.R k37 37 w72 w.heap.size (fun k_ => k_ ≠ gb751 ∧ k_ ≠ gb763) (.slice Ao27 t743.length co27) t743) := ⟨h1_⟩
        replace BK751 : Aside0 (w72.heap[gb751]? = some (.cells #[.int .i64 x752000_2, .int .i64 x752001_2, .int .i64 x752002_2, .int .i64 x752003_2, .int .i64 x752004_2, .int .u64 x752005_2] 37 (0, 0))) := ⟨h2_⟩
        replace HB : Aside0 (Below w.heap.size w w72) := ⟨h8_⟩
        clear h0_ h1_ h2_ h3_ h4_ h5_ h6_ h7_ h8_
        have hHeld : w72.cell? ⟨gb751, 0, none⟩ = some (.int .i64 x752000_2) ∧ w72.cell? ⟨gb751, 1, none⟩ = some (.int .i64 x752001_2) ∧ w72.cell? ⟨gb751, 2, none⟩ = some (.int .i64 x752002_2) ∧ w72.cell? ⟨gb751, 3, none⟩ = some (.int .i64 x752003_2) ∧ w72.cell? ⟨gb751, 4, none⟩ = some (.int .i64 x752004_2) ∧ w72.cell? ⟨gb751, 5, none⟩ = some (.int .u64 x752005_2) ∧ w72.cell? (ad755.add (x13_2).toNat) = some (.int .u64 (rd l1 x13_2)) := hS_
        refine norm_ (a' := ?_) ?_ ?_
        rotate_left
        ·simp only [putAll, Act.put, List.setIfInBounds_toArray, List.set_cons_zero, List.set_cons_succ]
         rfl
        refine one_ (i := 10) (N := none) #[true, true, true, true, true, true, true, true, true, true, true, false] rfl rfl (one_of HT_.out (by kernel_rfl)) (by decide) (fun K hK => ?_)
        have hs73 : w72.cell? ⟨gb763, 0, none⟩ = some (.int .i64 0) := (blk_cell BK763.out 0).trans rfl
        have hfs73 := blk_frozen BK763.out 0
        have hns73_0 := NB751_763.out
        have hms73_0 := NB763_751.out
        have hs74 : w72.cell? ⟨gb763, 1, none⟩ = some (.int .i64 0) := (blk_cell BK763.out 1).trans rfl
        have hfs74 := blk_frozen BK763.out 1
        have hns74_0 := NB751_763.out
        have hms74_0 := NB763_751.out
        have hs75 : w72.cell? ⟨gb763, 2, none⟩ = some (.int .i64 0) := (blk_cell BK763.out 2).trans rfl
        have hfs75 := blk_frozen BK763.out 2
        have hns75_0 := NB751_763.out
        have hms75_0 := NB763_751.out
        have hs76 : w72.cell? ⟨gb763, 3, none⟩ = some (.int .i64 0) := (blk_cell BK763.out 3).trans rfl
        have hfs76 := blk_frozen BK763.out 3
        have hns76_0 := NB751_763.out
        have hms76_0 := NB763_751.out
        have hs77 : w72.cell? ⟨gb763, 4, none⟩ = some (.int .i64 0) := (blk_cell BK763.out 4).trans rfl
        have hfs77 := blk_frozen BK763.out 4
        have hns77_0 := NB751_763.out
        have hms77_0 := NB763_751.out
        have hs78 : w72.cell? ⟨gb763, 5, none⟩ = some (.int .u64 0) := (blk_cell BK763.out 5).trans rfl
        have hfs78 := blk_frozen BK763.out 5
        have hns78_0 := NB751_763.out
        have hms78_0 := NB763_751.out
        refine skip_ (w1 := ?_) (by rfl) rfl ?_ ?_
        rotate_left
        ·go_simp
         rfl
        refine hK.out _ _ ⟨((cell_far (p := ⟨gb763, _, none⟩) NB751_763.out _).trans (((cell_far (p := ⟨gb763, _, none⟩) NB751_763.out _).trans (((cell_far (p := ⟨gb763, _, none⟩) NB751_763.out _).trans (((cell_far (p := ⟨gb763, _, none⟩) NB751_763.out _).trans (((cell_far (p := ⟨gb763, _, none⟩) NB751_763.out _).trans (((cell_far (p := ⟨gb763, _, none⟩) NB751_763.out _).trans (hHeld.1)))))))))))), ((cell_far (p := ⟨gb763, _, none⟩) NB751_763.out _).trans (((cell_far (p := ⟨gb763, _, none⟩) NB751_763.out _).trans (((cell_far (p := ⟨gb763, _, none⟩) NB751_763.out _).trans (((cell_far (p := ⟨gb763, _, none⟩) NB751_763.out _).trans (((cell_far (p := ⟨gb763, _, none⟩) NB751_763.out _).trans (((cell_far (p := ⟨gb763, _, none⟩) NB751_763.out _).trans (hHeld.2.1)))))))))))), ((cell_far (p := ⟨gb763, _, none⟩) NB751_763.out _).trans (((cell_far (p := ⟨gb763, _, none⟩) NB751_763.out _).trans (((cell_far (p := ⟨gb763, _, none⟩) NB751_763.out _).trans (((cell_far (p := ⟨gb763, _, none⟩) NB751_763.out _).trans (((cell_far (p := ⟨gb763, _, none⟩) NB751_763.out _).trans (((cell_far (p := ⟨gb763, _, none⟩) NB751_763.out _).trans (hHeld.2.2.1)))))))))))), ((cell_far (p := ⟨gb763, _, none⟩) NB751_763.out _).trans (((cell_far (p := ⟨gb763, _, none⟩) NB751_763.out _).trans (((cell_far (p := ⟨gb763, _, none⟩) NB751_763.out _).trans (((cell_far (p := ⟨gb763, _, none⟩) NB751_763.out _).trans (((cell_far (p := ⟨gb763, _, none⟩) NB751_763.out _).trans (((cell_far (p := ⟨gb763, _, none⟩) NB751_763.out _).trans (hHeld.2.2.2.1)))))))))))), ((cell_far (p := ⟨gb763, _, none⟩) NB751_763.out _).trans (((cell_far (p := ⟨gb763, _, none⟩) NB751_763.out _).trans (((cell_far (p := ⟨gb763, _, none⟩) NB751_763.out _).trans (((cell_far (p := ⟨gb763, _, none⟩) NB751_763.out _).trans (((cell_far (p := ⟨gb763, _, none⟩) NB751_763.out _).trans (((cell_far (p := ⟨gb763, _, none⟩) NB751_763.out _).trans (hHeld.2.2.2.2.1)))))))))))), ((cell_far (p := ⟨gb763, _, none⟩) NB751_763.out _).trans (((cell_far (p := ⟨gb763, _, none⟩) NB751_763.out _).trans (((cell_far (p := ⟨gb763, _, none⟩) NB751_763.out _).trans (((cell_far (p := ⟨gb763, _, none⟩) NB751_763.out _).trans (((cell_far (p := ⟨gb763, _, none⟩) NB751_763.out _).trans (((cell_far (p := ⟨gb763, _, none⟩) NB751_763.out _).trans (hHeld.2.2.2.2.2.1)))))))))))), ((cell_far (p := ⟨gb763, _, none⟩) (by first | exact Nat.ne_of_lt (Nat.lt_of_lt_of_le (by have := World.block_lt_of_cell? _ _ hw755_0; first | rwa [add_block] at this | exact this) GW763.out) | (rw [add_block]; exact Nat.ne_of_lt (Nat.lt_of_lt_of_le (by have := World.block_lt_of_cell? _ _ hw755_0; first | rwa [add_block] at this | exact this) GW763.out)) | (show (Addr.add _ _).block ≠ _; rw [add_block]; exact Nat.ne_of_lt (Nat.lt_of_lt_of_le (by have := World.block_lt_of_cell? _ _ hw755_0; first | rwa [add_block] at this | exact this) GW763.out)) | (dsimp only; exact Nat.ne_of_lt (Nat.lt_of_lt_of_le (by have := World.block_lt_of_cell? _ _ hw755_0; first | rwa [add_block] at this | exact this) GW763.out))) _).trans (((cell_far (p := ⟨gb763, _, none⟩) (by first | exact Nat.ne_of_lt (Nat.lt_of_lt_of_le (by have := World.block_lt_of_cell? _ _ hw755_0; first | rwa [add_block] at this | exact this) GW763.out) | (rw [add_block]; exact Nat.ne_of_lt (Nat.lt_of_lt_of_le (by have := World.block_lt_of_cell? _ _ hw755_0; first | rwa [add_block] at this | exact this) GW763.out)) | (show (Addr.add _ _).block ≠ _; rw [add_block]; exact Nat.ne_of_lt (Nat.lt_of_lt_of_le (by have := World.block_lt_of_cell? _ _ hw755_0; first | rwa [add_block] at this | exact this) GW763.out)) | (dsimp only; exact Nat.ne_of_lt (Nat.lt_of_lt_of_le (by have := World.block_lt_of_cell? _ _ hw755_0; first | rwa [add_block] at this | exact this) GW763.out))) _).trans (((cell_far (p := ⟨gb763, _, none⟩) (by first | exact Nat.ne_of_lt (Nat.lt_of_lt_of_le (by have := World.block_lt_of_cell? _ _ hw755_0; first | rwa [add_block] at this | exact this) GW763.out) | (rw [add_block]; exact Nat.ne_of_lt (Nat.lt_of_lt_of_le (by have := World.block_lt_of_cell? _ _ hw755_0; first | rwa [add_block] at this | exact this) GW763.out)) | (show (Addr.add _ _).block ≠ _; rw [add_block]; exact Nat.ne_of_lt (Nat.lt_of_lt_of_le (by have := World.block_lt_of_cell? _ _ hw755_0; first | rwa [add_block] at this | exact this) GW763.out)) | (dsimp only; exact Nat.ne_of_lt (Nat.lt_of_lt_of_le (by have := World.block_lt_of_cell? _ _ hw755_0; first | rwa [add_block] at this | exact this) GW763.out))) _).trans (((cell_far (p := ⟨gb763, _, none⟩) (by first | exact Nat.ne_of_lt (Nat.lt_of_lt_of_le (by have := World.block_lt_of_cell? _ _ hw755_0; first | rwa [add_block] at this | exact this) GW763.out) | (rw [add_block]; exact Nat.ne_of_lt (Nat.lt_of_lt_of_le (by have := World.block_lt_of_cell? _ _ hw755_0; first | rwa [add_block] at this | exact this) GW763.out)) | (show (Addr.add _ _).block ≠ _; rw [add_block]; exact Nat.ne_of_lt (Nat.lt_of_lt_of_le (by have := World.block_lt_of_cell? _ _ hw755_0; first | rwa [add_block] at this | exact this) GW763.out)) | (dsimp only; exact Nat.ne_of_lt (Nat.lt_of_lt_of_le (by have := World.block_lt_of_cell? _ _ hw755_0; first | rwa [add_block] at this | exact this) GW763.out))) _).trans (((cell_far (p := ⟨gb763, _, none⟩) (by first | exact Nat.ne_of_lt (Nat.lt_of_lt_of_le (by have := World.block_lt_of_cell? _ _ hw755_0; first | rwa [add_block] at this | exact this) GW763.out) | (rw [add_block]; exact Nat.ne_of_lt (Nat.lt_of_lt_of_le (by have := World.block_lt_of_cell? _ _ hw755_0; first | rwa [add_block] at this | exact this) GW763.out)) | (show (Addr.add _ _).block ≠ _; rw [add_block]; exact Nat.ne_of_lt (Nat.lt_of_lt_of_le (by have := World.block_lt_of_cell? _ _ hw755_0; first | rwa [add_block] at this | exact this) GW763.out)) | (dsimp only; exact Nat.ne_of_lt (Nat.lt_of_lt_of_le (by have := World.block_lt_of_cell? _ _ hw755_0; first | rwa [add_block] at this | exact this) GW763.out))) _).trans (((cell_far (p := ⟨gb763, _, none⟩) (by first | exact Nat.ne_of_lt (Nat.lt_of_lt_of_le (by have := World.block_lt_of_cell? _ _ hw755_0; first | rwa [add_block] at this | exact this) GW763.out) | (rw [add_block]; exact Nat.ne_of_lt (Nat.lt_of_lt_of_le (by have := World.block_lt_of_cell? _ _ hw755_0; first | rwa [add_block] at this | exact this) GW763.out)) | (show (Addr.add _ _).block ≠ _; rw [add_block]; exact Nat.ne_of_lt (Nat.lt_of_lt_of_le (by have := World.block_lt_of_cell? _ _ hw755_0; first | rwa [add_block] at this | exact this) GW763.out)) | (dsimp only; exact Nat.ne_of_lt (Nat.lt_of_lt_of_le (by have := World.block_lt_of_cell? _ _ hw755_0; first | rwa [add_block] at this | exact this) GW763.out))) _).trans (hHeld.2.2.2.2.2.2))))))))))))⟩ (fun hHeld => ?_)
        clear hK K
        refine pure_ (i := 11) (N := some 15) (v := ?_) (a' := ?_) #[true, true, true, true, true, true, true, true, true, true, true, true] rfl rfl (any_of HT_.out (by kernel_rfl)) (fun _ _ _ h => h) (Or.inl ⟨by rfl, ?_⟩) ?_ ?_
        rotate_left
        ·intro w'
         go_simp
         with_reducible rfl
        rotate_left
        ·simp only [Act.put, List.setIfInBounds_toArray, List.set_cons_zero, List.set_cons_succ, i64_w, i32_w]
         rfl
        refine done_ (done_of HT_.out (by kernel_rfl)) ?_
        have hnb79 := NB763_751.out
        have hnc79 := NB751_763.out
        have hcz80_0 : w72.cell? ⟨gb763, 0, none⟩ = some (.int .i64 0) := (blk_cell BK763.out 0).trans rfl
        have hcz80_1 : w72.cell? ⟨gb763, 1, none⟩ = some (.int .i64 0) := (blk_cell BK763.out 1).trans rfl
        have hcz80_2 : w72.cell? ⟨gb763, 2, none⟩ = some (.int .i64 0) := (blk_cell BK763.out 2).trans rfl
        have hcz80_3 : w72.cell? ⟨gb763, 3, none⟩ = some (.int .i64 0) := (blk_cell BK763.out 3).trans rfl
        have hcz80_4 : w72.cell? ⟨gb763, 4, none⟩ = some (.int .i64 0) := (blk_cell BK763.out 4).trans rfl
        have hcz80_5 : w72.cell? ⟨gb763, 5, none⟩ = some (.int .u64 0) := (blk_cell BK763.out 5).trans rfl
        have hfz80_0 := blk_frozen BK763.out 0
        have hfz80_1 := blk_frozen BK763.out 1
        have hfz80_2 := blk_frozen BK763.out 2
        have hfz80_3 := blk_frozen BK763.out 3
        have hfz80_4 := blk_frozen BK763.out 4
        have hfz80_5 := blk_frozen BK763.out 5
        have hcz81_0 : w72.cell? ⟨gb751, 0, none⟩ = some (.int .i64 x752000_2) := (blk_cell BK751.out 0).trans rfl
        have hcz81_1 : w72.cell? ⟨gb751, 1, none⟩ = some (.int .i64 x752001_2) := (blk_cell BK751.out 1).trans rfl
        have hcz81_2 : w72.cell? ⟨gb751, 2, none⟩ = some (.int .i64 x752002_2) := (blk_cell BK751.out 2).trans rfl
        have hcz81_3 : w72.cell? ⟨gb751, 3, none⟩ = some (.int .i64 x752003_2) := (blk_cell BK751.out 3).trans rfl
        have hcz81_4 : w72.cell? ⟨gb751, 4, none⟩ = some (.int .i64 x752004_2) := (blk_cell BK751.out 4).trans rfl
        have hcz81_5 : w72.cell? ⟨gb751, 5, none⟩ = some (.int .u64 x752005_2) := (blk_cell BK751.out 5).trans rfl
        have hfz81_0 := blk_frozen BK751.out 0
        have hfz81_1 := blk_frozen BK751.out 1
        have hfz81_2 := blk_frozen BK751.out 2
        have hfz81_3 := blk_frozen BK751.out 3
        have hfz81_4 := blk_frozen BK751.out 4
        have hfz81_5 := blk_frozen BK751.out 5
        have p764 : 0 ≤ (x13_2 : Int) := of_decide_eq_true (by first | (with_reducible assumption) | assumption)
        have q764 : x13_2 < (t744.length : Int) := of_decide_eq_true (by first | (with_reducible assumption) | assumption)
        obtain ⟨ad764, e764, hx764_0⟩ := Kd.at_bool (Kd.R_reads' HO_10.out).2.2 x13_2 p764 q764
        (try rw [← Nbq36.out] at hx764_0)
        cases e764
        have hn764_0 : ad764.block ≠ gb763 := Kd.own_blk (Kd.R_ne HO_10.out BK763.out (by decide))
        have hn764_1 : ad764.block ≠ gb763 := Kd.own_blk (Kd.R_ne HO_10.out BK763.out (by decide))
        have hn764_2 : ad764.block ≠ gb763 := Kd.own_blk (Kd.R_ne HO_10.out BK763.out (by decide))
        have hn764_3 : ad764.block ≠ gb763 := Kd.own_blk (Kd.R_ne HO_10.out BK763.out (by decide))
        have hn764_4 : ad764.block ≠ gb763 := Kd.own_blk (Kd.R_ne HO_10.out BK763.out (by decide))
        have hn764_5 : ad764.block ≠ gb763 := Kd.own_blk (Kd.R_ne HO_10.out BK763.out (by decide))
        have hn764_6 : ad764.block ≠ gb751 := Kd.own_blk (Kd.R_ne HO_10.out BK751.out (by decide))
        have hn764_7 : ad764.block ≠ gb751 := Kd.own_blk (Kd.R_ne HO_10.out BK751.out (by decide))
        have hn764_8 : ad764.block ≠ gb751 := Kd.own_blk (Kd.R_ne HO_10.out BK751.out (by decide))
        have hn764_9 : ad764.block ≠ gb751 := Kd.own_blk (Kd.R_ne HO_10.out BK751.out (by decide))
        have hn764_10 : ad764.block ≠ gb751 := Kd.own_blk (Kd.R_ne HO_10.out BK751.out (by decide))
        have hn764_11 : ad764.block ≠ gb751 := Kd.own_blk (Kd.R_ne HO_10.out BK751.out (by decide))
        replace hx764_0 := (cell_far (p := ⟨gb763, 0, none⟩) (by first | (rw [add_block]; exact hn764_0) | (show (Addr.add _ _).block ≠ _; rw [add_block]; exact hn764_0) | exact hn764_0) (.int .i64 t756)).trans hx764_0
        replace hx764_0 := (cell_far (p := ⟨gb763, 1, none⟩) (by first | (rw [add_block]; exact hn764_1) | (show (Addr.add _ _).block ≠ _; rw [add_block]; exact hn764_1) | exact hn764_1) (.int .i64 t757)).trans hx764_0
        replace hx764_0 := (cell_far (p := ⟨gb763, 2, none⟩) (by first | (rw [add_block]; exact hn764_2) | (show (Addr.add _ _).block ≠ _; rw [add_block]; exact hn764_2) | exact hn764_2) (.int .i64 t758)).trans hx764_0
        replace hx764_0 := (cell_far (p := ⟨gb763, 3, none⟩) (by first | (rw [add_block]; exact hn764_3) | (show (Addr.add _ _).block ≠ _; rw [add_block]; exact hn764_3) | exact hn764_3) (.int .i64 t759)).trans hx764_0
        replace hx764_0 := (cell_far (p := ⟨gb763, 4, none⟩) (by first | (rw [add_block]; exact hn764_4) | (show (Addr.add _ _).block ≠ _; rw [add_block]; exact hn764_4) | exact hn764_4) (.int .i64 t760)).trans hx764_0
        replace hx764_0 := (cell_far (p := ⟨gb763, 5, none⟩) (by first | (rw [add_block]; exact hn764_5) | (show (Addr.add _ _).block ≠ _; rw [add_block]; exact hn764_5) | exact hn764_5) (.int .u64 t761)).trans hx764_0
        replace hx764_0 := (cell_far (p := ⟨gb751, 0, none⟩) (by first | (rw [add_block]; exact hn764_6) | (show (Addr.add _ _).block ≠ _; rw [add_block]; exact hn764_6) | exact hn764_6) (.int .i64 t756)).trans hx764_0
        replace hx764_0 := (cell_far (p := ⟨gb751, 1, none⟩) (by first | (rw [add_block]; exact hn764_7) | (show (Addr.add _ _).block ≠ _; rw [add_block]; exact hn764_7) | exact hn764_7) (.int .i64 t757)).trans hx764_0
        replace hx764_0 := (cell_far (p := ⟨gb751, 2, none⟩) (by first | (rw [add_block]; exact hn764_8) | (show (Addr.add _ _).block ≠ _; rw [add_block]; exact hn764_8) | exact hn764_8) (.int .i64 t758)).trans hx764_0
        replace hx764_0 := (cell_far (p := ⟨gb751, 3, none⟩) (by first | (rw [add_block]; exact hn764_9) | (show (Addr.add _ _).block ≠ _; rw [add_block]; exact hn764_9) | exact hn764_9) (.int .i64 t759)).trans hx764_0
        replace hx764_0 := (cell_far (p := ⟨gb751, 4, none⟩) (by first | (rw [add_block]; exact hn764_10) | (show (Addr.add _ _).block ≠ _; rw [add_block]; exact hn764_10) | exact hn764_10) (.int .i64 t760)).trans hx764_0
        replace hx764_0 := (cell_far (p := ⟨gb751, 5, none⟩) (by first | (rw [add_block]; exact hn764_11) | (show (Addr.add _ _).block ≠ _; rw [add_block]; exact hn764_11) | exact hn764_11) (.int .u64 t761)).trans hx764_0
        clear hn764_0
        clear hn764_1
        clear hn764_2
        clear hn764_3
        clear hn764_4
        clear hn764_5
        clear hn764_6
        clear hn764_7
        clear hn764_8
        clear hn764_9
        clear hn764_10
        clear hn764_11
        replace p764 := eq_true p764
        replace q764 := eq_true q764
        try go_wp2
        go_roundg k2
        case measure => have := HJ4.out; have := HK2.out; omega
        case rel => exact ⟨(wrap64 (x13_2 + 1)), (t756), (t757), (t758), (t759), (t760), (t761), (by first | rfl | (simp; done) | (simp [*]; done)), H', ⟨by have := HJ4.out; have := HK2.out; omega⟩, ⟨by (with_reducible repeat (first | apply Kd.R_alloc | apply Kd.R_drewN | apply Kd.R_drew)); exact Kd.R_mono (Kd.R_far (p := ⟨gb751, 5, none⟩) (Kd.R_far (p := ⟨gb751, 4, none⟩) (Kd.R_far (p := ⟨gb751, 3, none⟩) (Kd.R_far (p := ⟨gb751, 2, none⟩) (Kd.R_far (p := ⟨gb751, 1, none⟩) (Kd.R_far (p := ⟨gb751, 0, none⟩) (Kd.R_far (p := ⟨gb763, 5, none⟩) (Kd.R_far (p := ⟨gb763, 4, none⟩) (Kd.R_far (p := ⟨gb763, 3, none⟩) (Kd.R_far (p := ⟨gb763, 2, none⟩) (Kd.R_far (p := ⟨gb763, 1, none⟩) (Kd.R_far (p := ⟨gb763, 0, none⟩) (Kd.R_mono (Kd.R_mono HO_9.out (fun k_ hk => (⟨hk, hk.2⟩ : _ ∧ k_ ≠ gb763))) (fun k_ hk => (⟨hk, hk.1.1⟩ : _ ∧ k_ ≠ gb751))) (fun _ hk => hk.1.2) (.int .i64 t756)) (fun _ hk => hk.1.2) (.int .i64 t757)) (fun _ hk => hk.1.2) (.int .i64 t758)) (fun _ hk => hk.1.2) (.int .i64 t759)) (fun _ hk => hk.1.2) (.int .i64 t760)) (fun _ hk => hk.1.2) (.int .u64 t761)) (fun _ hk => hk.2) (.int .i64 t756)) (fun _ hk => hk.2) (.int .i64 t757)) (fun _ hk => hk.2) (.int .i64 t758)) (fun _ hk => hk.2) (.int .i64 t759)) (fun _ hk => hk.2) (.int .i64 t760)) (fun _ hk => hk.2) (.int .u64 t761)) (fun _ hk => hk.1.1.1)⟩, ⟨by (with_reducible repeat (first | apply Kd.R_alloc | apply Kd.R_drewN | apply Kd.R_drew)); exact Kd.R_mono (Kd.R_far (p := ⟨gb751, 5, none⟩) (Kd.R_far (p := ⟨gb751, 4, none⟩) (Kd.R_far (p := ⟨gb751, 3, none⟩) (Kd.R_far (p := ⟨gb751, 2, none⟩) (Kd.R_far (p := ⟨gb751, 1, none⟩) (Kd.R_far (p := ⟨gb751, 0, none⟩) (Kd.R_far (p := ⟨gb763, 5, none⟩) (Kd.R_far (p := ⟨gb763, 4, none⟩) (Kd.R_far (p := ⟨gb763, 3, none⟩) (Kd.R_far (p := ⟨gb763, 2, none⟩) (Kd.R_far (p := ⟨gb763, 1, none⟩) (Kd.R_far (p := ⟨gb763, 0, none⟩) (Kd.R_types (Kd.R_types HO_10.out BK763.out (by decide)) BK751.out (by decide)) (fun _ hk => hk.1.2) (.int .i64 t756)) (fun _ hk => hk.1.2) (.int .i64 t757)) (fun _ hk => hk.1.2) (.int .i64 t758)) (fun _ hk => hk.1.2) (.int .i64 t759)) (fun _ hk => hk.1.2) (.int .i64 t760)) (fun _ hk => hk.1.2) (.int .u64 t761)) (fun _ hk => hk.2) (.int .i64 t756)) (fun _ hk => hk.2) (.int .i64 t757)) (fun _ hk => hk.2) (.int .i64 t758)) (fun _ hk => hk.2) (.int .i64 t759)) (fun _ hk => hk.2) (.int .i64 t760)) (fun _ hk => hk.2) (.int .u64 t761)) (fun _ hk => trivial)⟩, ⟨(blk_put (cs := #[.int .i64 t756, .int .i64 t757, .int .i64 t758, .int .i64 t759, .int .i64 t760, .int .u64 x752005_2]) (blk_put (cs := #[.int .i64 t756, .int .i64 t757, .int .i64 t758, .int .i64 t759, .int .i64 x752004_2, .int .u64 x752005_2]) (blk_put (cs := #[.int .i64 t756, .int .i64 t757, .int .i64 t758, .int .i64 x752003_2, .int .i64 x752004_2, .int .u64 x752005_2]) (blk_put (cs := #[.int .i64 t756, .int .i64 t757, .int .i64 x752002_2, .int .i64 x752003_2, .int .i64 x752004_2, .int .u64 x752005_2]) (blk_put (cs := #[.int .i64 t756, .int .i64 x752001_2, .int .i64 x752002_2, .int .i64 x752003_2, .int .i64 x752004_2, .int .u64 x752005_2]) (blk_put (cs := #[.int .i64 x752000_2, .int .i64 x752001_2, .int .i64 x752002_2, .int .i64 x752003_2, .int .i64 x752004_2, .int .u64 x752005_2]) (blk_far (blk_far (blk_far (blk_far (blk_far (blk_far (bq_ BK751) NB751_763.out _) NB751_763.out _) NB751_763.out _) NB751_763.out _) NB751_763.out _) NB751_763.out _) 0 _ rfl) 1 _ rfl) 2 _ rfl) 3 _ rfl) 4 _ rfl) 5 _ rfl)⟩, ⟨by repeat (first | (with_reducible first | exact HB.out | apply below_alloc | apply pw_below_drewN | apply below_drew1 | refine below_set ?_ GE751.out | refine below_set ?_ GE763.out) | exact HB.out)⟩⟩
      ·rw [if_neg c31] at H
       have c31b0 : decide (x13_2 < (l1.length : Int)) = false := decide_eq_false c31
       clear c31
       by_cases c82 : 0 ≤ a3
       rotate_left
       ·rw [if_neg c82] at H; exact absurd H (by simp)
       rw [if_pos c82] at H
       have c82b0 : decide (0 ≤ a3) = true := decide_eq_true c82
       clear c82
       by_cases c83 : a3 < (t743.length : Int)
       rotate_left
       ·rw [if_neg c83] at H; exact absurd H (by simp)
       rw [if_pos c83] at H
       have c83b0 : decide (a3 < (t743.length : Int)) = true := decide_eq_true c83
       clear c83
       by_cases c84 : ((x752000_2 == ((rd_T37 t743 a3).f0.f0) && (x752001_2 == ((rd_T37 t743 a3).f0.f1) && (x752002_2 == ((rd_T37 t743 a3).f0.f2)))) && (x752003_2 == ((rd_T37 t743 a3).f1) && (x752004_2 == ((rd_T37 t743 a3).f2) && (x752005_2 == ((rd_T37 t743 a3).f3))))) = true
       rotate_left
       ·rw [if_neg c84] at H; exact absurd H (by simp)
       rw [if_pos c84] at H
       have c84b0 : ((x752000_2 == ((rd_T37 t743 a3).f0.f0) && (x752001_2 == ((rd_T37 t743 a3).f0.f1) && (x752002_2 == ((rd_T37 t743 a3).f0.f2)))) && (x752003_2 == ((rd_T37 t743 a3).f1) && (x752004_2 == ((rd_T37 t743 a3).f2) && (x752005_2 == ((rd_T37 t743 a3).f3))))) = true := c84
       clear c84
       replace H := Option.bind_eq_some_iff.mp H
       obtain ⟨t753, A850, H⟩ := H
       replace H : (if t753 = 0 then ((spigotlaw04_alive.f k2).bind fun t754 => (some t754)) else (none)) = some r := H
       have A85 := Aside0.mk A850
       clear A850
       by_cases c86 : t753 = 0
       rotate_left
       ·rw [if_neg c86] at H; exact absurd H (by simp)
       rw [if_pos c86] at H
       have c86b0 : (t753 == 0) = true := beq_iff_eq.mpr c86
       have c86b1 : (t753 != 0) = false := bne_eq_false_iff_eq.mpr c86
       clear c86
       replace H := Option.bind_eq_some_iff.mp H
       obtain ⟨t754, A870, H⟩ := H
       replace H : (some t754) = some r := H
       have A87 := Aside0.mk A870
       clear A870
       obtain rfl := Option.some.inj H
       try go_wp2
       replace HO_9 := Aside0.mk (Kd.R_drew HO_9.out)
       replace HO_10 := Aside0.mk (Kd.R_drew HO_10.out)
       replace BK751 := Aside0.mk (blk_drew BK751.out)
       replace HB := Aside0.mk (below_drew1 HB.out)
       have p752 : 0 ≤ (a3 : Int) := of_decide_eq_true (by first | (with_reducible assumption) | assumption)
       have q752 : a3 < (t743.length : Int) := of_decide_eq_true (by first | (with_reducible assumption) | assumption)
       obtain ⟨ad752, e752, hx752_0, hx752_1, hx752_2, hx752_3, hx752_4, hx752_5⟩ := at_T37 (Kd.R_reads' HO_9.out).2.2 a3 p752 q752
       cases e752
       replace p752 := eq_true p752
       replace q752 := eq_true q752
       refine start_ (n := 15) (S := fun w' => w'.cell? ⟨gb751, 0, none⟩ = some (.int .i64 x752000_2) ∧ w'.cell? ⟨gb751, 1, none⟩ = some (.int .i64 x752001_2) ∧ w'.cell? ⟨gb751, 2, none⟩ = some (.int .i64 x752002_2) ∧ w'.cell? ⟨gb751, 3, none⟩ = some (.int .i64 x752003_2) ∧ w'.cell? ⟨gb751, 4, none⟩ = some (.int .i64 x752004_2) ∧ w'.cell? ⟨gb751, 5, none⟩ = some (.int .u64 x752005_2) ∧ w'.cell? (ad752.add ((a3).toNat * 6)) = some (.int .i64 ((rd_T37 t743 a3).f0.f0)) ∧ w'.cell? ⟨(ad752.add ((a3).toNat * 6)).block, (ad752.add ((a3).toNat * 6)).off + 1, none⟩ = some (.int .i64 ((rd_T37 t743 a3).f0.f1)) ∧ w'.cell? ⟨(ad752.add ((a3).toNat * 6)).block, (ad752.add ((a3).toNat * 6)).off + 2, none⟩ = some (.int .i64 ((rd_T37 t743 a3).f0.f2)) ∧ w'.cell? ⟨(ad752.add ((a3).toNat * 6)).block, (ad752.add ((a3).toNat * 6)).off + 3, none⟩ = some (.int .i64 ((rd_T37 t743 a3).f1)) ∧ w'.cell? ⟨(ad752.add ((a3).toNat * 6)).block, (ad752.add ((a3).toNat * 6)).off + 4, none⟩ = some (.int .i64 ((rd_T37 t743 a3).f2)) ∧ w'.cell? ⟨(ad752.add ((a3).toNat * 6)).block, (ad752.add ((a3).toNat * 6)).off + 5, none⟩ = some (.int .u64 ((rd_T37 t743 a3).f3))) (ds := []) #[false, false, false, false, false, false, false, false, false, false, false, false, false, false, false] (by kernel_rfl) rfl rfl ⟨(blk_cell BK751.out 0).trans rfl, (blk_cell BK751.out 1).trans rfl, (blk_cell BK751.out 2).trans rfl, (blk_cell BK751.out 3).trans rfl, (blk_cell BK751.out 4).trans rfl, (blk_cell BK751.out 5).trans rfl, hx752_0, hx752_1, hx752_2, hx752_3, hx752_4, hx752_5⟩ (fun hHeld => ?_); refine with_tabW spigotlaw04_LevelsAlone.tab19 spigotlaw04_LevelsAlone.bits19 (fun HT_ HW_ => ?_)
       generalize wr.drew = w88 at HO_9 HO_10 BK751 HB hx752_0 hx752_1 hx752_2 hx752_3 hx752_4 hx752_5 hHeld ⊢
       refine pure_ (i := 1) (N := some 107) (v := ?_) (a' := ?_) #[false, true, false, false, false, false, false, false, false, false, false, false, false, false, false] rfl rfl (any_of HT_.out (by kernel_rfl)) (fun _ _ _ h => h) (Or.inl ⟨by rfl, ?_⟩) ?_ ?_
       rotate_left
       ·intro w'
        go_simp
        with_reducible rfl
       rotate_left
       ·simp only [Act.put, List.setIfInBounds_toArray, List.set_cons_zero, List.set_cons_succ, i64_w, i32_w]
        rfl
       refine pure_ (i := 2) (N := some 108) (v := ?_) (a' := ?_) #[false, true, true, false, false, false, false, false, false, false, false, false, false, false, false] rfl rfl (any_of HT_.out (by kernel_rfl)) (fun _ _ _ h => h) (Or.inl ⟨by rfl, ?_⟩) ?_ ?_
       rotate_left
       ·intro w'
        go_simp
        with_reducible rfl
       rotate_left
       ·simp only [Act.put, List.setIfInBounds_toArray, List.set_cons_zero, List.set_cons_succ, i64_w, i32_w]
        rfl
       refine pure_ (i := 3) (N := some 109) (v := ?_) (a' := ?_) #[false, true, true, true, false, false, false, false, false, false, false, false, false, false, false] rfl rfl (any_of HT_.out (by kernel_rfl)) (fun _ _ _ h => h) (Or.inl ⟨by rfl, ?_⟩) ?_ ?_
       rotate_left
       ·intro w'
        go_simp
        with_reducible rfl
       rotate_left
       ·simp only [Act.put, List.setIfInBounds_toArray, List.set_cons_zero, List.set_cons_succ, i64_w, i32_w]
        rfl
       refine take_ (i := 0) (N := some 106) (v := ?_) (a' := ?_) #[true, true, true, true, false, false, false, false, false, false, false, false, false, false, false] rfl rfl (take_ofW HT_.out HW_.out (by kernel_rfl)) (fun _ _ _ h => h) (Or.inl ⟨by rfl, ?_⟩) hHeld ?_ ?_
       rotate_left
       ·rintro w' ⟨s0, s1, s2, s3, s4, s5, s6, s7, s8, s9, s10, s11⟩
        go_simp
        with_reducible rfl
       rotate_left
       ·simp only [Act.put, List.setIfInBounds_toArray, List.set_cons_zero, List.set_cons_succ, i64_w, i32_w]
        rfl
       refine take_ (i := 4) (N := some 110) (v := ?_) (a' := ?_) #[true, true, true, true, true, false, false, false, false, false, false, false, false, false, false] rfl rfl (take_ofW HT_.out HW_.out (by kernel_rfl)) (fun _ _ _ h => h) (Or.inl ⟨by rfl, ?_⟩) hHeld ?_ ?_
       rotate_left
       ·rintro w' ⟨s0, s1, s2, s3, s4, s5, s6, s7, s8, s9, s10, s11⟩
        go_simp
        with_reducible rfl
       rotate_left
       ·simp only [Act.put, List.setIfInBounds_toArray, List.set_cons_zero, List.set_cons_succ, i64_w, i32_w]
        rfl
       refine pure_ (i := 5) (N := some 111) (v := ?_) (a' := ?_) #[true, true, true, true, true, true, false, false, false, false, false, false, false, false, false] rfl rfl (any_of HT_.out (by kernel_rfl)) (fun _ _ _ h => h) (Or.inl ⟨by rfl, ?_⟩) ?_ ?_
       rotate_left
       ·intro w'
        go_simp
        with_reducible rfl
       rotate_left
       ·simp only [Act.put, List.setIfInBounds_toArray, List.set_cons_zero, List.set_cons_succ, i64_w, i32_w]
        rfl
       refine pure_ (i := 6) (N := some 112) (v := ?_) (a' := ?_) #[true, true, true, true, true, true, true, false, false, false, false, false, false, false, false] rfl rfl (any_of HT_.out (by kernel_rfl)) (fun _ _ _ h => h) (Or.inl ⟨by rfl, ?_⟩) ?_ ?_
       rotate_left
       ·intro w'
        go_simp
        with_reducible rfl
       rotate_left
       ·simp only [Act.put, List.setIfInBounds_toArray, List.set_cons_zero, List.set_cons_succ, i64_w, i32_w]
        rfl
       refine take_ (i := 7) (N := some 113) (v := ?_) (a' := ?_) #[true, true, true, true, true, true, true, true, false, false, false, false, false, false, false] rfl rfl (take_ofW HT_.out HW_.out (by kernel_rfl)) (fun _ _ _ h => h) (Or.inl ⟨by rfl, ?_⟩) hHeld ?_ ?_
       rotate_left
       ·rintro w' ⟨s0, s1, s2, s3, s4, s5, s6, s7, s8, s9, s10, s11⟩
        go_simp
        with_reducible rfl
       rotate_left
       ·simp only [Act.put, List.setIfInBounds_toArray, List.set_cons_zero, List.set_cons_succ, i64_w, i32_w]
        rfl
       refine one_ (i := 8) (N := some 114) #[true, true, true, true, true, true, true, true, true, false, false, false, false, false, false] rfl rfl (one_of HT_.out (by kernel_rfl)) (by decide) (fun K hK => ?_)
       refine goes_ Try.func32 (by kernel_rfl) rfl #[.agg #[.int .i64 x752000_2, .int .i64 x752001_2, .int .i64 x752002_2, .int .i64 x752003_2, .int .i64 x752004_2, .int .u64 x752005_2]] (by rfl) rfl rfl (by (try simp only [List.map_toArray, List.map_cons, List.map_nil]); first | done | rfl | (simp only [List.length_drop, List.length_take]; rfl)) ?_
       with_reducible refine (spigotref03_Check.calls x752000_2 x752001_2 x752002_2 x752003_2 x752004_2 x752005_2 t753 _ A85.out).mono ?_
       rintro e w89 ⟨rfl, hb⟩
       have HS6_ := (hb.cell (World.block_lt_of_cell? _ _ (hHeld.2.2.2.2.2.2.1))).trans (hHeld.2.2.2.2.2.2.1)
       have HS7_ := (hb.cell (World.block_lt_of_cell? _ _ (hHeld.2.2.2.2.2.2.2.1))).trans (hHeld.2.2.2.2.2.2.2.1)
       have HS8_ := (hb.cell (World.block_lt_of_cell? _ _ (hHeld.2.2.2.2.2.2.2.2.1))).trans (hHeld.2.2.2.2.2.2.2.2.1)
       have HS9_ := (hb.cell (World.block_lt_of_cell? _ _ (hHeld.2.2.2.2.2.2.2.2.2.1))).trans (hHeld.2.2.2.2.2.2.2.2.2.1)
       have HS10_ := (hb.cell (World.block_lt_of_cell? _ _ (hHeld.2.2.2.2.2.2.2.2.2.2.1))).trans (hHeld.2.2.2.2.2.2.2.2.2.2.1)
       have HS11_ := (hb.cell (World.block_lt_of_cell? _ _ (hHeld.2.2.2.2.2.2.2.2.2.2.2))).trans (hHeld.2.2.2.2.2.2.2.2.2.2.2)
       refine ⟨_, rfl, ?_⟩
       replace HO_9 := Aside0.mk (Kd.R_below (by (with_reducible repeat (first | apply Kd.R_alloc | apply Kd.R_drewN | apply Kd.R_drew)); exact HO_9.out) hb)
       replace HO_10 := Aside0.mk (Kd.R_below (by (with_reducible repeat (first | apply Kd.R_alloc | apply Kd.R_drewN | apply Kd.R_drew)); exact HO_10.out) hb)
       replace BK751 := bb_ BK751 hb
       replace HB := bs_ w hb
       (try clear hb)
       (try clear hb2)
       (try clear hk)
       (try clear hi)
       refine hK.out _ _ ⟨(blk_cell BK751.out 0).trans rfl, (blk_cell BK751.out 1).trans rfl, (blk_cell BK751.out 2).trans rfl, (blk_cell BK751.out 3).trans rfl, (blk_cell BK751.out 4).trans rfl, (blk_cell BK751.out 5).trans rfl, HS6_, HS7_, HS8_, HS9_, HS10_, HS11_⟩ (fun hHeld => ?_)
       clear hK K
       refine norm_ (a' := ?_) ?_ ?_
       rotate_left
       ·show Act.put _ (some 114) _ = _
        simp only [Act.put, List.setIfInBounds_toArray, List.set_cons_zero, List.set_cons_succ, i64_w, i32_w]
        rfl
       refine pure_ (i := 9) (N := some 115) (v := ?_) (a' := ?_) #[true, true, true, true, true, true, true, true, true, true, false, false, false, false, false] rfl rfl (any_of HT_.out (by kernel_rfl)) (fun _ _ _ h => h) (Or.inl ⟨by rfl, ?_⟩) ?_ ?_
       rotate_left
       ·intro w'
        go_simp
        with_reducible rfl
       rotate_left
       ·simp only [Act.put, List.setIfInBounds_toArray, List.set_cons_zero, List.set_cons_succ, i64_w, i32_w]
        rfl
       refine pure_ (i := 10) (N := some 116) (v := ?_) (a' := ?_) #[true, true, true, true, true, true, true, true, true, true, true, false, false, false, false] rfl rfl (any_of HT_.out (by kernel_rfl)) (fun _ _ _ h => h) (Or.inl ⟨by rfl, ?_⟩) ?_ ?_
       rotate_left
       ·intro w'
        go_simp
        with_reducible rfl
       rotate_left
       ·simp only [Act.put, List.setIfInBounds_toArray, List.set_cons_zero, List.set_cons_succ, i64_w, i32_w]
        rfl
       refine pure_ (i := 11) (N := some 117) (v := ?_) (a' := ?_) #[true, true, true, true, true, true, true, true, true, true, true, true, false, false, false] rfl rfl (any_of HT_.out (by kernel_rfl)) (fun _ _ _ h => h) (Or.inl ⟨by rfl, ?_⟩) ?_ ?_
       rotate_left
       ·intro w'
        go_simp
        with_reducible rfl
       rotate_left
       ·simp only [Act.put, List.setIfInBounds_toArray, List.set_cons_zero, List.set_cons_succ, i64_w, i32_w]
        rfl
       refine one_ (i := 12) (N := some 118) #[true, true, true, true, true, true, true, true, true, true, true, true, true, false, false] rfl rfl (one_of HT_.out (by kernel_rfl)) (by decide) (fun K hK => ?_)
       refine goes_ Try.func17 (by kernel_rfl) rfl #[] (by rfl) rfl rfl (by (try simp only [List.map_toArray, List.map_cons, List.map_nil]); first | done | rfl | (simp only [List.length_drop, List.length_take]; rfl)) ?_
       with_reducible refine (spigotlaw04_alive.calls k2  t754 _ A87.out).mono ?_
       rintro e w90 ⟨rfl, hb⟩
       have HS6_ := (hb.cell (World.block_lt_of_cell? _ _ (hHeld.2.2.2.2.2.2.1))).trans (hHeld.2.2.2.2.2.2.1)
       have HS7_ := (hb.cell (World.block_lt_of_cell? _ _ (hHeld.2.2.2.2.2.2.2.1))).trans (hHeld.2.2.2.2.2.2.2.1)
       have HS8_ := (hb.cell (World.block_lt_of_cell? _ _ (hHeld.2.2.2.2.2.2.2.2.1))).trans (hHeld.2.2.2.2.2.2.2.2.1)
       have HS9_ := (hb.cell (World.block_lt_of_cell? _ _ (hHeld.2.2.2.2.2.2.2.2.2.1))).trans (hHeld.2.2.2.2.2.2.2.2.2.1)
       have HS10_ := (hb.cell (World.block_lt_of_cell? _ _ (hHeld.2.2.2.2.2.2.2.2.2.2.1))).trans (hHeld.2.2.2.2.2.2.2.2.2.2.1)
       have HS11_ := (hb.cell (World.block_lt_of_cell? _ _ (hHeld.2.2.2.2.2.2.2.2.2.2.2))).trans (hHeld.2.2.2.2.2.2.2.2.2.2.2)
       refine ⟨_, rfl, ?_⟩
       replace HO_9 := Aside0.mk (Kd.R_below (by (with_reducible repeat (first | apply Kd.R_alloc | apply Kd.R_drewN | apply Kd.R_drew)); exact HO_9.out) hb)
       replace HO_10 := Aside0.mk (Kd.R_below (by (with_reducible repeat (first | apply Kd.R_alloc | apply Kd.R_drewN | apply Kd.R_drew)); exact HO_10.out) hb)
       replace BK751 := bb_ BK751 hb
       replace HB := bs_ w hb
       (try clear hb)
       (try clear hb2)
       (try clear hk)
       (try clear hi)
       refine hK.out _ _ ⟨(blk_cell BK751.out 0).trans rfl, (blk_cell BK751.out 1).trans rfl, (blk_cell BK751.out 2).trans rfl, (blk_cell BK751.out 3).trans rfl, (blk_cell BK751.out 4).trans rfl, (blk_cell BK751.out 5).trans rfl, HS6_, HS7_, HS8_, HS9_, HS10_, HS11_⟩ (fun hHeld => ?_)
       clear hK K
       refine norm_ (a' := ?_) ?_ ?_
       rotate_left
       ·show Act.put _ (some 118) _ = _
        simp only [Act.put, List.setIfInBounds_toArray, List.set_cons_zero, List.set_cons_succ, i64_w, i32_w]
        rfl
       refine pure_ (i := 13) (N := some 119) (v := ?_) (a' := ?_) #[true, true, true, true, true, true, true, true, true, true, true, true, true, true, false] rfl rfl (any_of HT_.out (by kernel_rfl)) (fun _ _ _ h => h) (Or.inl ⟨by rfl, ?_⟩) ?_ ?_
       rotate_left
       ·intro w'
        go_simp
        with_reducible rfl
       rotate_left
       ·simp only [Act.put, List.setIfInBounds_toArray, List.set_cons_zero, List.set_cons_succ, i64_w, i32_w]
        rfl
       refine pure_ (i := 14) (N := some 8) (v := ?_) (a' := ?_) #[true, true, true, true, true, true, true, true, true, true, true, true, true, true, true] rfl rfl (any_of HT_.out (by kernel_rfl)) (fun _ _ _ h => h) (Or.inl ⟨by rfl, ?_⟩) ?_ ?_
       rotate_left
       ·intro w'
        go_simp
        with_reducible rfl
       rotate_left
       ·simp only [Act.put, List.setIfInBounds_toArray, List.set_cons_zero, List.set_cons_succ, i64_w, i32_w]
        rfl
       refine done_ (done_of HT_.out (by kernel_rfl)) ?_
       try go_wp2
       go_ret
       exact ⟨by first | rfl | (simp [errW_none, errW_some] <;> rfl) | (simp [*, errW_none, errW_some] <;> rfl), by repeat (first | (with_reducible first | exact HB.out | apply below_alloc | apply pw_below_drewN | apply below_drew1 | refine below_set ?_ GE751.out) | exact HB.out)⟩

end Go.Proofs.Ytaegpnbgppjicaa.X
