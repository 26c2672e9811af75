-- written by xprint.py, a program of this session over the kit's print
import Derived.Test.YtaegpnbgppjicaaX0
import Derived.Test.YtaegpnbgppjicaaX1
import Derived.Test.YtaegpnbgppjicaaX3
import Derived.Test.YtaegpnbgppjicaaX14
import Derived.Test.YtaegpnbgppjicaaX22
import Derived.Test.YtaegpnbgppjicaaX23
import Derived.Test.YtaegpnbgppjicaaX24
namespace Go.Proofs.Ytaegpnbgppjicaa.X
open Go.RowKit Go.Proofs.YtaegpnbgppjicaaW.PrintWords Go.Proofs.YtaegpnbgppjicaaW.PrintLast Go.Proofs.YtaegpnbgppjicaaW.PrintMore
attribute [local go_sem] max2_int min2_int max_two min_two max_three min_three max_four min_four   -- for this text's walks alone
set_option linter.unusedVariables false
set_option linter.unusedSimpArgs false

attribute [local go_sem high] eqA37
/-! ### spigotlaw04_LevelsRuns: function 3 -/
mutual
def spigotlaw04_LevelsRuns.j0 : Nat → List (S37) → List Int → List Int → Bool → Option (Bool)
  | 0, _, _, _, _ => none
  | k + 1, x0, x1, x2, x21 => if x21 = true then (some true) else ((some (([] : List (S37)) : List (S37))).bind fun y271 => (if y271.length + x0.length < 2932031007402 then ((levels_Run.f k x0 x1 x2).bind fun bt277 => ((spigotref04_Run.f k x0 x1 x2).bind fun bt284 => (spigotlaw04_LevelsRuns.l0 k x0 (y271 ++ x0) bt277.1 bt277.2.1 bt277.2.2 bt284.1 bt284.2.1 bt284.2.2 0))) else (none)))
def spigotlaw04_LevelsRuns.l0 : Nat → List (S37) → List (S37) → List (S37) → List Bool → Int → List (S37) → List Bool → Int → Int → Option (Bool)
  | 0, _, _, _, _, _, _, _, _, _ => none
  | k + 1, x0, x7, x8, x9, x10, x11, x12, x13, x14 => if x14 < (x8.length : Int) then (if x14 < (x11.length : Int) then (if 0 ≤ x14 then (if ((!(((rd_T37 x8 x14).f0.f0) == ((rd_T37 x11 x14).f0.f0)) || (!(((rd_T37 x8 x14).f0.f1) == ((rd_T37 x11 x14).f0.f1)) || (!(((rd_T37 x8 x14).f0.f2) == ((rd_T37 x11 x14).f0.f2))))) || (!(((rd_T37 x8 x14).f1) == ((rd_T37 x11 x14).f1)) || (!(((rd_T37 x8 x14).f2) == ((rd_T37 x11 x14).f2)) || (!(((rd_T37 x8 x14).f3) == ((rd_T37 x11 x14).f3)))))) = true then (none) else (spigotlaw04_LevelsRuns.l0 k x0 x7 (x8.set (x14 : Int).toNat (⟨(⟨(rd_T37 x8 x14).f0.f0, (rd_T37 x8 x14).f0.f1, (rd_T37 x8 x14).f0.f2⟩ : S34), (-1), (rd_T37 x8 x14).f2, (rd_T37 x8 x14).f3⟩ : S37)) x9 x10 x11 x12 x13 (wrap64 (x14 + 1)))) else (none)) else (if 0 ≤ x14 then (spigotlaw04_LevelsRuns.l0 k x0 x7 (x8.set (x14 : Int).toNat (⟨(⟨(rd_T37 x8 x14).f0.f0, (rd_T37 x8 x14).f0.f1, (rd_T37 x8 x14).f0.f2⟩ : S34), (-1), (rd_T37 x8 x14).f2, (rd_T37 x8 x14).f3⟩ : S37)) x9 x10 x11 x12 x13 (wrap64 (x14 + 1))) else (none))) else (if (x8.length : Int) = (x11.length : Int) then ((spigotref04_SameBools.f k x9 x12).bind fun t295 => (if t295 = true then (if x10 = x13 then ((spigotref04_Same.f k x0 x7).bind fun t296 => (some t296)) else (none)) else (none))) else (none))
end
def spigotlaw04_LevelsRuns.f (k : Nat) (l0 : List (S37)) (l1 : List Int) (l2 : List Int) : Option (Bool) := (spigotref04_Great.f l0).bind fun t269 => (if t269 = true then (spigotlaw04_LevelsRuns.j0 k l0 l1 l2 true) else ((spigotref04_Long.f l1 l2).bind fun t270 => (spigotlaw04_LevelsRuns.j0 k l0 l1 l2 t270)))
theorem spigotlaw04_LevelsRuns.mono_l : ∀ k, (∀ y0 y1 y2 y3, LeO (spigotlaw04_LevelsRuns.j0 k y0 y1 y2 y3) (spigotlaw04_LevelsRuns.j0 (k + 1) y0 y1 y2 y3)) ∧ (∀ y0 y1 y2 y3 y4 y5 y6 y7 y8, LeO (spigotlaw04_LevelsRuns.l0 k y0 y1 y2 y3 y4 y5 y6 y7 y8) (spigotlaw04_LevelsRuns.l0 (k + 1) y0 y1 y2 y3 y4 y5 y6 y7 y8))
  | 0 => ⟨fun _ _ _ _ r h => by simp [spigotlaw04_LevelsRuns.j0] at h, fun _ _ _ _ _ _ _ _ _ r h => by simp [spigotlaw04_LevelsRuns.l0] at h⟩
  | k + 1 => by
    obtain ⟨ih0, ih1⟩ := spigotlaw04_LevelsRuns.mono_l k
    refine ⟨?_, ?_⟩
    · intro y0 y1 y2 y3
      unfold spigotlaw04_LevelsRuns.j0
      repeat' first
      | (with_reducible exact ih0 _ _ _ _)
      | (with_reducible exact ih1 _ _ _ _ _ _ _ _ _)
      | (with_reducible exact levels_Run.mono _ _ _ _)
      | (with_reducible exact spigotref04_Run.mono _ _ _ _)
      | (with_reducible exact spigotref04_Same.mono _ _ _)
      | (with_reducible exact spigotref04_SameBools.mono _ _ _)
      | (with_reducible exact LeO.refl _)
      | (with_reducible exact LeO.none _)
      | (with_reducible refine LeO.ite ?_ ?_)
      | (with_reducible refine LeO.bind ?_ (fun _ => ?_))
      | exact ih0 _ _ _ _
      | exact ih1 _ _ _ _ _ _ _ _ _
      | exact levels_Run.mono _ _ _ _
      | exact spigotref04_Run.mono _ _ _ _
      | exact spigotref04_Same.mono _ _ _
      | exact spigotref04_SameBools.mono _ _ _
      | exact LeO.none _
      | refine LeO.ite ?_ ?_
      | refine LeO.bind ?_ (fun _ => ?_)
    · intro y0 y1 y2 y3 y4 y5 y6 y7 y8
      unfold spigotlaw04_LevelsRuns.l0
      repeat' first
      | (with_reducible exact ih0 _ _ _ _)
      | (with_reducible exact ih1 _ _ _ _ _ _ _ _ _)
      | (with_reducible exact levels_Run.mono _ _ _ _)
      | (with_reducible exact spigotref04_Run.mono _ _ _ _)
      | (with_reducible exact spigotref04_Same.mono _ _ _)
      | (with_reducible exact spigotref04_SameBools.mono _ _ _)
      | (with_reducible exact LeO.refl _)
      | (with_reducible exact LeO.none _)
      | (with_reducible refine LeO.ite ?_ ?_)
      | (with_reducible refine LeO.bind ?_ (fun _ => ?_))
      | exact ih0 _ _ _ _
      | exact ih1 _ _ _ _ _ _ _ _ _
      | exact levels_Run.mono _ _ _ _
      | exact spigotref04_Run.mono _ _ _ _
      | exact spigotref04_Same.mono _ _ _
      | exact spigotref04_SameBools.mono _ _ _
      | exact LeO.none _
      | refine LeO.ite ?_ ?_
      | refine LeO.bind ?_ (fun _ => ?_)
theorem spigotlaw04_LevelsRuns.mono : ∀ a0 a1 a2 k, LeO (spigotlaw04_LevelsRuns.f k a0 a1 a2) (spigotlaw04_LevelsRuns.f (k + 1) a0 a1 a2) := by
  intro a0 a1 a2 k
  obtain ⟨ih0, ih1⟩ := spigotlaw04_LevelsRuns.mono_l k
  unfold spigotlaw04_LevelsRuns.f
  repeat' first
      | (with_reducible exact ih0 _ _ _ _)
      | (with_reducible exact ih1 _ _ _ _ _ _ _ _ _)
      | (with_reducible exact levels_Run.mono _ _ _ _)
      | (with_reducible exact spigotref04_Run.mono _ _ _ _)
      | (with_reducible exact spigotref04_Same.mono _ _ _)
      | (with_reducible exact spigotref04_SameBools.mono _ _ _)
      | (with_reducible exact LeO.refl _)
      | (with_reducible exact LeO.none _)
      | (with_reducible refine LeO.ite ?_ ?_)
      | (with_reducible refine LeO.bind ?_ (fun _ => ?_))
      | exact ih0 _ _ _ _
      | exact ih1 _ _ _ _ _ _ _ _ _
      | exact levels_Run.mono _ _ _ _
      | exact spigotref04_Run.mono _ _ _ _
      | exact spigotref04_Same.mono _ _ _
      | exact spigotref04_SameBools.mono _ _ _
      | exact LeO.none _
      | refine LeO.ite ?_ ?_
      | refine LeO.bind ?_ (fun _ => ?_)
set_option maxHeartbeats 8000000 in
set_option maxRecDepth 100000 in
theorem spigotlaw04_LevelsRuns.calls (k : Nat) (A0 : Option Addr) (c0 : Nat) (l0 : List (S37)) (A1 : Option Addr) (c1 : Nat) (l1 : List Int) (A2 : Option Addr) (c2 : Nat) (l2 : List Int) (r : Bool) (w : World) (hr0 : Kd.C k37 w A0 l0.length l0) (hc0 : l0.length ≤ c0) (hr1 : Kd.C (Kd.int .u64) w A1 l1.length l1) (hc1 : l1.length ≤ c1) (hr2 : Kd.C (Kd.int .i64) w A2 l2.length l2) (hc2 : l2.length ≤ c2) (h : spigotlaw04_LevelsRuns.f k l0 l1 l2 = some r) :
  Calls Try.prog 3 #[.slice A0 l0.length c0, .slice A1 l1.length c1, .slice A2 l2.length c2] w fun e w' => e = .returned (.bool r) ∧ Below w.heap.size w w' := by
 have hu37 := Try.underlying37
 have HR0 := Aside0.mk hr0
 have HC0 := Aside0.mk hc0
 clear hr0 hc0
 have HR1 := Aside0.mk hr1
 have HC1 := Aside0.mk hc1
 clear hr1 hc1
 have HR2 := Aside0.mk hr2
 have HC2 := Aside0.mk hc2
 clear hr2 hc2
 have HB := Aside0.mk (Below.refl w.heap.size w)
 have H : ((spigotref04_Great.f l0).bind fun t269 => (if t269 = true then (spigotlaw04_LevelsRuns.j0 k l0 l1 l2 true) else ((spigotref04_Long.f l1 l2).bind fun t270 => (spigotlaw04_LevelsRuns.j0 k l0 l1 l2 t270)))) = some r := h
 clear h
 have HC4 := Aside0.mk H
 clear H
 go_enter Try.func3, Try.ntmps3
 go_upto_region 1 with (fail)
 repeat (go_quiet (fail); go_upto_region 1 with (fail))
 go_cut [21] (fun v21 wc => ∃ (kq : Nat) (x21_3 : Bool), v21 = .bool x21_3 ∧ Aside0 (spigotlaw04_LevelsRuns.j0 kq l0 l1 l2 x21_3 = some r) ∧ Aside0 (kq ≤ k) ∧ Aside0 (Below w.heap.size w wc))
 case first =>
  have H := HC4.out
  clear HC4
  obtain ⟨t269, A5, H⟩ := bo_ H
  try dsimp only at H
  by_cases c6 : t269 = true
  ·subst c6
   replace H : (spigotlaw04_LevelsRuns.j0 k l0 l1 l2 true) = some r := by rw [if_pos rfl] at H; exact H
   have H' := Aside0.mk H
   clear H
   go_wp2_with (first | (go_at_call 10; (with_reducible refine (spigotref04_Great.calls _ _ l0 true _ ?side1 ?side2 A5.out).mono ?_); (case side1 => exact cs_ HR0 HB); (case side2 => exact HC0.out); rintro e w' ⟨rfl, ⟨nd, rfl⟩⟩; (try first | exact ⟨rfl, _, World.drewN_drewN _ _ _⟩ | exact ⟨rfl, _, Eq.trans (World.drewN_drewN _ _ _) (congrArg (World.drewN _) (Nat.add_assoc _ _ _))⟩)))
   repeat (go_quiet (first | (go_at_call 10; (with_reducible refine (spigotref04_Great.calls _ _ l0 true _ ?side1 ?side2 A5.out).mono ?_); (case side1 => exact cs_ HR0 HB); (case side2 => exact HC0.out); rintro e w' ⟨rfl, ⟨nd, rfl⟩⟩; (try first | exact ⟨rfl, _, World.drewN_drewN _ _ _⟩ | exact ⟨rfl, _, Eq.trans (World.drewN_drewN _ _ _) (congrArg (World.drewN _) (Nat.add_assoc _ _ _))⟩))); try go_wp2_with (first | (go_at_call 10; (with_reducible refine (spigotref04_Great.calls _ _ l0 true _ ?side1 ?side2 A5.out).mono ?_); (case side1 => exact cs_ HR0 HB); (case side2 => exact HC0.out); rintro e w' ⟨rfl, ⟨nd, rfl⟩⟩; (try first | exact ⟨rfl, _, World.drewN_drewN _ _ _⟩ | exact ⟨rfl, _, Eq.trans (World.drewN_drewN _ _ _) (congrArg (World.drewN _) (Nat.add_assoc _ _ _))⟩))))
   go_meet
   case rel => exact ⟨_, (true), rf_, H', al_, bw_⟩
  ·replace c6 := Bool.eq_false_iff.mpr c6
   subst c6
   rw [if_neg (show ¬ (false = true) by decide)] at H
   try dsimp only at H
   obtain ⟨t270, A7, H⟩ := bo_ H
   replace H : (spigotlaw04_LevelsRuns.j0 k l0 l1 l2 t270) = some r := H
   have H' := Aside0.mk H
   clear H
   go_wp2_with (first | (go_at_call 10; (with_reducible refine (spigotref04_Great.calls _ _ l0 false _ ?side1 ?side2 A5.out).mono ?_); (case side1 => exact cs_ HR0 HB); (case side2 => exact HC0.out); rintro e w' ⟨rfl, ⟨nd, rfl⟩⟩; (try first | exact ⟨rfl, _, World.drewN_drewN _ _ _⟩ | exact ⟨rfl, _, Eq.trans (World.drewN_drewN _ _ _) (congrArg (World.drewN _) (Nat.add_assoc _ _ _))⟩)) | (go_at_call 11; (with_reducible refine (spigotref04_Long.calls _ _ l1 _ _ l2 t270 _ ?side1 ?side2 ?side3 ?side4 A7.out).mono ?_); (case side1 => repeat (first | exact (Kd.C_below HR1.out (hq_ HB)) | (with_reducible refine Kd.C_alloc ?_ _) | (with_reducible refine Kd.C_drewN ?_ _) | (with_reducible refine Kd.C_drew ?_))); (case side2 => exact HC1.out); (case side3 => repeat (first | exact (Kd.C_below HR2.out (hq_ HB)) | (with_reducible refine Kd.C_alloc ?_ _) | (with_reducible refine Kd.C_drewN ?_ _) | (with_reducible refine Kd.C_drew ?_))); (case side4 => exact HC2.out); rintro e w' ⟨rfl, ⟨nd, rfl⟩⟩; (try first | exact ⟨rfl, _, World.drewN_drewN _ _ _⟩ | exact ⟨rfl, _, Eq.trans (World.drewN_drewN _ _ _) (congrArg (World.drewN _) (Nat.add_assoc _ _ _))⟩)))
   repeat (go_quiet (first | (go_at_call 10; (with_reducible refine (spigotref04_Great.calls _ _ l0 false _ ?side1 ?side2 A5.out).mono ?_); (case side1 => exact cs_ HR0 HB); (case side2 => exact HC0.out); rintro e w' ⟨rfl, ⟨nd, rfl⟩⟩; (try first | exact ⟨rfl, _, World.drewN_drewN _ _ _⟩ | exact ⟨rfl, _, Eq.trans (World.drewN_drewN _ _ _) (congrArg (World.drewN _) (Nat.add_assoc _ _ _))⟩)) | (go_at_call 11; (with_reducible refine (spigotref04_Long.calls _ _ l1 _ _ l2 t270 _ ?side1 ?side2 ?side3 ?side4 A7.out).mono ?_); (case side1 => repeat (first | exact (Kd.C_below HR1.out (hq_ HB)) | (with_reducible refine Kd.C_alloc ?_ _) | (with_reducible refine Kd.C_drewN ?_ _) | (with_reducible refine Kd.C_drew ?_))); (case side2 => exact HC1.out); (case side3 => repeat (first | exact (Kd.C_below HR2.out (hq_ HB)) | (with_reducible refine Kd.C_alloc ?_ _) | (with_reducible refine Kd.C_drewN ?_ _) | (with_reducible refine Kd.C_drew ?_))); (case side4 => exact HC2.out); rintro e w' ⟨rfl, ⟨nd, rfl⟩⟩; (try first | exact ⟨rfl, _, World.drewN_drewN _ _ _⟩ | exact ⟨rfl, _, Eq.trans (World.drewN_drewN _ _ _) (congrArg (World.drewN _) (Nat.add_assoc _ _ _))⟩))); try go_wp2_with (first | (go_at_call 10; (with_reducible refine (spigotref04_Great.calls _ _ l0 false _ ?side1 ?side2 A5.out).mono ?_); (case side1 => exact cs_ HR0 HB); (case side2 => exact HC0.out); rintro e w' ⟨rfl, ⟨nd, rfl⟩⟩; (try first | exact ⟨rfl, _, World.drewN_drewN _ _ _⟩ | exact ⟨rfl, _, Eq.trans (World.drewN_drewN _ _ _) (congrArg (World.drewN _) (Nat.add_assoc _ _ _))⟩)) | (go_at_call 11; (with_reducible refine (spigotref04_Long.calls _ _ l1 _ _ l2 t270 _ ?side1 ?side2 ?side3 ?side4 A7.out).mono ?_); (case side1 => repeat (first | exact (Kd.C_below HR1.out (hq_ HB)) | (with_reducible refine Kd.C_alloc ?_ _) | (with_reducible refine Kd.C_drewN ?_ _) | (with_reducible refine Kd.C_drew ?_))); (case side2 => exact HC1.out); (case side3 => repeat (first | exact (Kd.C_below HR2.out (hq_ HB)) | (with_reducible refine Kd.C_alloc ?_ _) | (with_reducible refine Kd.C_drewN ?_ _) | (with_reducible refine Kd.C_drew ?_))); (case side4 => exact HC2.out); rintro e w' ⟨rfl, ⟨nd, rfl⟩⟩; (try first | exact ⟨rfl, _, World.drewN_drewN _ _ _⟩ | exact ⟨rfl, _, Eq.trans (World.drewN_drewN _ _ _) (congrArg (World.drewN _) (Nat.add_assoc _ _ _))⟩))))
   go_meet
   case rel => exact ⟨_, (t270), rf_, H', al_, bw_⟩
 case rest =>
  clear HC4
  try clear c1
  try clear c2
  obtain ⟨kq, x21_3, rfl, HA, HJ3, HB⟩ := hcut
  cases kq with
  | zero => exact absurd HA.out (by simp [spigotlaw04_LevelsRuns.j0])
  | succ kj3 =>
   have H := HA.out
   clear HA
   simp only [spigotlaw04_LevelsRuns.j0] at H
   by_cases c8 : x21_3 = true
   ·subst c8
    replace H : (some true) = some r := by rw [if_pos rfl] at H; exact H
    obtain rfl := Option.some.inj H
    go_wp2
    repeat (go_quiet (fail); try go_wp2)
    go_ret
    exact fi_
   ·replace c8 := Bool.eq_false_iff.mpr c8
    subst c8
    rw [if_neg (show ¬ (false = true) by decide)] at H
    try dsimp only at H
    obtain ⟨y271, hy271⟩ : ∃ y_ : List (S37), y_ = (([] : List (S37))) := ⟨_, rfl⟩
    replace H : (if y271.length + l0.length < 2932031007402 then ((levels_Run.f kj3 l0 l1 l2).bind fun bt277 => ((spigotref04_Run.f kj3 l0 l1 l2).bind fun bt284 => (spigotlaw04_LevelsRuns.l0 kj3 l0 (y271 ++ l0) bt277.1 bt277.2.1 bt277.2.2 bt284.1 bt284.2.1 bt284.2.2 0))) else (none)) = some r := by first | (rw [hy271]; with_reducible exact H) | (have H2_ := (Option.bind_some _ _).symm.trans H; rw [hy271]; with_reducible exact H2_) | (have H2_ := (Option.bind_some _ _).symm.trans H; with_reducible exact H2_) | with_reducible exact H | (rw [hy271]; exact H) | exact H
    have Ny271 := Aside0.mk hy271
    clear hy271
    by_cases c9 : y271.length + l0.length < 2932031007402
    rotate_left
    ·rw [if_neg c9] at H; exact absurd H (by simp)
    rw [if_pos c9] at H
    have LMc9 := Aside0.mk c9
    clear c9
    obtain ⟨y274, hy274⟩ : ∃ y_ : List (S37), y_ = (y271 ++ l0) := ⟨_, rfl⟩
    replace H : ((levels_Run.f kj3 l0 l1 l2).bind fun bt277 => ((spigotref04_Run.f kj3 l0 l1 l2).bind fun bt284 => (spigotlaw04_LevelsRuns.l0 kj3 l0 y274 bt277.1 bt277.2.1 bt277.2.2 bt284.1 bt284.2.1 bt284.2.2 0))) = some r := by first | (rw [hy274]; with_reducible exact H) | (have H2_ := (Option.bind_some _ _).symm.trans H; rw [hy274]; with_reducible exact H2_) | (have H2_ := (Option.bind_some _ _).symm.trans H; with_reducible exact H2_) | with_reducible exact H | (rw [hy274]; exact H) | exact H
    have Ny274 := Aside0.mk hy274
    clear hy274
    obtain ⟨⟨t277, t278, t279⟩, A10, H⟩ := bo_ H
    replace H : ((spigotref04_Run.f kj3 l0 l1 l2).bind fun bt284 => (spigotlaw04_LevelsRuns.l0 kj3 l0 y274 t277 t278 t279 bt284.1 bt284.2.1 bt284.2.2 0)) = some r := H
    obtain ⟨⟨t284, t285, t286⟩, A11, H⟩ := bo_ H
    replace H : (spigotlaw04_LevelsRuns.l0 kj3 l0 y274 t277 t278 t279 t284 t285 t286 0) = some r := H
    have H' := Aside0.mk H
    clear H
    go_wp2_with (first | ((with_reducible refine gate_dst (N := 22) rfl ?_); (try refine ug_ (by rfl) ?_); refine Kd.R_lit k37 _ 37 ?hg (N := 22) ?hd (xs := ([] : List (S37))) (inner := []) (ok := fun _ => True) (okp := fun _ => True) ?hr ?hp (fun _ hk => hk) trivial (Below.refl _ _) (Nat.le_refl _) (by simp) ?_; (case hd => rfl); (case hg => rfl); (case hr => first | (go_simp; done) | (go_simp; rfl)); (case hp => exact (Reps.none _ _)); intro v272 w12 ho13 hb hg_ hnew_; clear hg_ hnew_; (first | rw [← Ny271.out] at ho13 | (simp only [Int.reduceToNat] at ho13; rw [← Ny271.out] at ho13)); have HO273 := Aside0.mk (Kd.R_lower ho13 (below_size (hq_ HB))); replace HB := bs_ w hb; clear hb ho13) | ((with_reducible refine gate_builtin (b := .append) (xs := #[.tmp 22, .tmp 23]) rfl ?_); (try refine ug_ (by rfl) ?_); at_builtin; refine Kd.R_append_rows k37 (w0 := w) w.heap.size rfl (.tmp 22) (.tmp 23) 22 37 (.agg #[(.int .i64 0), (.int .i64 0), (.int .i64 0), (.int .i64 0), (.int .i64 0), (.int .u64 0)]) 48 rfl Try.underlying22 info37 rfl (by decide) (by omega) v272 y271 l0 _ _ _ (fun _ => True) (fun _ => False) rfl rfl ?aO ?aR (fun _ _ h => h) (fun _ h => h.elim) ?aF ?aB ?aS ?aL ?_; (case aR => exact cs_ HR0 HB); (case aB => exact (hq_ HB)); (case aF => exact (fun _ _ => trivial)); (case aO => exact (rs_ HO273)); (case aS => exact (below_size (hq_ HB))); (case aL => have := LMc9.out; omega); intro v275 w14 ho hb hg hat; rw [← Ny274.out] at ho; have HO276 := Aside0.mk (ho); replace HB := Aside0.mk (hb); clear HO273; clear ho hb hg hat) | (go_at_call 12; (with_reducible refine (levels_Run.calls kj3 _ _ l0 _ _ l1 _ _ l2 t277 t278 t279 _ ?side1 ?side2 ?side3 ?side4 ?side5 ?side6 A10.out).mono ?_); (case side1 => exact cs_ HR0 HB); (case side2 => exact HC0.out); (case side3 => exact cs_ HR1 HB); (case side4 => exact HC1.out); (case side5 => exact cs_ HR2 HB); (case side6 => exact HC2.out); rintro e w15 ⟨v280, v282, rfl, ho0, ho1, hb⟩; have HO281 := Aside0.mk (Kd.R_lower (Kd.R_new' ho0 (Kd.R_lt (rs_ HO276))) (below_size (hq_ HB))); have HO283 := Aside0.mk (Kd.R_lower ho1 (below_size (hq_ HB))); replace HO276 := Aside0.mk (Kd.R_elder' (rs_ HO276) (Kd.R_base ho0) hb); replace HB := bs_ w hb; (try clear hb); (try clear hb2); (try clear hk); (try clear hi); (try clear ho0); (try clear ho1)) | (go_at_call 13; (with_reducible refine (spigotref04_Run.calls kj3 _ _ l0 _ _ l1 _ _ l2 t284 t285 t286 _ ?side1 ?side2 ?side3 ?side4 ?side5 ?side6 A11.out).mono ?_); (case side1 => exact cs_ HR0 HB); (case side2 => exact HC0.out); (case side3 => exact cs_ HR1 HB); (case side4 => exact HC1.out); (case side5 => exact cs_ HR2 HB); (case side6 => exact HC2.out); rintro e w16 ⟨v287, v289, rfl, ho0, ho1, hb⟩; have HO288 := Aside0.mk (Kd.R_lower (Kd.R_new' (Kd.R_new' ho0 (Kd.R_lt (rs_ HO276))) (Kd.R_lt (rs_ HO281))) (below_size (hq_ HB))); have HO290 := Aside0.mk (Kd.R_lower (Kd.R_new' ho1 (Kd.R_lt (rs_ HO283))) (below_size (hq_ HB))); replace HO276 := Aside0.mk (Kd.R_elder' (rs_ HO276) (Kd.R_base ho0) hb); replace HO281 := Aside0.mk (Kd.R_elder' (rs_ HO281) (Kd.R_base ho0) hb); replace HO283 := Aside0.mk (Kd.R_elder' (rs_ HO283) (Kd.R_base ho1) hb); replace HB := bs_ w hb; (try clear hb); (try clear hb2); (try clear hk); (try clear hi); (try clear ho0); (try clear ho1)))
    repeat (go_quiet (first | ((with_reducible refine gate_dst (N := 22) rfl ?_); (try refine ug_ (by rfl) ?_); refine Kd.R_lit k37 _ 37 ?hg (N := 22) ?hd (xs := ([] : List (S37))) (inner := []) (ok := fun _ => True) (okp := fun _ => True) ?hr ?hp (fun _ hk => hk) trivial (Below.refl _ _) (Nat.le_refl _) (by simp) ?_; (case hd => rfl); (case hg => rfl); (case hr => first | (go_simp; done) | (go_simp; rfl)); (case hp => exact (Reps.none _ _)); intro v272 w12 ho13 hb hg_ hnew_; clear hg_ hnew_; (first | rw [← Ny271.out] at ho13 | (simp only [Int.reduceToNat] at ho13; rw [← Ny271.out] at ho13)); have HO273 := Aside0.mk (Kd.R_lower ho13 (below_size (hq_ HB))); replace HB := bs_ w hb; clear hb ho13) | ((with_reducible refine gate_builtin (b := .append) (xs := #[.tmp 22, .tmp 23]) rfl ?_); (try refine ug_ (by rfl) ?_); at_builtin; refine Kd.R_append_rows k37 (w0 := w) w.heap.size rfl (.tmp 22) (.tmp 23) 22 37 (.agg #[(.int .i64 0), (.int .i64 0), (.int .i64 0), (.int .i64 0), (.int .i64 0), (.int .u64 0)]) 48 rfl Try.underlying22 info37 rfl (by decide) (by omega) v272 y271 l0 _ _ _ (fun _ => True) (fun _ => False) rfl rfl ?aO ?aR (fun _ _ h => h) (fun _ h => h.elim) ?aF ?aB ?aS ?aL ?_; (case aR => exact cs_ HR0 HB); (case aB => exact (hq_ HB)); (case aF => exact (fun _ _ => trivial)); (case aO => exact (rs_ HO273)); (case aS => exact (below_size (hq_ HB))); (case aL => have := LMc9.out; omega); intro v275 w14 ho hb hg hat; rw [← Ny274.out] at ho; have HO276 := Aside0.mk (ho); replace HB := Aside0.mk (hb); clear HO273; clear ho hb hg hat) | (go_at_call 12; (with_reducible refine (levels_Run.calls kj3 _ _ l0 _ _ l1 _ _ l2 t277 t278 t279 _ ?side1 ?side2 ?side3 ?side4 ?side5 ?side6 A10.out).mono ?_); (case side1 => exact cs_ HR0 HB); (case side2 => exact HC0.out); (case side3 => exact cs_ HR1 HB); (case side4 => exact HC1.out); (case side5 => exact cs_ HR2 HB); (case side6 => exact HC2.out); rintro e w15 ⟨v280, v282, rfl, ho0, ho1, hb⟩; have HO281 := Aside0.mk (Kd.R_lower (Kd.R_new' ho0 (Kd.R_lt (rs_ HO276))) (below_size (hq_ HB))); have HO283 := Aside0.mk (Kd.R_lower ho1 (below_size (hq_ HB))); replace HO276 := Aside0.mk (Kd.R_elder' (rs_ HO276) (Kd.R_base ho0) hb); replace HB := bs_ w hb; (try clear hb); (try clear hb2); (try clear hk); (try clear hi); (try clear ho0); (try clear ho1)) | (go_at_call 13; (with_reducible refine (spigotref04_Run.calls kj3 _ _ l0 _ _ l1 _ _ l2 t284 t285 t286 _ ?side1 ?side2 ?side3 ?side4 ?side5 ?side6 A11.out).mono ?_); (case side1 => exact cs_ HR0 HB); (case side2 => exact HC0.out); (case side3 => exact cs_ HR1 HB); (case side4 => exact HC1.out); (case side5 => exact cs_ HR2 HB); (case side6 => exact HC2.out); rintro e w16 ⟨v287, v289, rfl, ho0, ho1, hb⟩; have HO288 := Aside0.mk (Kd.R_lower (Kd.R_new' (Kd.R_new' ho0 (Kd.R_lt (rs_ HO276))) (Kd.R_lt (rs_ HO281))) (below_size (hq_ HB))); have HO290 := Aside0.mk (Kd.R_lower (Kd.R_new' ho1 (Kd.R_lt (rs_ HO283))) (below_size (hq_ HB))); replace HO276 := Aside0.mk (Kd.R_elder' (rs_ HO276) (Kd.R_base ho0) hb); replace HO281 := Aside0.mk (Kd.R_elder' (rs_ HO281) (Kd.R_base ho0) hb); replace HO283 := Aside0.mk (Kd.R_elder' (rs_ HO283) (Kd.R_base ho1) hb); replace HB := bs_ w hb; (try clear hb); (try clear hb2); (try clear hk); (try clear hi); (try clear ho0); (try clear ho1))); try go_wp2_with (first | ((with_reducible refine gate_dst (N := 22) rfl ?_); (try refine ug_ (by rfl) ?_); refine Kd.R_lit k37 _ 37 ?hg (N := 22) ?hd (xs := ([] : List (S37))) (inner := []) (ok := fun _ => True) (okp := fun _ => True) ?hr ?hp (fun _ hk => hk) trivial (Below.refl _ _) (Nat.le_refl _) (by simp) ?_; (case hd => rfl); (case hg => rfl); (case hr => first | (go_simp; done) | (go_simp; rfl)); (case hp => exact (Reps.none _ _)); intro v272 w12 ho13 hb hg_ hnew_; clear hg_ hnew_; (first | rw [← Ny271.out] at ho13 | (simp only [Int.reduceToNat] at ho13; rw [← Ny271.out] at ho13)); have HO273 := Aside0.mk (Kd.R_lower ho13 (below_size (hq_ HB))); replace HB := bs_ w hb; clear hb ho13) | ((with_reducible refine gate_builtin (b := .append) (xs := #[.tmp 22, .tmp 23]) rfl ?_); (try refine ug_ (by rfl) ?_); at_builtin; refine Kd.R_append_rows k37 (w0 := w) w.heap.size rfl (.tmp 22) (.tmp 23) 22 37 (.agg #[(.int .i64 0), (.int .i64 0), (.int .i64 0), (.int .i64 0), (.int .i64 0), (.int .u64 0)]) 48 rfl Try.underlying22 info37 rfl (by decide) (by omega) v272 y271 l0 _ _ _ (fun _ => True) (fun _ => False) rfl rfl ?aO ?aR (fun _ _ h => h) (fun _ h => h.elim) ?aF ?aB ?aS ?aL ?_; (case aR => exact cs_ HR0 HB); (case aB => exact (hq_ HB)); (case aF => exact (fun _ _ => trivial)); (case aO => exact (rs_ HO273)); (case aS => exact (below_size (hq_ HB))); (case aL => have := LMc9.out; omega); intro v275 w14 ho hb hg hat; rw [← Ny274.out] at ho; have HO276 := Aside0.mk (ho); replace HB := Aside0.mk (hb); clear HO273; clear ho hb hg hat) | (go_at_call 12; (with_reducible refine (levels_Run.calls kj3 _ _ l0 _ _ l1 _ _ l2 t277 t278 t279 _ ?side1 ?side2 ?side3 ?side4 ?side5 ?side6 A10.out).mono ?_); (case side1 => exact cs_ HR0 HB); (case side2 => exact HC0.out); (case side3 => exact cs_ HR1 HB); (case side4 => exact HC1.out); (case side5 => exact cs_ HR2 HB); (case side6 => exact HC2.out); rintro e w15 ⟨v280, v282, rfl, ho0, ho1, hb⟩; have HO281 := Aside0.mk (Kd.R_lower (Kd.R_new' ho0 (Kd.R_lt (rs_ HO276))) (below_size (hq_ HB))); have HO283 := Aside0.mk (Kd.R_lower ho1 (below_size (hq_ HB))); replace HO276 := Aside0.mk (Kd.R_elder' (rs_ HO276) (Kd.R_base ho0) hb); replace HB := bs_ w hb; (try clear hb); (try clear hb2); (try clear hk); (try clear hi); (try clear ho0); (try clear ho1)) | (go_at_call 13; (with_reducible refine (spigotref04_Run.calls kj3 _ _ l0 _ _ l1 _ _ l2 t284 t285 t286 _ ?side1 ?side2 ?side3 ?side4 ?side5 ?side6 A11.out).mono ?_); (case side1 => exact cs_ HR0 HB); (case side2 => exact HC0.out); (case side3 => exact cs_ HR1 HB); (case side4 => exact HC1.out); (case side5 => exact cs_ HR2 HB); (case side6 => exact HC2.out); rintro e w16 ⟨v287, v289, rfl, ho0, ho1, hb⟩; have HO288 := Aside0.mk (Kd.R_lower (Kd.R_new' (Kd.R_new' ho0 (Kd.R_lt (rs_ HO276))) (Kd.R_lt (rs_ HO281))) (below_size (hq_ HB))); have HO290 := Aside0.mk (Kd.R_lower (Kd.R_new' ho1 (Kd.R_lt (rs_ HO283))) (below_size (hq_ HB))); replace HO276 := Aside0.mk (Kd.R_elder' (rs_ HO276) (Kd.R_base ho0) hb); replace HO281 := Aside0.mk (Kd.R_elder' (rs_ HO281) (Kd.R_base ho0) hb); replace HO283 := Aside0.mk (Kd.R_elder' (rs_ HO283) (Kd.R_base ho1) hb); replace HB := bs_ w hb; (try clear hb); (try clear hb2); (try clear hk); (try clear hi); (try clear ho0); (try clear ho1))))
    go_loopg [14] kj3 (fun kq v14 w' => ∃ (x8_2 : List (S37)) (x14_2 : Int), v14 = .int .i64 x14_2 ∧ Aside0 (spigotlaw04_LevelsRuns.l0 kq l0 y274 x8_2 t278 t279 t284 t285 t286 x14_2 = some r) ∧ Aside0 (kq ≤ kj3) ∧ Aside0 (Kd.R k37 37 w' w.heap.size (fun k_ => some k_ ≠ (v280 : Value).ownBlock ∧ some k_ ≠ (v287 : Value).ownBlock) v275 y274) ∧ Aside0 (Kd.R k37 37 w' w.heap.size (fun k_ => some k_ ≠ (v275 : Value).ownBlock ∧ some k_ ≠ (v287 : Value).ownBlock) v280 x8_2) ∧ Aside0 (Kd.R Kd.bool 4 w' w.heap.size (fun k_ => some k_ ≠ (v289 : Value).ownBlock) v282 t278) ∧ Aside0 (Kd.R k37 37 w' w.heap.size (fun k_ => some k_ ≠ (v275 : Value).ownBlock ∧ some k_ ≠ (v280 : Value).ownBlock) v287 t284) ∧ Aside0 (Kd.R Kd.bool 4 w' w.heap.size (fun k_ => some k_ ≠ (v282 : Value).ownBlock) v289 t285) ∧ Aside0 (Below w.heap.size w w'))
    case atStart => exact ⟨(t277), (0), rf_, H', ⟨Nat.le_refl _⟩, ⟨by (with_reducible repeat (first | apply Kd.R_alloc | apply Kd.R_drewN | apply Kd.R_drew)); exact Kd.R_mono HO276.out (fun _ hk => ⟨hk.1.2, hk.2⟩)⟩, ⟨by (with_reducible repeat (first | apply Kd.R_alloc | apply Kd.R_drewN | apply Kd.R_drew)); exact Kd.R_mono HO281.out (fun _ hk => ⟨hk.1.2, hk.2⟩)⟩, ⟨by (with_reducible repeat (first | apply Kd.R_alloc | apply Kd.R_drewN | apply Kd.R_drew)); exact Kd.R_mono HO283.out (fun _ hk => hk.2)⟩, ⟨by (with_reducible repeat (first | apply Kd.R_alloc | apply Kd.R_drewN | apply Kd.R_drew)); exact Kd.R_mono HO288.out (fun _ hk => ⟨hk.1.2, hk.2⟩)⟩, ⟨by (with_reducible repeat (first | apply Kd.R_alloc | apply Kd.R_drewN | apply Kd.R_drew)); exact Kd.R_mono HO290.out (fun _ hk => hk.2)⟩, bw_⟩
    case round =>
     clear H'
     try clear c1
     try clear c2
     try clear c8
     try clear c9
     obtain ⟨x8_2, x14_2, rfl, HA, HK2, HO_7, HO_8, HO_9, HO_11, HO_12, HB⟩ := hrel
     cases gk with
     | zero => exact absurd HA.out (by simp [spigotlaw04_LevelsRuns.l0])
     | succ k2 =>
      have H := HA.out
      clear HA
      simp only [spigotlaw04_LevelsRuns.l0] at H
      by_cases c17 : x14_2 < (x8_2.length : Int)
      ·rw [if_pos c17] at H
       have c17b0 : decide (x14_2 < (x8_2.length : Int)) = true := decide_eq_true c17
       clear c17
       by_cases c18 : x14_2 < (t284.length : Int)
       ·rw [if_pos c18] at H
        have c18b0 : decide (x14_2 < (t284.length : Int)) = true := decide_eq_true c18
        clear c18
        by_cases c19 : 0 ≤ x14_2
        rotate_left
        ·rw [if_neg c19] at H; exact absurd H (by simp)
        rw [if_pos c19] at H
        have c19b0 : decide (0 ≤ x14_2) = true := decide_eq_true c19
        clear c19
        by_cases c20 : ((!(((rd_T37 x8_2 x14_2).f0.f0) == ((rd_T37 t284 x14_2).f0.f0)) || (!(((rd_T37 x8_2 x14_2).f0.f1) == ((rd_T37 t284 x14_2).f0.f1)) || (!(((rd_T37 x8_2 x14_2).f0.f2) == ((rd_T37 t284 x14_2).f0.f2))))) || (!(((rd_T37 x8_2 x14_2).f1) == ((rd_T37 t284 x14_2).f1)) || (!(((rd_T37 x8_2 x14_2).f2) == ((rd_T37 t284 x14_2).f2)) || (!(((rd_T37 x8_2 x14_2).f3) == ((rd_T37 t284 x14_2).f3)))))) = true
        ·rw [if_pos c20] at H; exact absurd H (by simp)
        rw [if_neg c20] at H
        have c20b0 : ((!(((rd_T37 x8_2 x14_2).f0.f0) == ((rd_T37 t284 x14_2).f0.f0)) || (!(((rd_T37 x8_2 x14_2).f0.f1) == ((rd_T37 t284 x14_2).f0.f1)) || (!(((rd_T37 x8_2 x14_2).f0.f2) == ((rd_T37 t284 x14_2).f0.f2))))) || (!(((rd_T37 x8_2 x14_2).f1) == ((rd_T37 t284 x14_2).f1)) || (!(((rd_T37 x8_2 x14_2).f2) == ((rd_T37 t284 x14_2).f2)) || (!(((rd_T37 x8_2 x14_2).f3) == ((rd_T37 t284 x14_2).f3)))))) = false := by simpa using c20
        clear c20
        obtain ⟨y293, hy293⟩ : ∃ y_ : List (S37), y_ = (x8_2.set (x14_2 : Int).toNat (⟨(⟨(rd_T37 x8_2 x14_2).f0.f0, (rd_T37 x8_2 x14_2).f0.f1, (rd_T37 x8_2 x14_2).f0.f2⟩ : S34), (-1), (rd_T37 x8_2 x14_2).f2, (rd_T37 x8_2 x14_2).f3⟩ : S37)) := ⟨_, rfl⟩
        replace H : (spigotlaw04_LevelsRuns.l0 k2 l0 y274 y293 t278 t279 t284 t285 t286 (wrap64 (x14_2 + 1))) = some r := by first | (rw [hy293]; with_reducible exact H) | (have H2_ := (Option.bind_some _ _).symm.trans H; rw [hy293]; with_reducible exact H2_) | (have H2_ := (Option.bind_some _ _).symm.trans H; with_reducible exact H2_) | with_reducible exact H | (rw [hy293]; exact H) | exact H
        have Ny293 := Aside0.mk hy293
        clear hy293
        have H' := Aside0.mk H
        clear H
        obtain ⟨Ao22, co22, eo22⟩ := Kd.R_slice HO_8.out
        subst eo22
        obtain ⟨Ao23, co23, eo23⟩ := Kd.R_slice HO_11.out
        subst eo23
        have p291 : 0 ≤ (x14_2 : Int) := of_decide_eq_true (by first | (with_reducible assumption) | assumption)
        have q291 : x14_2 < (x8_2.length : Int) := of_decide_eq_true (by first | (with_reducible assumption) | assumption)
        obtain ⟨ad291, e291, hx291_0, hx291_1, hx291_2, hx291_3, hx291_4, hx291_5⟩ := at_T37 (Kd.R_reads' HO_8.out).2.2 x14_2 p291 q291
        cases e291
        replace p291 := eq_true p291
        replace q291 := eq_true q291
        have p292 : 0 ≤ (x14_2 : Int) := of_decide_eq_true (by first | (with_reducible assumption) | assumption)
        have q292 : x14_2 < (t284.length : Int) := of_decide_eq_true (by first | (with_reducible assumption) | assumption)
        obtain ⟨ad292, e292, hx292_0, hx292_1, hx292_2, hx292_3, hx292_4, hx292_5⟩ := at_T37 (Kd.R_reads' HO_11.out).2.2 x14_2 p292 q292
        cases e292
        replace p292 := eq_true p292
        replace q292 := eq_true q292
        have p21 : 0 ≤ (x14_2 : Int) := of_decide_eq_true (by first | (with_reducible assumption) | assumption)
        have q21 : (x14_2 : Int) < ((x8_2.length : Int) : Int) := of_decide_eq_true (by first | (with_reducible assumption) | assumption)
        obtain ⟨go21, co21, eo21, gb21, gl21, cl21, HG21⟩ := Kd.R_form HO_8.out (by omega)
        (first | cases eo21 | (injection eo21 with ea_ en_ ec_; (first | subst ea_ | (injection ea_ with ea_; subst ea_)); subst ec_; clear en_))
        have GB21 := Aside0.mk gb21
        have GG21 := Aside0.mk HG21
        clear gb21 gl21 HG21
        (first | simp only [add_plain] at hx291_0 | skip)
        (first | simp only [add_plain] at hx291_1 | skip)
        (first | simp only [add_plain] at hx291_2 | skip)
        (first | simp only [add_plain] at hx291_3 | skip)
        (first | simp only [add_plain] at hx291_4 | skip)
        (first | simp only [add_plain] at hx291_5 | skip)
        obtain ⟨ce21, hcl21, hM21, hcc21, hfr21⟩ := Kd.R_elem HO_8.out z37 (x14_2 : Int) p21 q21
        obtain rfl := k37_openM hM21
        have hx21_0 : wr.cell? ⟨go21, (x14_2 : Int).toNat * 6, none⟩ = some (.int .i64 ((rd_T37 x8_2 x14_2).f0.f0)) := hcc21 0 _ rfl
        have hx21_1 : wr.cell? ⟨go21, (x14_2 : Int).toNat * 6 + 1, none⟩ = some (.int .i64 ((rd_T37 x8_2 x14_2).f0.f1)) := hcc21 1 _ rfl
        have hx21_2 : wr.cell? ⟨go21, (x14_2 : Int).toNat * 6 + 2, none⟩ = some (.int .i64 ((rd_T37 x8_2 x14_2).f0.f2)) := hcc21 2 _ rfl
        have hx21_3 : wr.cell? ⟨go21, (x14_2 : Int).toNat * 6 + 3, none⟩ = some (.int .i64 ((rd_T37 x8_2 x14_2).f1)) := hcc21 3 _ rfl
        have hx21_4 : wr.cell? ⟨go21, (x14_2 : Int).toNat * 6 + 4, none⟩ = some (.int .i64 ((rd_T37 x8_2 x14_2).f2)) := hcc21 4 _ rfl
        have hx21_5 : wr.cell? ⟨go21, (x14_2 : Int).toNat * 6 + 5, none⟩ = some (.int .u64 ((rd_T37 x8_2 x14_2).f3)) := hcc21 5 _ rfl
        have hf21_0 : wr.frozen? ⟨go21, (x14_2 : Int).toNat * 6, none⟩ = false := hfr21 0
        have hf21_1 : wr.frozen? ⟨go21, (x14_2 : Int).toNat * 6 + 1, none⟩ = false := hfr21 1
        have hf21_2 : wr.frozen? ⟨go21, (x14_2 : Int).toNat * 6 + 2, none⟩ = false := hfr21 2
        have hf21_3 : wr.frozen? ⟨go21, (x14_2 : Int).toNat * 6 + 3, none⟩ = false := hfr21 3
        have hf21_4 : wr.frozen? ⟨go21, (x14_2 : Int).toNat * 6 + 4, none⟩ = false := hfr21 4
        have hf21_5 : wr.frozen? ⟨go21, (x14_2 : Int).toNat * 6 + 5, none⟩ = false := hfr21 5
        clear hcl21 hcc21 hfr21 hM21
        replace p21 := eq_true p21
        replace q21 := eq_true q21
        have HX24 := Aside0.mk (show Kd.R k37 37 wr w.heap.size (fun k_ => some k_ ≠ (v275 : Value).ownBlock ∧ some k_ ≠ (.slice (some ad292) t284.length co23 : Value).ownBlock) (.slice (some ⟨go21, 0, none⟩) x8_2.length co22) x8_2 from (rs_ HO_8))
        obtain ⟨ce24, hcl24, hM24, hcc24, hfr24⟩ := Kd.R_elem HX24.out z37 (x14_2 : Int) (of_decide_eq_true (by first | (with_reducible assumption) | assumption)) (by have h_ : (x14_2 : Int) < ((x8_2.length : Int) : Int) := of_decide_eq_true (by first | (with_reducible assumption) | assumption); first | exact h_ | (have e_ := (Kd.R_reads' HO_8.out).1; omega) | simpa using h_)
        obtain rfl := k37_openM hM24
        have HP24 := Kd.R_seg HX24.out (x14_2 : Int) (of_decide_eq_true (by first | (with_reducible assumption) | assumption)) (by have h_ : (x14_2 : Int) < ((x8_2.length : Int) : Int) := of_decide_eq_true (by first | (with_reducible assumption) | assumption); first | exact h_ | (have e_ := (Kd.R_reads' HO_8.out).1; omega) | simpa using h_) (seg := [.int .i64 (-1)]) (j := 3) hcl24 hcc24 (show 4 ≤ 6 from by decide) (x' := (⟨(⟨(rd_T37 x8_2 x14_2).f0.f0, (rd_T37 x8_2 x14_2).f0.f1, (rd_T37 x8_2 x14_2).f0.f2⟩ : S34), (-1), (rd_T37 x8_2 x14_2).f2, (rd_T37 x8_2 x14_2).f3⟩ : S37)) (k37_mkM _ _ _ (⟨(⟨(rd_T37 x8_2 x14_2).f0.f0, (rd_T37 x8_2 x14_2).f0.f1, (rd_T37 x8_2 x14_2).f0.f2⟩ : S34), (-1), (rd_T37 x8_2 x14_2).f2, (rd_T37 x8_2 x14_2).f3⟩ : S37) ) (fun _ hk => hk)
        have hx24_3 := hcc24 3 _ rfl
        (try simp only [show (k37).sz = 6 from rfl, Nat.mul_one, Nat.add_zero] at hx24_3)
        have hf24_3 := hfr24 3
        (try simp only [show (k37).sz = 6 from rfl, Nat.mul_one, Nat.add_zero] at hf24_3)
        clear hcl24 hcc24 hfr24 hM24
        go_wp2_with (first | ((with_reducible refine gate_store (t := 2) (p := 65) rfl ?_); (try ((first | generalize hq_ : World.drewN wr _ = wr | (rw [drewN_self wr]; generalize hq_ : World.drewN wr _ = wr)); replace HO_7 := Aside0.mk (Kd.R_at hq_ HO_7.out); replace HO_8 := Aside0.mk (Kd.R_at hq_ HO_8.out); replace HO_9 := Aside0.mk (Kd.R_at hq_ HO_9.out); replace HO_11 := Aside0.mk (Kd.R_at hq_ HO_11.out); replace HO_12 := Aside0.mk (Kd.R_at hq_ HO_12.out); replace HB := Aside0.mk (below_at hq_ HB.out); clear hq_; (try (have HX24 := Aside0.mk (show Kd.R k37 37 wr w.heap.size (fun k_ => some k_ ≠ (v275 : Value).ownBlock ∧ some k_ ≠ (.slice (some ad292) t284.length co23 : Value).ownBlock) (.slice (some ⟨go21, 0, none⟩) x8_2.length co22) x8_2 from (rs_ HO_8)))); (try (obtain ⟨ce24, hcl24, hM24, hcc24, hfr24⟩ := Kd.R_elem HX24.out z37 (x14_2 : Int) (of_decide_eq_true (by first | (with_reducible assumption) | assumption)) (by have h_ : (x14_2 : Int) < ((x8_2.length : Int) : Int) := of_decide_eq_true (by first | (with_reducible assumption) | assumption); first | exact h_ | (have e_ := (Kd.R_reads' HO_8.out).1; omega) | simpa using h_))); (try (obtain rfl := k37_openM hM24)); (try (have HP24 := Kd.R_seg HX24.out (x14_2 : Int) (of_decide_eq_true (by first | (with_reducible assumption) | assumption)) (by have h_ : (x14_2 : Int) < ((x8_2.length : Int) : Int) := of_decide_eq_true (by first | (with_reducible assumption) | assumption); first | exact h_ | (have e_ := (Kd.R_reads' HO_8.out).1; omega) | simpa using h_) (seg := [.int .i64 (-1)]) (j := 3) hcl24 hcc24 (show 4 ≤ 6 from by decide) (x' := (⟨(⟨(rd_T37 x8_2 x14_2).f0.f0, (rd_T37 x8_2 x14_2).f0.f1, (rd_T37 x8_2 x14_2).f0.f2⟩ : S34), (-1), (rd_T37 x8_2 x14_2).f2, (rd_T37 x8_2 x14_2).f3⟩ : S37)) (k37_mkM _ _ _ (⟨(⟨(rd_T37 x8_2 x14_2).f0.f0, (rd_T37 x8_2 x14_2).f0.f1, (rd_T37 x8_2 x14_2).f0.f2⟩ : S34), (-1), (rd_T37 x8_2 x14_2).f2, (rd_T37 x8_2 x14_2).f3⟩ : S37) ) (fun _ hk => hk))); (try (have hx24_3 := hcc24 3 _ rfl)); (try (try simp only [show (k37).sz = 6 from rfl, Nat.mul_one, Nat.add_zero] at hx24_3)); (try (have hf24_3 := hfr24 3)); (try (try simp only [show (k37).sz = 6 from rfl, Nat.mul_one, Nat.add_zero] at hf24_3)); (try (clear hcl24 hcc24 hfr24 hM24)))); refine store_event (t := 2) (p := 65) (v := ?vo_w25) (w1 := (wr.setCell ⟨go21, (x14_2 : Int).toNat * 6 + 3, none⟩ (.int .i64 (-1)))) ?hg ?ho ?hn ?hr ?_; (case ho => rfl); (case hg => rfl); (case hn => rfl); (case hr => first | (go_simp; done) | (go_simp; rfl)); intro w25 hw; have hg : wr.grownBy w25 (some go21) := (by rw [hw]; exact HP24.2); have hp_ : Kd.R k37 37 w25 w.heap.size (fun k_ => some k_ ≠ (v275 : Value).ownBlock ∧ some k_ ≠ (.slice (some ad292) t284.length co23 : Value).ownBlock) (.slice (some ⟨go21, 0, none⟩) x8_2.length co22) y293 := (by rw [hw, Ny293.out]; exact HP24.1); clear HP24; replace HO_7 := Aside0.mk (Kd.R_after (v := (.slice (some ⟨go21, 0, none⟩) x8_2.length co22)) (v1 := (.slice (some ⟨go21, 0, none⟩) x8_2.length co22)) (ok := (fun k_ => some k_ ≠ (.slice (some ad292) t284.length co23 : Value).ownBlock)) (by (with_reducible repeat (first | apply Kd.R_alloc | apply Kd.R_drewN | apply Kd.R_drew)); exact Kd.R_mono HO_7.out (fun _ hk => ⟨hk.2, hk.1⟩)) hg (.inl rfl)); replace HO_9 := Aside0.mk (Kd.R_over' (v := (.slice (some ⟨go21, 0, none⟩) x8_2.length co22)) (rs_ HO_9) (Kd.R_typed HO_8.out) (by decide) hg); replace HO_11 := Aside0.mk (Kd.R_after (v := (.slice (some ⟨go21, 0, none⟩) x8_2.length co22)) (v1 := (.slice (some ⟨go21, 0, none⟩) x8_2.length co22)) (ok := (fun k_ => some k_ ≠ (v275 : Value).ownBlock)) (rs_ HO_11) hg (.inl rfl)); replace HO_12 := Aside0.mk (Kd.R_over' (v := (.slice (some ⟨go21, 0, none⟩) x8_2.length co22)) (rs_ HO_12) (Kd.R_typed HO_8.out) (by decide) hg); replace HO_8 := Aside0.mk (hp_); replace HB := Aside0.mk ((by rw [hw]; exact below_set (HB.out) GB21.out : Below w.heap.size w w25)); clear hg hw hp_))
        repeat (go_quiet (first | ((with_reducible refine gate_store (t := 2) (p := 65) rfl ?_); (try ((first | generalize hq_ : World.drewN wr _ = wr | (rw [drewN_self wr]; generalize hq_ : World.drewN wr _ = wr)); replace HO_7 := Aside0.mk (Kd.R_at hq_ HO_7.out); replace HO_8 := Aside0.mk (Kd.R_at hq_ HO_8.out); replace HO_9 := Aside0.mk (Kd.R_at hq_ HO_9.out); replace HO_11 := Aside0.mk (Kd.R_at hq_ HO_11.out); replace HO_12 := Aside0.mk (Kd.R_at hq_ HO_12.out); replace HB := Aside0.mk (below_at hq_ HB.out); clear hq_; (try (have HX24 := Aside0.mk (show Kd.R k37 37 wr w.heap.size (fun k_ => some k_ ≠ (v275 : Value).ownBlock ∧ some k_ ≠ (.slice (some ad292) t284.length co23 : Value).ownBlock) (.slice (some ⟨go21, 0, none⟩) x8_2.length co22) x8_2 from (rs_ HO_8)))); (try (obtain ⟨ce24, hcl24, hM24, hcc24, hfr24⟩ := Kd.R_elem HX24.out z37 (x14_2 : Int) (of_decide_eq_true (by first | (with_reducible assumption) | assumption)) (by have h_ : (x14_2 : Int) < ((x8_2.length : Int) : Int) := of_decide_eq_true (by first | (with_reducible assumption) | assumption); first | exact h_ | (have e_ := (Kd.R_reads' HO_8.out).1; omega) | simpa using h_))); (try (obtain rfl := k37_openM hM24)); (try (have HP24 := Kd.R_seg HX24.out (x14_2 : Int) (of_decide_eq_true (by first | (with_reducible assumption) | assumption)) (by have h_ : (x14_2 : Int) < ((x8_2.length : Int) : Int) := of_decide_eq_true (by first | (with_reducible assumption) | assumption); first | exact h_ | (have e_ := (Kd.R_reads' HO_8.out).1; omega) | simpa using h_) (seg := [.int .i64 (-1)]) (j := 3) hcl24 hcc24 (show 4 ≤ 6 from by decide) (x' := (⟨(⟨(rd_T37 x8_2 x14_2).f0.f0, (rd_T37 x8_2 x14_2).f0.f1, (rd_T37 x8_2 x14_2).f0.f2⟩ : S34), (-1), (rd_T37 x8_2 x14_2).f2, (rd_T37 x8_2 x14_2).f3⟩ : S37)) (k37_mkM _ _ _ (⟨(⟨(rd_T37 x8_2 x14_2).f0.f0, (rd_T37 x8_2 x14_2).f0.f1, (rd_T37 x8_2 x14_2).f0.f2⟩ : S34), (-1), (rd_T37 x8_2 x14_2).f2, (rd_T37 x8_2 x14_2).f3⟩ : S37) ) (fun _ hk => hk))); (try (have hx24_3 := hcc24 3 _ rfl)); (try (try simp only [show (k37).sz = 6 from rfl, Nat.mul_one, Nat.add_zero] at hx24_3)); (try (have hf24_3 := hfr24 3)); (try (try simp only [show (k37).sz = 6 from rfl, Nat.mul_one, Nat.add_zero] at hf24_3)); (try (clear hcl24 hcc24 hfr24 hM24)))); refine store_event (t := 2) (p := 65) (v := ?vo_w25) (w1 := (wr.setCell ⟨go21, (x14_2 : Int).toNat * 6 + 3, none⟩ (.int .i64 (-1)))) ?hg ?ho ?hn ?hr ?_; (case ho => rfl); (case hg => rfl); (case hn => rfl); (case hr => first | (go_simp; done) | (go_simp; rfl)); intro w25 hw; have hg : wr.grownBy w25 (some go21) := (by rw [hw]; exact HP24.2); have hp_ : Kd.R k37 37 w25 w.heap.size (fun k_ => some k_ ≠ (v275 : Value).ownBlock ∧ some k_ ≠ (.slice (some ad292) t284.length co23 : Value).ownBlock) (.slice (some ⟨go21, 0, none⟩) x8_2.length co22) y293 := (by rw [hw, Ny293.out]; exact HP24.1); clear HP24; replace HO_7 := Aside0.mk (Kd.R_after (v := (.slice (some ⟨go21, 0, none⟩) x8_2.length co22)) (v1 := (.slice (some ⟨go21, 0, none⟩) x8_2.length co22)) (ok := (fun k_ => some k_ ≠ (.slice (some ad292) t284.length co23 : Value).ownBlock)) (by (with_reducible repeat (first | apply Kd.R_alloc | apply Kd.R_drewN | apply Kd.R_drew)); exact Kd.R_mono HO_7.out (fun _ hk => ⟨hk.2, hk.1⟩)) hg (.inl rfl)); replace HO_9 := Aside0.mk (Kd.R_over' (v := (.slice (some ⟨go21, 0, none⟩) x8_2.length co22)) (rs_ HO_9) (Kd.R_typed HO_8.out) (by decide) hg); replace HO_11 := Aside0.mk (Kd.R_after (v := (.slice (some ⟨go21, 0, none⟩) x8_2.length co22)) (v1 := (.slice (some ⟨go21, 0, none⟩) x8_2.length co22)) (ok := (fun k_ => some k_ ≠ (v275 : Value).ownBlock)) (rs_ HO_11) hg (.inl rfl)); replace HO_12 := Aside0.mk (Kd.R_over' (v := (.slice (some ⟨go21, 0, none⟩) x8_2.length co22)) (rs_ HO_12) (Kd.R_typed HO_8.out) (by decide) hg); replace HO_8 := Aside0.mk (hp_); replace HB := Aside0.mk ((by rw [hw]; exact below_set (HB.out) GB21.out : Below w.heap.size w w25)); clear hg hw hp_)); try go_wp2_with (first | ((with_reducible refine gate_store (t := 2) (p := 65) rfl ?_); (try ((first | generalize hq_ : World.drewN wr _ = wr | (rw [drewN_self wr]; generalize hq_ : World.drewN wr _ = wr)); replace HO_7 := Aside0.mk (Kd.R_at hq_ HO_7.out); replace HO_8 := Aside0.mk (Kd.R_at hq_ HO_8.out); replace HO_9 := Aside0.mk (Kd.R_at hq_ HO_9.out); replace HO_11 := Aside0.mk (Kd.R_at hq_ HO_11.out); replace HO_12 := Aside0.mk (Kd.R_at hq_ HO_12.out); replace HB := Aside0.mk (below_at hq_ HB.out); clear hq_; (try (have HX24 := Aside0.mk (show Kd.R k37 37 wr w.heap.size (fun k_ => some k_ ≠ (v275 : Value).ownBlock ∧ some k_ ≠ (.slice (some ad292) t284.length co23 : Value).ownBlock) (.slice (some ⟨go21, 0, none⟩) x8_2.length co22) x8_2 from (rs_ HO_8)))); (try (obtain ⟨ce24, hcl24, hM24, hcc24, hfr24⟩ := Kd.R_elem HX24.out z37 (x14_2 : Int) (of_decide_eq_true (by first | (with_reducible assumption) | assumption)) (by have h_ : (x14_2 : Int) < ((x8_2.length : Int) : Int) := of_decide_eq_true (by first | (with_reducible assumption) | assumption); first | exact h_ | (have e_ := (Kd.R_reads' HO_8.out).1; omega) | simpa using h_))); (try (obtain rfl := k37_openM hM24)); (try (have HP24 := Kd.R_seg HX24.out (x14_2 : Int) (of_decide_eq_true (by first | (with_reducible assumption) | assumption)) (by have h_ : (x14_2 : Int) < ((x8_2.length : Int) : Int) := of_decide_eq_true (by first | (with_reducible assumption) | assumption); first | exact h_ | (have e_ := (Kd.R_reads' HO_8.out).1; omega) | simpa using h_) (seg := [.int .i64 (-1)]) (j := 3) hcl24 hcc24 (show 4 ≤ 6 from by decide) (x' := (⟨(⟨(rd_T37 x8_2 x14_2).f0.f0, (rd_T37 x8_2 x14_2).f0.f1, (rd_T37 x8_2 x14_2).f0.f2⟩ : S34), (-1), (rd_T37 x8_2 x14_2).f2, (rd_T37 x8_2 x14_2).f3⟩ : S37)) (k37_mkM _ _ _ (⟨(⟨(rd_T37 x8_2 x14_2).f0.f0, (rd_T37 x8_2 x14_2).f0.f1, (rd_T37 x8_2 x14_2).f0.f2⟩ : S34), (-1), (rd_T37 x8_2 x14_2).f2, (rd_T37 x8_2 x14_2).f3⟩ : S37) ) (fun _ hk => hk))); (try (have hx24_3 := hcc24 3 _ rfl)); (try (try simp only [show (k37).sz = 6 from rfl, Nat.mul_one, Nat.add_zero] at hx24_3)); (try (have hf24_3 := hfr24 3)); (try (try simp only [show (k37).sz = 6 from rfl, Nat.mul_one, Nat.add_zero] at hf24_3)); (try (clear hcl24 hcc24 hfr24 hM24)))); refine store_event (t := 2) (p := 65) (v := ?vo_w25) (w1 := (wr.setCell ⟨go21, (x14_2 : Int).toNat * 6 + 3, none⟩ (.int .i64 (-1)))) ?hg ?ho ?hn ?hr ?_; (case ho => rfl); (case hg => rfl); (case hn => rfl); (case hr => first | (go_simp; done) | (go_simp; rfl)); intro w25 hw; have hg : wr.grownBy w25 (some go21) := (by rw [hw]; exact HP24.2); have hp_ : Kd.R k37 37 w25 w.heap.size (fun k_ => some k_ ≠ (v275 : Value).ownBlock ∧ some k_ ≠ (.slice (some ad292) t284.length co23 : Value).ownBlock) (.slice (some ⟨go21, 0, none⟩) x8_2.length co22) y293 := (by rw [hw, Ny293.out]; exact HP24.1); clear HP24; replace HO_7 := Aside0.mk (Kd.R_after (v := (.slice (some ⟨go21, 0, none⟩) x8_2.length co22)) (v1 := (.slice (some ⟨go21, 0, none⟩) x8_2.length co22)) (ok := (fun k_ => some k_ ≠ (.slice (some ad292) t284.length co23 : Value).ownBlock)) (by (with_reducible repeat (first | apply Kd.R_alloc | apply Kd.R_drewN | apply Kd.R_drew)); exact Kd.R_mono HO_7.out (fun _ hk => ⟨hk.2, hk.1⟩)) hg (.inl rfl)); replace HO_9 := Aside0.mk (Kd.R_over' (v := (.slice (some ⟨go21, 0, none⟩) x8_2.length co22)) (rs_ HO_9) (Kd.R_typed HO_8.out) (by decide) hg); replace HO_11 := Aside0.mk (Kd.R_after (v := (.slice (some ⟨go21, 0, none⟩) x8_2.length co22)) (v1 := (.slice (some ⟨go21, 0, none⟩) x8_2.length co22)) (ok := (fun k_ => some k_ ≠ (v275 : Value).ownBlock)) (rs_ HO_11) hg (.inl rfl)); replace HO_12 := Aside0.mk (Kd.R_over' (v := (.slice (some ⟨go21, 0, none⟩) x8_2.length co22)) (rs_ HO_12) (Kd.R_typed HO_8.out) (by decide) hg); replace HO_8 := Aside0.mk (hp_); replace HB := Aside0.mk ((by rw [hw]; exact below_set (HB.out) GB21.out : Below w.heap.size w w25)); clear hg hw hp_)))
        go_roundg k2
        case measure => have := HJ3.out; have := HK2.out; omega
        case rel => exact ⟨(y293), (wrap64 (x14_2 + 1)), rf_, H', ⟨by have := HJ3.out; have := HK2.out; omega⟩, ⟨by (with_reducible repeat (first | apply Kd.R_alloc | apply Kd.R_drewN | apply Kd.R_drew)); exact Kd.R_mono HO_7.out (fun _ hk => ⟨hk.2, hk.1⟩)⟩, ⟨rs_ HO_8⟩, ⟨rs_ HO_9⟩, ⟨rs_ HO_11⟩, ⟨rs_ HO_12⟩, bw_⟩
       ·rw [if_neg c18] at H
        have c18b0 : decide (x14_2 < (t284.length : Int)) = false := decide_eq_false c18
        clear c18
        by_cases c26 : 0 ≤ x14_2
        rotate_left
        ·rw [if_neg c26] at H; exact absurd H (by simp)
        rw [if_pos c26] at H
        have c26b0 : decide (0 ≤ x14_2) = true := decide_eq_true c26
        clear c26
        obtain ⟨y294, hy294⟩ : ∃ y_ : List (S37), y_ = (x8_2.set (x14_2 : Int).toNat (⟨(⟨(rd_T37 x8_2 x14_2).f0.f0, (rd_T37 x8_2 x14_2).f0.f1, (rd_T37 x8_2 x14_2).f0.f2⟩ : S34), (-1), (rd_T37 x8_2 x14_2).f2, (rd_T37 x8_2 x14_2).f3⟩ : S37)) := ⟨_, rfl⟩
        replace H : (spigotlaw04_LevelsRuns.l0 k2 l0 y274 y294 t278 t279 t284 t285 t286 (wrap64 (x14_2 + 1))) = some r := by first | (rw [hy294]; with_reducible exact H) | (have H2_ := (Option.bind_some _ _).symm.trans H; rw [hy294]; with_reducible exact H2_) | (have H2_ := (Option.bind_some _ _).symm.trans H; with_reducible exact H2_) | with_reducible exact H | (rw [hy294]; exact H) | exact H
        have Ny294 := Aside0.mk hy294
        clear hy294
        have H' := Aside0.mk H
        clear H
        obtain ⟨Ao28, co28, eo28⟩ := Kd.R_slice HO_8.out
        subst eo28
        obtain ⟨Ao29, co29, eo29⟩ := Kd.R_slice HO_11.out
        subst eo29
        have p27 : 0 ≤ (x14_2 : Int) := of_decide_eq_true (by first | (with_reducible assumption) | assumption)
        have q27 : (x14_2 : Int) < ((x8_2.length : Int) : Int) := of_decide_eq_true (by first | (with_reducible assumption) | assumption)
        obtain ⟨go27, co27, eo27, gb27, gl27, cl27, HG27⟩ := Kd.R_form HO_8.out (by omega)
        (first | cases eo27 | (injection eo27 with ea_ en_ ec_; (first | subst ea_ | (injection ea_ with ea_; subst ea_)); subst ec_; clear en_))
        have GB27 := Aside0.mk gb27
        have GG27 := Aside0.mk HG27
        clear gb27 gl27 HG27
        obtain ⟨ce27, hcl27, hM27, hcc27, hfr27⟩ := Kd.R_elem HO_8.out z37 (x14_2 : Int) p27 q27
        obtain rfl := k37_openM hM27
        have hx27_0 : wr.cell? ⟨go27, (x14_2 : Int).toNat * 6, none⟩ = some (.int .i64 ((rd_T37 x8_2 x14_2).f0.f0)) := hcc27 0 _ rfl
        have hx27_1 : wr.cell? ⟨go27, (x14_2 : Int).toNat * 6 + 1, none⟩ = some (.int .i64 ((rd_T37 x8_2 x14_2).f0.f1)) := hcc27 1 _ rfl
        have hx27_2 : wr.cell? ⟨go27, (x14_2 : Int).toNat * 6 + 2, none⟩ = some (.int .i64 ((rd_T37 x8_2 x14_2).f0.f2)) := hcc27 2 _ rfl
        have hx27_3 : wr.cell? ⟨go27, (x14_2 : Int).toNat * 6 + 3, none⟩ = some (.int .i64 ((rd_T37 x8_2 x14_2).f1)) := hcc27 3 _ rfl
        have hx27_4 : wr.cell? ⟨go27, (x14_2 : Int).toNat * 6 + 4, none⟩ = some (.int .i64 ((rd_T37 x8_2 x14_2).f2)) := hcc27 4 _ rfl
        have hx27_5 : wr.cell? ⟨go27, (x14_2 : Int).toNat * 6 + 5, none⟩ = some (.int .u64 ((rd_T37 x8_2 x14_2).f3)) := hcc27 5 _ rfl
        have hf27_0 : wr.frozen? ⟨go27, (x14_2 : Int).toNat * 6, none⟩ = false := hfr27 0
        have hf27_1 : wr.frozen? ⟨go27, (x14_2 : Int).toNat * 6 + 1, none⟩ = false := hfr27 1
        have hf27_2 : wr.frozen? ⟨go27, (x14_2 : Int).toNat * 6 + 2, none⟩ = false := hfr27 2
        have hf27_3 : wr.frozen? ⟨go27, (x14_2 : Int).toNat * 6 + 3, none⟩ = false := hfr27 3
        have hf27_4 : wr.frozen? ⟨go27, (x14_2 : Int).toNat * 6 + 4, none⟩ = false := hfr27 4
        have hf27_5 : wr.frozen? ⟨go27, (x14_2 : Int).toNat * 6 + 5, none⟩ = false := hfr27 5
        clear hcl27 hcc27 hfr27 hM27
        replace p27 := eq_true p27
        replace q27 := eq_true q27
        have HX30 := Aside0.mk (show Kd.R k37 37 wr w.heap.size (fun k_ => some k_ ≠ (v275 : Value).ownBlock ∧ some k_ ≠ (.slice Ao29 t284.length co29 : Value).ownBlock) (.slice (some ⟨go27, 0, none⟩) x8_2.length co28) x8_2 from (rs_ HO_8))
        obtain ⟨ce30, hcl30, hM30, hcc30, hfr30⟩ := Kd.R_elem HX30.out z37 (x14_2 : Int) (of_decide_eq_true (by first | (with_reducible assumption) | assumption)) (by have h_ : (x14_2 : Int) < ((x8_2.length : Int) : Int) := of_decide_eq_true (by first | (with_reducible assumption) | assumption); first | exact h_ | (have e_ := (Kd.R_reads' HO_8.out).1; omega) | simpa using h_)
        obtain rfl := k37_openM hM30
        have HP30 := Kd.R_seg HX30.out (x14_2 : Int) (of_decide_eq_true (by first | (with_reducible assumption) | assumption)) (by have h_ : (x14_2 : Int) < ((x8_2.length : Int) : Int) := of_decide_eq_true (by first | (with_reducible assumption) | assumption); first | exact h_ | (have e_ := (Kd.R_reads' HO_8.out).1; omega) | simpa using h_) (seg := [.int .i64 (-1)]) (j := 3) hcl30 hcc30 (show 4 ≤ 6 from by decide) (x' := (⟨(⟨(rd_T37 x8_2 x14_2).f0.f0, (rd_T37 x8_2 x14_2).f0.f1, (rd_T37 x8_2 x14_2).f0.f2⟩ : S34), (-1), (rd_T37 x8_2 x14_2).f2, (rd_T37 x8_2 x14_2).f3⟩ : S37)) (k37_mkM _ _ _ (⟨(⟨(rd_T37 x8_2 x14_2).f0.f0, (rd_T37 x8_2 x14_2).f0.f1, (rd_T37 x8_2 x14_2).f0.f2⟩ : S34), (-1), (rd_T37 x8_2 x14_2).f2, (rd_T37 x8_2 x14_2).f3⟩ : S37) ) (fun _ hk => hk)
        have hx30_3 := hcc30 3 _ rfl
        (try simp only [show (k37).sz = 6 from rfl, Nat.mul_one, Nat.add_zero] at hx30_3)
        have hf30_3 := hfr30 3
        (try simp only [show (k37).sz = 6 from rfl, Nat.mul_one, Nat.add_zero] at hf30_3)
        clear hcl30 hcc30 hfr30 hM30
        go_wp2_with (first | ((with_reducible refine gate_store (t := 2) (p := 65) rfl ?_); (try ((first | generalize hq_ : World.drewN wr _ = wr | (rw [drewN_self wr]; generalize hq_ : World.drewN wr _ = wr)); replace HO_7 := Aside0.mk (Kd.R_at hq_ HO_7.out); replace HO_8 := Aside0.mk (Kd.R_at hq_ HO_8.out); replace HO_9 := Aside0.mk (Kd.R_at hq_ HO_9.out); replace HO_11 := Aside0.mk (Kd.R_at hq_ HO_11.out); replace HO_12 := Aside0.mk (Kd.R_at hq_ HO_12.out); replace HB := Aside0.mk (below_at hq_ HB.out); clear hq_; (try (have HX30 := Aside0.mk (show Kd.R k37 37 wr w.heap.size (fun k_ => some k_ ≠ (v275 : Value).ownBlock ∧ some k_ ≠ (.slice Ao29 t284.length co29 : Value).ownBlock) (.slice (some ⟨go27, 0, none⟩) x8_2.length co28) x8_2 from (rs_ HO_8)))); (try (obtain ⟨ce30, hcl30, hM30, hcc30, hfr30⟩ := Kd.R_elem HX30.out z37 (x14_2 : Int) (of_decide_eq_true (by first | (with_reducible assumption) | assumption)) (by have h_ : (x14_2 : Int) < ((x8_2.length : Int) : Int) := of_decide_eq_true (by first | (with_reducible assumption) | assumption); first | exact h_ | (have e_ := (Kd.R_reads' HO_8.out).1; omega) | simpa using h_))); (try (obtain rfl := k37_openM hM30)); (try (have HP30 := Kd.R_seg HX30.out (x14_2 : Int) (of_decide_eq_true (by first | (with_reducible assumption) | assumption)) (by have h_ : (x14_2 : Int) < ((x8_2.length : Int) : Int) := of_decide_eq_true (by first | (with_reducible assumption) | assumption); first | exact h_ | (have e_ := (Kd.R_reads' HO_8.out).1; omega) | simpa using h_) (seg := [.int .i64 (-1)]) (j := 3) hcl30 hcc30 (show 4 ≤ 6 from by decide) (x' := (⟨(⟨(rd_T37 x8_2 x14_2).f0.f0, (rd_T37 x8_2 x14_2).f0.f1, (rd_T37 x8_2 x14_2).f0.f2⟩ : S34), (-1), (rd_T37 x8_2 x14_2).f2, (rd_T37 x8_2 x14_2).f3⟩ : S37)) (k37_mkM _ _ _ (⟨(⟨(rd_T37 x8_2 x14_2).f0.f0, (rd_T37 x8_2 x14_2).f0.f1, (rd_T37 x8_2 x14_2).f0.f2⟩ : S34), (-1), (rd_T37 x8_2 x14_2).f2, (rd_T37 x8_2 x14_2).f3⟩ : S37) ) (fun _ hk => hk))); (try (have hx30_3 := hcc30 3 _ rfl)); (try (try simp only [show (k37).sz = 6 from rfl, Nat.mul_one, Nat.add_zero] at hx30_3)); (try (have hf30_3 := hfr30 3)); (try (try simp only [show (k37).sz = 6 from rfl, Nat.mul_one, Nat.add_zero] at hf30_3)); (try (clear hcl30 hcc30 hfr30 hM30)))); refine store_event (t := 2) (p := 65) (v := ?vo_w31) (w1 := (wr.setCell ⟨go27, (x14_2 : Int).toNat * 6 + 3, none⟩ (.int .i64 (-1)))) ?hg ?ho ?hn ?hr ?_; (case ho => rfl); (case hg => rfl); (case hn => rfl); (case hr => first | (go_simp; done) | (go_simp; rfl)); intro w31 hw; have hg : wr.grownBy w31 (some go27) := (by rw [hw]; exact HP30.2); have hp_ : Kd.R k37 37 w31 w.heap.size (fun k_ => some k_ ≠ (v275 : Value).ownBlock ∧ some k_ ≠ (.slice Ao29 t284.length co29 : Value).ownBlock) (.slice (some ⟨go27, 0, none⟩) x8_2.length co28) y294 := (by rw [hw, Ny294.out]; exact HP30.1); clear HP30; replace HO_7 := Aside0.mk (Kd.R_after (v := (.slice (some ⟨go27, 0, none⟩) x8_2.length co28)) (v1 := (.slice (some ⟨go27, 0, none⟩) x8_2.length co28)) (ok := (fun k_ => some k_ ≠ (.slice Ao29 t284.length co29 : Value).ownBlock)) (by (with_reducible repeat (first | apply Kd.R_alloc | apply Kd.R_drewN | apply Kd.R_drew)); exact Kd.R_mono HO_7.out (fun _ hk => ⟨hk.2, hk.1⟩)) hg (.inl rfl)); replace HO_9 := Aside0.mk (Kd.R_over' (v := (.slice (some ⟨go27, 0, none⟩) x8_2.length co28)) (rs_ HO_9) (Kd.R_typed HO_8.out) (by decide) hg); replace HO_11 := Aside0.mk (Kd.R_after (v := (.slice (some ⟨go27, 0, none⟩) x8_2.length co28)) (v1 := (.slice (some ⟨go27, 0, none⟩) x8_2.length co28)) (ok := (fun k_ => some k_ ≠ (v275 : Value).ownBlock)) (rs_ HO_11) hg (.inl rfl)); replace HO_12 := Aside0.mk (Kd.R_over' (v := (.slice (some ⟨go27, 0, none⟩) x8_2.length co28)) (rs_ HO_12) (Kd.R_typed HO_8.out) (by decide) hg); replace HO_8 := Aside0.mk (hp_); replace HB := Aside0.mk ((by rw [hw]; exact below_set (HB.out) GB27.out : Below w.heap.size w w31)); clear hg hw hp_))
        repeat (go_quiet (first | ((with_reducible refine gate_store (t := 2) (p := 65) rfl ?_); (try ((first | generalize hq_ : World.drewN wr _ = wr | (rw [drewN_self wr]; generalize hq_ : World.drewN wr _ = wr)); replace HO_7 := Aside0.mk (Kd.R_at hq_ HO_7.out); replace HO_8 := Aside0.mk (Kd.R_at hq_ HO_8.out); replace HO_9 := Aside0.mk (Kd.R_at hq_ HO_9.out); replace HO_11 := Aside0.mk (Kd.R_at hq_ HO_11.out); replace HO_12 := Aside0.mk (Kd.R_at hq_ HO_12.out); replace HB := Aside0.mk (below_at hq_ HB.out); clear hq_; (try (have HX30 := Aside0.mk (show Kd.R k37 37 wr w.heap.size (fun k_ => some k_ ≠ (v275 : Value).ownBlock ∧ some k_ ≠ (.slice Ao29 t284.length co29 : Value).ownBlock) (.slice (some ⟨go27, 0, none⟩) x8_2.length co28) x8_2 from (rs_ HO_8)))); (try (obtain ⟨ce30, hcl30, hM30, hcc30, hfr30⟩ := Kd.R_elem HX30.out z37 (x14_2 : Int) (of_decide_eq_true (by first | (with_reducible assumption) | assumption)) (by have h_ : (x14_2 : Int) < ((x8_2.length : Int) : Int) := of_decide_eq_true (by first | (with_reducible assumption) | assumption); first | exact h_ | (have e_ := (Kd.R_reads' HO_8.out).1; omega) | simpa using h_))); (try (obtain rfl := k37_openM hM30)); (try (have HP30 := Kd.R_seg HX30.out (x14_2 : Int) (of_decide_eq_true (by first | (with_reducible assumption) | assumption)) (by have h_ : (x14_2 : Int) < ((x8_2.length : Int) : Int) := of_decide_eq_true (by first | (with_reducible assumption) | assumption); first | exact h_ | (have e_ := (Kd.R_reads' HO_8.out).1; omega) | simpa using h_) (seg := [.int .i64 (-1)]) (j := 3) hcl30 hcc30 (show 4 ≤ 6 from by decide) (x' := (⟨(⟨(rd_T37 x8_2 x14_2).f0.f0, (rd_T37 x8_2 x14_2).f0.f1, (rd_T37 x8_2 x14_2).f0.f2⟩ : S34), (-1), (rd_T37 x8_2 x14_2).f2, (rd_T37 x8_2 x14_2).f3⟩ : S37)) (k37_mkM _ _ _ (⟨(⟨(rd_T37 x8_2 x14_2).f0.f0, (rd_T37 x8_2 x14_2).f0.f1, (rd_T37 x8_2 x14_2).f0.f2⟩ : S34), (-1), (rd_T37 x8_2 x14_2).f2, (rd_T37 x8_2 x14_2).f3⟩ : S37) ) (fun _ hk => hk))); (try (have hx30_3 := hcc30 3 _ rfl)); (try (try simp only [show (k37).sz = 6 from rfl, Nat.mul_one, Nat.add_zero] at hx30_3)); (try (have hf30_3 := hfr30 3)); (try (try simp only [show (k37).sz = 6 from rfl, Nat.mul_one, Nat.add_zero] at hf30_3)); (try (clear hcl30 hcc30 hfr30 hM30)))); refine store_event (t := 2) (p := 65) (v := ?vo_w31) (w1 := (wr.setCell ⟨go27, (x14_2 : Int).toNat * 6 + 3, none⟩ (.int .i64 (-1)))) ?hg ?ho ?hn ?hr ?_; (case ho => rfl); (case hg => rfl); (case hn => rfl); (case hr => first | (go_simp; done) | (go_simp; rfl)); intro w31 hw; have hg : wr.grownBy w31 (some go27) := (by rw [hw]; exact HP30.2); have hp_ : Kd.R k37 37 w31 w.heap.size (fun k_ => some k_ ≠ (v275 : Value).ownBlock ∧ some k_ ≠ (.slice Ao29 t284.length co29 : Value).ownBlock) (.slice (some ⟨go27, 0, none⟩) x8_2.length co28) y294 := (by rw [hw, Ny294.out]; exact HP30.1); clear HP30; replace HO_7 := Aside0.mk (Kd.R_after (v := (.slice (some ⟨go27, 0, none⟩) x8_2.length co28)) (v1 := (.slice (some ⟨go27, 0, none⟩) x8_2.length co28)) (ok := (fun k_ => some k_ ≠ (.slice Ao29 t284.length co29 : Value).ownBlock)) (by (with_reducible repeat (first | apply Kd.R_alloc | apply Kd.R_drewN | apply Kd.R_drew)); exact Kd.R_mono HO_7.out (fun _ hk => ⟨hk.2, hk.1⟩)) hg (.inl rfl)); replace HO_9 := Aside0.mk (Kd.R_over' (v := (.slice (some ⟨go27, 0, none⟩) x8_2.length co28)) (rs_ HO_9) (Kd.R_typed HO_8.out) (by decide) hg); replace HO_11 := Aside0.mk (Kd.R_after (v := (.slice (some ⟨go27, 0, none⟩) x8_2.length co28)) (v1 := (.slice (some ⟨go27, 0, none⟩) x8_2.length co28)) (ok := (fun k_ => some k_ ≠ (v275 : Value).ownBlock)) (rs_ HO_11) hg (.inl rfl)); replace HO_12 := Aside0.mk (Kd.R_over' (v := (.slice (some ⟨go27, 0, none⟩) x8_2.length co28)) (rs_ HO_12) (Kd.R_typed HO_8.out) (by decide) hg); replace HO_8 := Aside0.mk (hp_); replace HB := Aside0.mk ((by rw [hw]; exact below_set (HB.out) GB27.out : Below w.heap.size w w31)); clear hg hw hp_)); try go_wp2_with (first | ((with_reducible refine gate_store (t := 2) (p := 65) rfl ?_); (try ((first | generalize hq_ : World.drewN wr _ = wr | (rw [drewN_self wr]; generalize hq_ : World.drewN wr _ = wr)); replace HO_7 := Aside0.mk (Kd.R_at hq_ HO_7.out); replace HO_8 := Aside0.mk (Kd.R_at hq_ HO_8.out); replace HO_9 := Aside0.mk (Kd.R_at hq_ HO_9.out); replace HO_11 := Aside0.mk (Kd.R_at hq_ HO_11.out); replace HO_12 := Aside0.mk (Kd.R_at hq_ HO_12.out); replace HB := Aside0.mk (below_at hq_ HB.out); clear hq_; (try (have HX30 := Aside0.mk (show Kd.R k37 37 wr w.heap.size (fun k_ => some k_ ≠ (v275 : Value).ownBlock ∧ some k_ ≠ (.slice Ao29 t284.length co29 : Value).ownBlock) (.slice (some ⟨go27, 0, none⟩) x8_2.length co28) x8_2 from (rs_ HO_8)))); (try (obtain ⟨ce30, hcl30, hM30, hcc30, hfr30⟩ := Kd.R_elem HX30.out z37 (x14_2 : Int) (of_decide_eq_true (by first | (with_reducible assumption) | assumption)) (by have h_ : (x14_2 : Int) < ((x8_2.length : Int) : Int) := of_decide_eq_true (by first | (with_reducible assumption) | assumption); first | exact h_ | (have e_ := (Kd.R_reads' HO_8.out).1; omega) | simpa using h_))); (try (obtain rfl := k37_openM hM30)); (try (have HP30 := Kd.R_seg HX30.out (x14_2 : Int) (of_decide_eq_true (by first | (with_reducible assumption) | assumption)) (by have h_ : (x14_2 : Int) < ((x8_2.length : Int) : Int) := of_decide_eq_true (by first | (with_reducible assumption) | assumption); first | exact h_ | (have e_ := (Kd.R_reads' HO_8.out).1; omega) | simpa using h_) (seg := [.int .i64 (-1)]) (j := 3) hcl30 hcc30 (show 4 ≤ 6 from by decide) (x' := (⟨(⟨(rd_T37 x8_2 x14_2).f0.f0, (rd_T37 x8_2 x14_2).f0.f1, (rd_T37 x8_2 x14_2).f0.f2⟩ : S34), (-1), (rd_T37 x8_2 x14_2).f2, (rd_T37 x8_2 x14_2).f3⟩ : S37)) (k37_mkM _ _ _ (⟨(⟨(rd_T37 x8_2 x14_2).f0.f0, (rd_T37 x8_2 x14_2).f0.f1, (rd_T37 x8_2 x14_2).f0.f2⟩ : S34), (-1), (rd_T37 x8_2 x14_2).f2, (rd_T37 x8_2 x14_2).f3⟩ : S37) ) (fun _ hk => hk))); (try (have hx30_3 := hcc30 3 _ rfl)); (try (try simp only [show (k37).sz = 6 from rfl, Nat.mul_one, Nat.add_zero] at hx30_3)); (try (have hf30_3 := hfr30 3)); (try (try simp only [show (k37).sz = 6 from rfl, Nat.mul_one, Nat.add_zero] at hf30_3)); (try (clear hcl30 hcc30 hfr30 hM30)))); refine store_event (t := 2) (p := 65) (v := ?vo_w31) (w1 := (wr.setCell ⟨go27, (x14_2 : Int).toNat * 6 + 3, none⟩ (.int .i64 (-1)))) ?hg ?ho ?hn ?hr ?_; (case ho => rfl); (case hg => rfl); (case hn => rfl); (case hr => first | (go_simp; done) | (go_simp; rfl)); intro w31 hw; have hg : wr.grownBy w31 (some go27) := (by rw [hw]; exact HP30.2); have hp_ : Kd.R k37 37 w31 w.heap.size (fun k_ => some k_ ≠ (v275 : Value).ownBlock ∧ some k_ ≠ (.slice Ao29 t284.length co29 : Value).ownBlock) (.slice (some ⟨go27, 0, none⟩) x8_2.length co28) y294 := (by rw [hw, Ny294.out]; exact HP30.1); clear HP30; replace HO_7 := Aside0.mk (Kd.R_after (v := (.slice (some ⟨go27, 0, none⟩) x8_2.length co28)) (v1 := (.slice (some ⟨go27, 0, none⟩) x8_2.length co28)) (ok := (fun k_ => some k_ ≠ (.slice Ao29 t284.length co29 : Value).ownBlock)) (by (with_reducible repeat (first | apply Kd.R_alloc | apply Kd.R_drewN | apply Kd.R_drew)); exact Kd.R_mono HO_7.out (fun _ hk => ⟨hk.2, hk.1⟩)) hg (.inl rfl)); replace HO_9 := Aside0.mk (Kd.R_over' (v := (.slice (some ⟨go27, 0, none⟩) x8_2.length co28)) (rs_ HO_9) (Kd.R_typed HO_8.out) (by decide) hg); replace HO_11 := Aside0.mk (Kd.R_after (v := (.slice (some ⟨go27, 0, none⟩) x8_2.length co28)) (v1 := (.slice (some ⟨go27, 0, none⟩) x8_2.length co28)) (ok := (fun k_ => some k_ ≠ (v275 : Value).ownBlock)) (rs_ HO_11) hg (.inl rfl)); replace HO_12 := Aside0.mk (Kd.R_over' (v := (.slice (some ⟨go27, 0, none⟩) x8_2.length co28)) (rs_ HO_12) (Kd.R_typed HO_8.out) (by decide) hg); replace HO_8 := Aside0.mk (hp_); replace HB := Aside0.mk ((by rw [hw]; exact below_set (HB.out) GB27.out : Below w.heap.size w w31)); clear hg hw hp_)))
        go_roundg k2
        case measure => have := HJ3.out; have := HK2.out; omega
        case rel => exact ⟨(y294), (wrap64 (x14_2 + 1)), rf_, H', ⟨by have := HJ3.out; have := HK2.out; omega⟩, ⟨by (with_reducible repeat (first | apply Kd.R_alloc | apply Kd.R_drewN | apply Kd.R_drew)); exact Kd.R_mono HO_7.out (fun _ hk => ⟨hk.2, hk.1⟩)⟩, ⟨rs_ HO_8⟩, ⟨rs_ HO_9⟩, ⟨rs_ HO_11⟩, ⟨rs_ HO_12⟩, bw_⟩
      ·rw [if_neg c17] at H
       have c17b0 : decide (x14_2 < (x8_2.length : Int)) = false := decide_eq_false c17
       clear c17
       by_cases c32 : (x8_2.length : Int) = (t284.length : Int)
       rotate_left
       ·rw [if_neg c32] at H; exact absurd H (by simp)
       rw [if_pos c32] at H
       have c32b0 : ((x8_2.length : Int) == (t284.length : Int)) = true := beq_iff_eq.mpr c32
       have c32b1 : ((x8_2.length : Int) != (t284.length : Int)) = false := bne_eq_false_iff_eq.mpr c32
       have c32b2 : (x8_2.length == t284.length) = true := by first | simpa using c32 | (simp at c32 ⊢; omega)
       clear c32
       obtain ⟨t295, A33, H⟩ := bo_ H
       replace H : (if t295 = true then (if t279 = t286 then ((spigotref04_Same.f k2 l0 y274).bind fun t296 => (some t296)) else (none)) else (none)) = some r := H
       by_cases c34 : t295 = true
       ·subst c34
        rw [if_pos rfl] at H
        try dsimp only at H
        by_cases c35 : t279 = t286
        rotate_left
        ·rw [if_neg c35] at H; exact absurd H (by simp)
        rw [if_pos c35] at H
        have c35b0 : (t279 == t286) = true := beq_iff_eq.mpr c35
        have c35b1 : (t279 != t286) = false := bne_eq_false_iff_eq.mpr c35
        clear c35
        obtain ⟨t296, A36, H⟩ := bo_ H
        replace H : (some t296) = some r := H
        obtain rfl := Option.some.inj H
        obtain ⟨Ao37, co37, eo37⟩ := Kd.R_slice HO_8.out
        subst eo37
        obtain ⟨Ao38, co38, eo38⟩ := Kd.R_slice HO_11.out
        subst eo38
        obtain ⟨Ao39, co39, eo39⟩ := Kd.R_slice HO_9.out
        subst eo39
        obtain ⟨Ao40, co40, eo40⟩ := Kd.R_slice HO_12.out
        subst eo40
        go_wp2_with (first | (go_at_call 14; (with_reducible refine (spigotref04_SameBools.calls k2 _ _ t278 _ _ t285 true _ ?side1 ?side2 ?side3 ?side4 A33.out).mono ?_); (case side1 => exact cr_ HO_9); (case side2 => exact (Kd.R_reads' HO_9.out).2.1); (case side3 => exact cr_ HO_12); (case side4 => exact (Kd.R_reads' HO_12.out).2.1); rintro e w' ⟨rfl, ⟨nd, rfl⟩⟩; (try first | exact ⟨rfl, _, World.drewN_drewN _ _ _⟩ | exact ⟨rfl, _, Eq.trans (World.drewN_drewN _ _ _) (congrArg (World.drewN _) (Nat.add_assoc _ _ _))⟩); obtain ⟨Ao41, co41, eo41⟩ := Kd.R_slice HO_7.out; subst eo41) | (go_at_call 15; (with_reducible refine (spigotref04_Same.calls k2 _ _ l0 _ _ y274 t296 _ ?side1 ?side2 ?side3 ?side4 A36.out).mono ?_); (case side1 => repeat (first | exact (Kd.C_below HR0.out (hq_ HB)) | (with_reducible refine Kd.C_alloc ?_ _) | (with_reducible refine Kd.C_drewN ?_ _) | (with_reducible refine Kd.C_drew ?_))); (case side2 => exact HC0.out); (case side3 => exact cr_ HO_7); (case side4 => exact (Kd.R_reads' HO_7.out).2.1); rintro e w' ⟨rfl, ⟨nd, rfl⟩⟩; (try first | exact ⟨rfl, _, World.drewN_drewN _ _ _⟩ | exact ⟨rfl, _, Eq.trans (World.drewN_drewN _ _ _) (congrArg (World.drewN _) (Nat.add_assoc _ _ _))⟩)))
        repeat (go_quiet (first | (go_at_call 14; (with_reducible refine (spigotref04_SameBools.calls k2 _ _ t278 _ _ t285 true _ ?side1 ?side2 ?side3 ?side4 A33.out).mono ?_); (case side1 => exact cr_ HO_9); (case side2 => exact (Kd.R_reads' HO_9.out).2.1); (case side3 => exact cr_ HO_12); (case side4 => exact (Kd.R_reads' HO_12.out).2.1); rintro e w' ⟨rfl, ⟨nd, rfl⟩⟩; (try first | exact ⟨rfl, _, World.drewN_drewN _ _ _⟩ | exact ⟨rfl, _, Eq.trans (World.drewN_drewN _ _ _) (congrArg (World.drewN _) (Nat.add_assoc _ _ _))⟩); obtain ⟨Ao41, co41, eo41⟩ := Kd.R_slice HO_7.out; subst eo41) | (go_at_call 15; (with_reducible refine (spigotref04_Same.calls k2 _ _ l0 _ _ y274 t296 _ ?side1 ?side2 ?side3 ?side4 A36.out).mono ?_); (case side1 => repeat (first | exact (Kd.C_below HR0.out (hq_ HB)) | (with_reducible refine Kd.C_alloc ?_ _) | (with_reducible refine Kd.C_drewN ?_ _) | (with_reducible refine Kd.C_drew ?_))); (case side2 => exact HC0.out); (case side3 => exact cr_ HO_7); (case side4 => exact (Kd.R_reads' HO_7.out).2.1); rintro e w' ⟨rfl, ⟨nd, rfl⟩⟩; (try first | exact ⟨rfl, _, World.drewN_drewN _ _ _⟩ | exact ⟨rfl, _, Eq.trans (World.drewN_drewN _ _ _) (congrArg (World.drewN _) (Nat.add_assoc _ _ _))⟩))); try go_wp2_with (first | (go_at_call 14; (with_reducible refine (spigotref04_SameBools.calls k2 _ _ t278 _ _ t285 true _ ?side1 ?side2 ?side3 ?side4 A33.out).mono ?_); (case side1 => exact cr_ HO_9); (case side2 => exact (Kd.R_reads' HO_9.out).2.1); (case side3 => exact cr_ HO_12); (case side4 => exact (Kd.R_reads' HO_12.out).2.1); rintro e w' ⟨rfl, ⟨nd, rfl⟩⟩; (try first | exact ⟨rfl, _, World.drewN_drewN _ _ _⟩ | exact ⟨rfl, _, Eq.trans (World.drewN_drewN _ _ _) (congrArg (World.drewN _) (Nat.add_assoc _ _ _))⟩); obtain ⟨Ao41, co41, eo41⟩ := Kd.R_slice HO_7.out; subst eo41) | (go_at_call 15; (with_reducible refine (spigotref04_Same.calls k2 _ _ l0 _ _ y274 t296 _ ?side1 ?side2 ?side3 ?side4 A36.out).mono ?_); (case side1 => repeat (first | exact (Kd.C_below HR0.out (hq_ HB)) | (with_reducible refine Kd.C_alloc ?_ _) | (with_reducible refine Kd.C_drewN ?_ _) | (with_reducible refine Kd.C_drew ?_))); (case side2 => exact HC0.out); (case side3 => exact cr_ HO_7); (case side4 => exact (Kd.R_reads' HO_7.out).2.1); rintro e w' ⟨rfl, ⟨nd, rfl⟩⟩; (try first | exact ⟨rfl, _, World.drewN_drewN _ _ _⟩ | exact ⟨rfl, _, Eq.trans (World.drewN_drewN _ _ _) (congrArg (World.drewN _) (Nat.add_assoc _ _ _))⟩))))
        go_ret
        exact fi_
       ·replace c34 := Bool.eq_false_iff.mpr c34
        subst c34
        replace H : (none) = some r := by rw [if_neg (show ¬ (false = true) by decide)] at H; exact H
        exact absurd H (by simp)

end Go.Proofs.Ytaegpnbgppjicaa.X
