-- written by xprint.py, a program of this session over the kit's print
import Derived.Test.YtbfdpodlnijeoaaX0
import Derived.Test.YtbfdpodlnijeoaaX15
import Derived.Test.YtbfdpodlnijeoaaX16
import Derived.Test.YtbfdpodlnijeoaaX17
import Derived.Test.YtbfdpodlnijeoaaX19
import Derived.Test.YtbfdpodlnijeoaaX22
import Derived.Test.YtbfdpodlnijeoaaX30
namespace Go.Proofs.Ytbfdpodlnijeoaa.X
open Go.RowKit Go.Proofs.YtbfdpodlnijeoaaW.PrintWords Go.Proofs.YtbfdpodlnijeoaaW.PrintLast Go.Proofs.YtbfdpodlnijeoaaW.PrintMore
attribute [local go_sem] max2_int min2_int max_two min_two max_three min_three max_four min_four   -- for this text's walks alone
set_option linter.unusedVariables false
set_option linter.unusedSimpArgs false

/-! ### spigotlaw42_LeaseParts: function 6 -/
def spigotlaw42_LeaseParts.j0 : Nat → List (S31) → Int → Bool → Bool → Int → Int → Int → Int → Int → Int → Int → List Int → Option (Bool)
  | 0, _, _, _, _, _, _, _, _, _, _, _, _ => none
  | k + 1, x1, x2, x7, x45, x518000, x518001, x518002, x518003, x518004, x518005, x518006, x518007 => if x45 = true then (some x7) else ((lease_Run.f k x518000 x518001 x518002 x518003 x518004 x518005 x518006 x518007 x1).bind fun bt521 => (if bt521.2.2.2.2.2.2.2.2.2 = 0 then (if 0 ≤ x2 then (if x2 ≤ (x1.length : Int) then ((lease_Run.f k x518000 x518001 x518002 x518003 x518004 x518005 x518006 x518007 (x1.take (x2 : Int).toNat)).bind fun bt540 => ((lease_Run.f k bt540.1 bt540.2.1 bt540.2.2.1 bt540.2.2.2.1 bt540.2.2.2.2.1 bt540.2.2.2.2.2.1 bt540.2.2.2.2.2.2.1 bt540.2.2.2.2.2.2.2.1 (x1.drop (x2 : Int).toNat)).bind fun bt559 => ((lease_Spent.f k x1 bt521.2.2.2.2.2.2.2.2.1).bind fun bt574 => ((lease_Spent.f k (x1.take (x2 : Int).toNat) bt540.2.2.2.2.2.2.2.2.1).bind fun bt580 => ((lease_Spent.f k (x1.drop (x2 : Int).toNat) bt559.2.2.2.2.2.2.2.2.1).bind fun bt586 => (if x7 = true then (if bt540.2.2.2.2.2.2.2.2.2 = 0 then (if bt559.2.2.2.2.2.2.2.2.2 = 0 then ((spigotref42_Same.f k bt521.1 bt521.2.1 bt521.2.2.1 bt521.2.2.2.1 bt521.2.2.2.2.1 bt521.2.2.2.2.2.1 bt521.2.2.2.2.2.2.1 bt521.2.2.2.2.2.2.2.1 bt559.1 bt559.2.1 bt559.2.2.1 bt559.2.2.2.1 bt559.2.2.2.2.1 bt559.2.2.2.2.2.1 bt559.2.2.2.2.2.2.1 bt559.2.2.2.2.2.2.2.1).bind fun t588 => (if t588 = true then ((some (([] : List Int) : List Int)).bind fun y589 => (if y589.length + bt540.2.2.2.2.2.2.2.2.1.length < 17592186044416 then ((some (y589 ++ bt540.2.2.2.2.2.2.2.2.1 : List Int)).bind fun y592 => (if y592.length + bt559.2.2.2.2.2.2.2.2.1.length < 17592186044416 then ((spigotref42_SameLongs.f k (y592 ++ bt559.2.2.2.2.2.2.2.2.1) bt521.2.2.2.2.2.2.2.2.1).bind fun t598 => (if t598 = true then (if bt574.2 = 0 then (if bt580.2 = 0 then (if bt586.2 = 0 then (some (bt574.1 == (wrap64 (bt580.1 + bt586.1)))) else (none)) else (none)) else (none)) else (none))) else (none))) else (none))) else (none))) else (none)) else (none)) else (none))))))) else (none)) else (none)) else (if x7 = true then (some ((bt521.2.2.2.2.2.2.2.2.1.length : Int) == 0)) else (none))))
def spigotlaw42_LeaseParts.f (k : Nat) (a0_0 : Int) (a0_1 : Int) (a0_2 : Int) (a0_3 : Int) (a0_4 : Int) (a0_5 : Int) (a0_6 : Int) (l0_7 : List Int) (l1 : List (S31)) (a2 : Int) : Option (Bool) := (spigotlaw42_alive.f k).bind fun t518 => ((spigotref42_Great.f a0_0 a0_1 a0_2 a0_3 a0_4 a0_5 a0_6 l0_7 l1).bind fun t519 => (if t519 = true then (spigotlaw42_LeaseParts.j0 k l1 a2 t518 true a0_0 a0_1 a0_2 a0_3 a0_4 a0_5 a0_6 l0_7) else ((spigotref42_Check.f k a0_0 a0_1 a0_2 a0_3 a0_4 a0_5 a0_6 l0_7).bind fun t520 => (if t520 = 0 then (if a2 < 0 then (spigotlaw42_LeaseParts.j0 k l1 a2 t518 true a0_0 a0_1 a0_2 a0_3 a0_4 a0_5 a0_6 l0_7) else (if a2 > (l1.length : Int) then (spigotlaw42_LeaseParts.j0 k l1 a2 t518 true a0_0 a0_1 a0_2 a0_3 a0_4 a0_5 a0_6 l0_7) else (spigotlaw42_LeaseParts.j0 k l1 a2 t518 (!t518) a0_0 a0_1 a0_2 a0_3 a0_4 a0_5 a0_6 l0_7))) else (spigotlaw42_LeaseParts.j0 k l1 a2 t518 true a0_0 a0_1 a0_2 a0_3 a0_4 a0_5 a0_6 l0_7)))))
theorem spigotlaw42_LeaseParts.mono_l : ∀ k, (∀ y0 y1 y2 y3 y4 y5 y6 y7 y8 y9 y10 y11, LeO (spigotlaw42_LeaseParts.j0 k y0 y1 y2 y3 y4 y5 y6 y7 y8 y9 y10 y11) (spigotlaw42_LeaseParts.j0 (k + 1) y0 y1 y2 y3 y4 y5 y6 y7 y8 y9 y10 y11))
  | 0 => fun _ _ _ _ _ _ _ _ _ _ _ _ r h => by simp [spigotlaw42_LeaseParts.j0] at h
  | k + 1 => by
    have ih0 := spigotlaw42_LeaseParts.mono_l k
    · intro y0 y1 y2 y3 y4 y5 y6 y7 y8 y9 y10 y11
      unfold spigotlaw42_LeaseParts.j0
      repeat' first
      | (with_reducible exact ih0 _ _ _ _ _ _ _ _ _ _ _ _)
      | (with_reducible exact lease_Run.mono _ _ _ _ _ _ _ _ _ _)
      | (with_reducible exact lease_Spent.mono _ _ _)
      | (with_reducible exact spigotlaw42_alive.mono _)
      | (with_reducible exact spigotref42_Check.mono _ _ _ _ _ _ _ _ _)
      | (with_reducible exact spigotref42_Same.mono _ _ _ _ _ _ _ _ _ _ _ _ _ _ _ _ _)
      | (with_reducible exact spigotref42_SameLongs.mono _ _ _)
      | (with_reducible exact LeO.refl _)
      | (with_reducible exact LeO.none _)
      | (with_reducible refine LeO.ite ?_ ?_)
      | (with_reducible refine LeO.bind ?_ (fun _ => ?_))
      | exact ih0 _ _ _ _ _ _ _ _ _ _ _ _
      | exact lease_Run.mono _ _ _ _ _ _ _ _ _ _
      | exact lease_Spent.mono _ _ _
      | exact spigotlaw42_alive.mono _
      | exact spigotref42_Check.mono _ _ _ _ _ _ _ _ _
      | exact spigotref42_Same.mono _ _ _ _ _ _ _ _ _ _ _ _ _ _ _ _ _
      | exact spigotref42_SameLongs.mono _ _ _
      | exact LeO.none _
      | refine LeO.ite ?_ ?_
      | refine LeO.bind ?_ (fun _ => ?_)
theorem spigotlaw42_LeaseParts.mono : ∀ a0 a1 a2 a3 a4 a5 a6 a7 a8 a9 k, LeO (spigotlaw42_LeaseParts.f k a0 a1 a2 a3 a4 a5 a6 a7 a8 a9) (spigotlaw42_LeaseParts.f (k + 1) a0 a1 a2 a3 a4 a5 a6 a7 a8 a9) := by
  intro a0 a1 a2 a3 a4 a5 a6 a7 a8 a9 k
  have ih0 := spigotlaw42_LeaseParts.mono_l k
  unfold spigotlaw42_LeaseParts.f
  repeat' first
      | (with_reducible exact ih0 _ _ _ _ _ _ _ _ _ _ _ _)
      | (with_reducible exact lease_Run.mono _ _ _ _ _ _ _ _ _ _)
      | (with_reducible exact lease_Spent.mono _ _ _)
      | (with_reducible exact spigotlaw42_alive.mono _)
      | (with_reducible exact spigotref42_Check.mono _ _ _ _ _ _ _ _ _)
      | (with_reducible exact spigotref42_Same.mono _ _ _ _ _ _ _ _ _ _ _ _ _ _ _ _ _)
      | (with_reducible exact spigotref42_SameLongs.mono _ _ _)
      | (with_reducible exact LeO.refl _)
      | (with_reducible exact LeO.none _)
      | (with_reducible refine LeO.ite ?_ ?_)
      | (with_reducible refine LeO.bind ?_ (fun _ => ?_))
      | exact ih0 _ _ _ _ _ _ _ _ _ _ _ _
      | exact lease_Run.mono _ _ _ _ _ _ _ _ _ _
      | exact lease_Spent.mono _ _ _
      | exact spigotlaw42_alive.mono _
      | exact spigotref42_Check.mono _ _ _ _ _ _ _ _ _
      | exact spigotref42_Same.mono _ _ _ _ _ _ _ _ _ _ _ _ _ _ _ _ _
      | exact spigotref42_SameLongs.mono _ _ _
      | exact LeO.none _
      | refine LeO.ite ?_ ?_
      | refine LeO.bind ?_ (fun _ => ?_)
def spigotlaw42_LeaseParts.T7 : Bool × List (List Nat × List Nat) := (true, [([], []), ([], []), ([], []), ([1, 2], [1, 2]), ([0, 3], [0, 3]), ([4], [4]), ([5], [5]), ([5], [5]), ([5], [5]), ([], []), ([9, 6, 4, 0, 1, 2, 3, 4, 5, 6, 9], [6, 9]), ([7, 10, 0, 1, 2, 3, 4, 5, 6, 7, 9, 10], [7]), ([8, 11, 0, 1, 2, 3, 4, 5, 6, 7, 8, 9, 10, 11], [8])])
def spigotlaw42_LeaseParts.B7 : List Nat := [0, 0, 0, 6, 15, 31, 63, 63, 63, 0, 639, 1791, 4095]
theorem spigotlaw42_LeaseParts.tab7 : rtab .any (opsOf Try.f6 7) = spigotlaw42_LeaseParts.T7 := by kernel_rfl
theorem spigotlaw42_LeaseParts.bits7 : waitsOk spigotlaw42_LeaseParts.T7.2 spigotlaw42_LeaseParts.B7 = true := by kernel_rfl
def spigotlaw42_LeaseParts.T8 : Bool × List (List Nat × List Nat) := (true, [([], []), ([], []), ([], []), ([1, 2], [1, 2]), ([0, 3], [0, 3]), ([4], [4]), ([5], [5]), ([5], [5]), ([5], [5]), ([], []), ([9, 6, 4, 0, 1, 2, 3, 4, 5, 6, 9], [6, 9]), ([7, 10, 0, 1, 2, 3, 4, 5, 6, 7, 9, 10], [7]), ([8, 11, 0, 1, 2, 3, 4, 5, 6, 7, 8, 9, 10, 11], [8])])
def spigotlaw42_LeaseParts.B8 : List Nat := [0, 0, 0, 6, 15, 31, 63, 63, 63, 0, 639, 1791, 4095]
theorem spigotlaw42_LeaseParts.tab8 : rtab .any (opsOf Try.f6 8) = spigotlaw42_LeaseParts.T8 := by kernel_rfl
theorem spigotlaw42_LeaseParts.bits8 : waitsOk spigotlaw42_LeaseParts.T8.2 spigotlaw42_LeaseParts.B8 = true := by kernel_rfl
set_option maxHeartbeats 8000000 in
set_option maxRecDepth 100000 in
theorem spigotlaw42_LeaseParts.calls (k : Nat) (a0_0 : Int) (a0_1 : Int) (a0_2 : Int) (a0_3 : Int) (a0_4 : Int) (a0_5 : Int) (a0_6 : Int) (A0_7 : Option Addr) (c0_7 : Nat) (l0_7 : List Int) (A1 : Option Addr) (c1 : Nat) (l1 : List (S31)) (a2 : Int) (r : Bool) (w : World) (hr0_7 : Kd.C (Kd.int .i64) w A0_7 l0_7.length l0_7) (hc0_7 : l0_7.length ≤ c0_7) (hr1 : Kd.C k31 w A1 l1.length l1) (hc1 : l1.length ≤ c1) (h : spigotlaw42_LeaseParts.f k a0_0 a0_1 a0_2 a0_3 a0_4 a0_5 a0_6 l0_7 l1 a2 = some r) :
  Calls Try.prog 6 #[.agg #[.int .i64 a0_0, .int .i64 a0_1, .int .i64 a0_2, .int .i64 a0_3, .int .i64 a0_4, .int .u64 a0_5, .int .i64 a0_6, .slice A0_7 l0_7.length c0_7], .slice A1 l1.length c1, .int .i64 a2] w fun e w' => e = .returned (.bool r) ∧ Below w.heap.size w w' := by
 have hu29 := Try.underlying29
 have HR0_7 := Aside0.mk hr0_7
 have HC0_7 := Aside0.mk hc0_7
 clear hr0_7 hc0_7
 have HR1 := Aside0.mk hr1
 have HC1 := Aside0.mk hc1
 clear hr1 hc1
 have HB := Aside0.mk (Below.refl w.heap.size w)
 have H : ((spigotlaw42_alive.f k).bind fun t518 => ((spigotref42_Great.f a0_0 a0_1 a0_2 a0_3 a0_4 a0_5 a0_6 l0_7 l1).bind fun t519 => (if t519 = true then (spigotlaw42_LeaseParts.j0 k l1 a2 t518 true a0_0 a0_1 a0_2 a0_3 a0_4 a0_5 a0_6 l0_7) else ((spigotref42_Check.f k a0_0 a0_1 a0_2 a0_3 a0_4 a0_5 a0_6 l0_7).bind fun t520 => (if t520 = 0 then (if a2 < 0 then (spigotlaw42_LeaseParts.j0 k l1 a2 t518 true a0_0 a0_1 a0_2 a0_3 a0_4 a0_5 a0_6 l0_7) else (if a2 > (l1.length : Int) then (spigotlaw42_LeaseParts.j0 k l1 a2 t518 true a0_0 a0_1 a0_2 a0_3 a0_4 a0_5 a0_6 l0_7) else (spigotlaw42_LeaseParts.j0 k l1 a2 t518 (!t518) a0_0 a0_1 a0_2 a0_3 a0_4 a0_5 a0_6 l0_7))) else (spigotlaw42_LeaseParts.j0 k l1 a2 t518 true a0_0 a0_1 a0_2 a0_3 a0_4 a0_5 a0_6 l0_7)))))) = some r := h
 clear h
 obtain ⟨t518, A4, H⟩ := bo_ H
 try dsimp only at H
 have HC5 := Aside0.mk H
 clear H
 go_enter Try.func6, Try.ntmps6
 go_upto_region 2 with (first | ((with_reducible refine gate_dst (N := 3) rfl ?_); (try refine ug_ (by rfl) ?_); refine bx_ #[.int .i64 a0_0, .int .i64 a0_1, .int .i64 a0_2, .int .i64 a0_3, .int .i64 a0_4, .int .u64 a0_5, .int .i64 a0_6, .slice A0_7 l0_7.length c0_7] 29 ?_; intro gb517 hg w6 BK517 hb; have GW517 := bz_ w hg; replace HB := bs_ w hb; clear hb hg) | ((with_reducible refine gate_callee (f := 10) rfl ?_); (try refine ug_ (by rfl) ?_); refine goesA_ (some 23) Try.func10 #[] ?_; (with_reducible refine (spigotlaw42_alive.calls k  t518 _ A4.out).mono ?_); rintro e w7 ⟨rfl, hb⟩; refine ⟨_, rfl, ?_⟩; replace BK517 := bb_ BK517 hb; replace HB := bs_ w hb; clear hb))
 (try simp only [Act.put, List.setIfInBounds_toArray, List.set_cons_zero, List.set_cons_succ])
 go_cut [45] (fun v45 wc => ∃ (kq : Nat) (x45_4 : Bool), v45 = .bool x45_4 ∧ Aside0 (spigotlaw42_LeaseParts.j0 kq l1 a2 t518 x45_4 a0_0 a0_1 a0_2 a0_3 a0_4 a0_5 a0_6 l0_7 = some r) ∧ Aside0 (kq ≤ k) ∧ Aside0 (wc.heap[gb517]? = some (.cells #[.int .i64 a0_0, .int .i64 a0_1, .int .i64 a0_2, .int .i64 a0_3, .int .i64 a0_4, .int .u64 a0_5, .int .i64 a0_6, (.slice A0_7 l0_7.length c0_7)] 29 (0, 0))) ∧ Aside0 (Below w.heap.size w wc))
 case first =>
  have H := HC5.out
  clear HC5
  obtain ⟨t519, A8, H⟩ := bo_ H
  try dsimp only at H
  by_cases c9 : t519 = true
  ·subst c9
   rw [if_pos rfl] at H
   try dsimp only at H
   have H' := Aside0.mk H
   clear H
   replace hc517 := ce8_ BK517
   go_wp2_with (first | ((with_reducible refine gate_callee (f := 11) rfl ?_); (try refine ug_ (by rfl) ?_); refine goesA_ (some 26) Try.func11 #[.agg #[.int .i64 a0_0, .int .i64 a0_1, .int .i64 a0_2, .int .i64 a0_3, .int .i64 a0_4, .int .u64 a0_5, .int .i64 a0_6, .slice A0_7 l0_7.length c0_7], .slice A1 l1.length c1] ?_; (with_reducible refine (spigotref42_Great.calls a0_0 a0_1 a0_2 a0_3 a0_4 a0_5 a0_6 _ _ l0_7 _ _ l1 true _ ?side1 ?side2 ?side3 ?side4 A8.out).mono ?_); (case side1 => exact cs_ HR0_7 HB); (case side2 => exact HC0_7.out); (case side3 => exact cs_ HR1 HB); (case side4 => exact HC1.out); rintro e w11 ⟨rfl, hb⟩; refine ⟨_, rfl, ?_⟩; replace BK517 := bb_ BK517 hb; replace HB := bs_ w hb; clear hb))
   go_meet
   case rel => exact ⟨_, (true), rf_, H', al_, ⟨bq_ BK517⟩, bw_⟩
  ·replace c9 := Bool.eq_false_iff.mpr c9
   subst c9
   rw [if_neg (show ¬ (false = true) by decide)] at H
   try dsimp only at H
   obtain ⟨t520, A12, H⟩ := bo_ H
   try dsimp only at H
   by_cases c13 : t520 = 0
   ·rw [if_pos c13] at H
    have c13b0 : (t520 == 0) = true := beq_iff_eq.mpr c13
    have c13b1 : (t520 != 0) = false := bne_eq_false_iff_eq.mpr c13
    clear c13
    (first | rw [c13b0] | (simp only [i64_w, i32_w]; rw [c13b0]) | skip)
    by_cases c14 : a2 < 0
    ·rw [if_pos c14] at H
     have c14b0 : decide (a2 < 0) = true := decide_eq_true c14
     clear c14
     have H' := Aside0.mk H
     clear H
     replace hc517 := ce8_ BK517
     go_wp2_with (first | ((with_reducible refine gate_callee (f := 11) rfl ?_); (try refine ug_ (by rfl) ?_); refine goesA_ (some 26) Try.func11 #[.agg #[.int .i64 a0_0, .int .i64 a0_1, .int .i64 a0_2, .int .i64 a0_3, .int .i64 a0_4, .int .u64 a0_5, .int .i64 a0_6, .slice A0_7 l0_7.length c0_7], .slice A1 l1.length c1] ?_; (with_reducible refine (spigotref42_Great.calls a0_0 a0_1 a0_2 a0_3 a0_4 a0_5 a0_6 _ _ l0_7 _ _ l1 false _ ?side1 ?side2 ?side3 ?side4 A8.out).mono ?_); (case side1 => exact cs_ HR0_7 HB); (case side2 => exact HC0_7.out); (case side3 => exact cs_ HR1 HB); (case side4 => exact HC1.out); rintro e w16 ⟨rfl, hb⟩; refine ⟨_, rfl, ?_⟩; replace BK517 := bb_ BK517 hb; replace HB := bs_ w hb; clear hb; replace hc517 := ce8_ BK517) | (go_at_call 12; (with_reducible refine (spigotref42_Check.calls k a0_0 a0_1 a0_2 a0_3 a0_4 a0_5 a0_6 _ _ l0_7 t520 _ ?side1 ?side2 A12.out).mono ?_); (case side1 => exact cs_ HR0_7 HB); (case side2 => exact HC0_7.out); rintro e w18 ⟨rfl, hb⟩; replace BK517 := bb_ BK517 hb; replace HB := bs_ w hb; clear hb))
     go_meet
     case rel => exact ⟨_, (true), rf_, H', al_, ⟨bq_ BK517⟩, bw_⟩
    ·rw [if_neg c14] at H
     have c14b0 : decide (a2 < 0) = false := decide_eq_false c14
     clear c14
     by_cases c19 : a2 > (l1.length : Int)
     ·rw [if_pos c19] at H
      have c19b0 : decide ((l1.length : Int) < a2) = true := decide_eq_true c19
      clear c19
      have H' := Aside0.mk H
      clear H
      replace hc517 := ce8_ BK517
      go_wp2_with (first | ((with_reducible refine gate_callee (f := 11) rfl ?_); (try refine ug_ (by rfl) ?_); refine goesA_ (some 26) Try.func11 #[.agg #[.int .i64 a0_0, .int .i64 a0_1, .int .i64 a0_2, .int .i64 a0_3, .int .i64 a0_4, .int .u64 a0_5, .int .i64 a0_6, .slice A0_7 l0_7.length c0_7], .slice A1 l1.length c1] ?_; (with_reducible refine (spigotref42_Great.calls a0_0 a0_1 a0_2 a0_3 a0_4 a0_5 a0_6 _ _ l0_7 _ _ l1 false _ ?side1 ?side2 ?side3 ?side4 A8.out).mono ?_); (case side1 => exact cs_ HR0_7 HB); (case side2 => exact HC0_7.out); (case side3 => exact cs_ HR1 HB); (case side4 => exact HC1.out); rintro e w21 ⟨rfl, hb⟩; refine ⟨_, rfl, ?_⟩; replace BK517 := bb_ BK517 hb; replace HB := bs_ w hb; clear hb; replace hc517 := ce8_ BK517) | (go_at_call 12; (with_reducible refine (spigotref42_Check.calls k a0_0 a0_1 a0_2 a0_3 a0_4 a0_5 a0_6 _ _ l0_7 t520 _ ?side1 ?side2 A12.out).mono ?_); (case side1 => exact cs_ HR0_7 HB); (case side2 => exact HC0_7.out); rintro e w23 ⟨rfl, hb⟩; replace BK517 := bb_ BK517 hb; replace HB := bs_ w hb; clear hb))
      go_meet
      case rel => exact ⟨_, (true), rf_, H', al_, ⟨bq_ BK517⟩, bw_⟩
     ·rw [if_neg c19] at H
      have c19b0 : decide ((l1.length : Int) < a2) = false := decide_eq_false c19
      clear c19
      have H' := Aside0.mk H
      clear H
      replace hc517 := ce8_ BK517
      go_wp2_with (first | ((with_reducible refine gate_callee (f := 11) rfl ?_); (try refine ug_ (by rfl) ?_); refine goesA_ (some 26) Try.func11 #[.agg #[.int .i64 a0_0, .int .i64 a0_1, .int .i64 a0_2, .int .i64 a0_3, .int .i64 a0_4, .int .u64 a0_5, .int .i64 a0_6, .slice A0_7 l0_7.length c0_7], .slice A1 l1.length c1] ?_; (with_reducible refine (spigotref42_Great.calls a0_0 a0_1 a0_2 a0_3 a0_4 a0_5 a0_6 _ _ l0_7 _ _ l1 false _ ?side1 ?side2 ?side3 ?side4 A8.out).mono ?_); (case side1 => exact cs_ HR0_7 HB); (case side2 => exact HC0_7.out); (case side3 => exact cs_ HR1 HB); (case side4 => exact HC1.out); rintro e w25 ⟨rfl, hb⟩; refine ⟨_, rfl, ?_⟩; replace BK517 := bb_ BK517 hb; replace HB := bs_ w hb; clear hb; replace hc517 := ce8_ BK517) | (go_at_call 12; (with_reducible refine (spigotref42_Check.calls k a0_0 a0_1 a0_2 a0_3 a0_4 a0_5 a0_6 _ _ l0_7 t520 _ ?side1 ?side2 A12.out).mono ?_); (case side1 => exact cs_ HR0_7 HB); (case side2 => exact HC0_7.out); rintro e w27 ⟨rfl, hb⟩; replace BK517 := bb_ BK517 hb; replace HB := bs_ w hb; clear hb))
      go_meet
      case rel => exact ⟨_, (!t518), rf_, H', al_, ⟨bq_ BK517⟩, bw_⟩
   ·rw [if_neg c13] at H
    have c13b0 : (t520 == 0) = false := beq_eq_false_iff_ne.mpr c13
    have c13b1 : (t520 != 0) = true := bne_iff_ne.mpr c13
    (first | rw [c13b0] | (simp only [i64_w, i32_w]; rw [c13b0]) | skip)
    have H' := Aside0.mk H
    clear H
    replace hc517 := ce8_ BK517
    go_wp2_with (first | ((with_reducible refine gate_callee (f := 11) rfl ?_); (try refine ug_ (by rfl) ?_); refine goesA_ (some 26) Try.func11 #[.agg #[.int .i64 a0_0, .int .i64 a0_1, .int .i64 a0_2, .int .i64 a0_3, .int .i64 a0_4, .int .u64 a0_5, .int .i64 a0_6, .slice A0_7 l0_7.length c0_7], .slice A1 l1.length c1] ?_; (with_reducible refine (spigotref42_Great.calls a0_0 a0_1 a0_2 a0_3 a0_4 a0_5 a0_6 _ _ l0_7 _ _ l1 false _ ?side1 ?side2 ?side3 ?side4 A8.out).mono ?_); (case side1 => exact cs_ HR0_7 HB); (case side2 => exact HC0_7.out); (case side3 => exact cs_ HR1 HB); (case side4 => exact HC1.out); rintro e w29 ⟨rfl, hb⟩; refine ⟨_, rfl, ?_⟩; replace BK517 := bb_ BK517 hb; replace HB := bs_ w hb; clear hb; replace hc517 := ce8_ BK517) | (go_at_call 12; (with_reducible refine (spigotref42_Check.calls k a0_0 a0_1 a0_2 a0_3 a0_4 a0_5 a0_6 _ _ l0_7 t520 _ ?side1 ?side2 A12.out).mono ?_); (case side1 => exact cs_ HR0_7 HB); (case side2 => exact HC0_7.out); rintro e w31 ⟨rfl, hb⟩; replace BK517 := bb_ BK517 hb; replace HB := bs_ w hb; clear hb))
    go_meet
    case rel => exact ⟨_, (true), rf_, H', al_, ⟨bq_ BK517⟩, bw_⟩
 case rest =>
  clear HC5
  try clear c1
  obtain ⟨kq, x45_4, rfl, HA, HJ4, BK517, HB⟩ := hcut
  cases kq with
  | zero => exact absurd HA.out (by simp [spigotlaw42_LeaseParts.j0])
  | succ kj4 =>
   have H := HA.out
   clear HA
   simp only [spigotlaw42_LeaseParts.j0] at H
   by_cases c32 : x45_4 = true
   ·subst c32
    replace H : (some t518) = some r := by rw [if_pos rfl] at H; exact H
    obtain rfl := Option.some.inj H
    go_wp2
    go_ret
    exact fi_
   ·replace c32 := Bool.eq_false_iff.mpr c32
    subst c32
    rw [if_neg (show ¬ (false = true) by decide)] at H
    try dsimp only at H
    obtain ⟨⟨t521, t522, t523, t524, t525, t526, t527, t528, t531, t534⟩, A33, H⟩ := bo_ H
    try dsimp only at H
    by_cases c34 : t534 = 0
    ·rw [if_pos c34] at H
     have c34b0 : (t534 == 0) = true := beq_iff_eq.mpr c34
     have c34b1 : (t534 != 0) = false := bne_eq_false_iff_eq.mpr c34
     clear c34
     by_cases c35 : 0 ≤ a2
     rotate_left
     ·rw [if_neg c35] at H; exact absurd H (by simp)
     rw [if_pos c35] at H
     have c35b0 := eq_true c35
     have c35b1 : decide (0 ≤ a2) = true := decide_eq_true c35
     clear c35
     by_cases c36 : a2 ≤ (l1.length : Int)
     rotate_left
     ·rw [if_neg c36] at H; exact absurd H (by simp)
     rw [if_pos c36] at H
     have c36b0 := eq_true c36
     have c36b1 : decide (a2 ≤ (l1.length : Int)) = true := decide_eq_true c36
     clear c36
     obtain ⟨y536, hy536⟩ : ∃ y_ : List (S31), y_ = (l1.take (a2 : Int).toNat) := ⟨_, rfl⟩
     replace H : ((lease_Run.f kj4 a0_0 a0_1 a0_2 a0_3 a0_4 a0_5 a0_6 l0_7 y536).bind fun bt540 => ((lease_Run.f kj4 bt540.1 bt540.2.1 bt540.2.2.1 bt540.2.2.2.1 bt540.2.2.2.2.1 bt540.2.2.2.2.2.1 bt540.2.2.2.2.2.2.1 bt540.2.2.2.2.2.2.2.1 (l1.drop (a2 : Int).toNat)).bind fun bt559 => ((lease_Spent.f kj4 l1 t531).bind fun bt574 => ((lease_Spent.f kj4 (l1.take (a2 : Int).toNat) bt540.2.2.2.2.2.2.2.2.1).bind fun bt580 => ((lease_Spent.f kj4 (l1.drop (a2 : Int).toNat) bt559.2.2.2.2.2.2.2.2.1).bind fun bt586 => (if t518 = true then (if bt540.2.2.2.2.2.2.2.2.2 = 0 then (if bt559.2.2.2.2.2.2.2.2.2 = 0 then ((spigotref42_Same.f kj4 t521 t522 t523 t524 t525 t526 t527 t528 bt559.1 bt559.2.1 bt559.2.2.1 bt559.2.2.2.1 bt559.2.2.2.2.1 bt559.2.2.2.2.2.1 bt559.2.2.2.2.2.2.1 bt559.2.2.2.2.2.2.2.1).bind fun t588 => (if t588 = true then ((some (([] : List Int) : List Int)).bind fun y589 => (if y589.length + bt540.2.2.2.2.2.2.2.2.1.length < 17592186044416 then ((some (y589 ++ bt540.2.2.2.2.2.2.2.2.1 : List Int)).bind fun y592 => (if y592.length + bt559.2.2.2.2.2.2.2.2.1.length < 17592186044416 then ((spigotref42_SameLongs.f kj4 (y592 ++ bt559.2.2.2.2.2.2.2.2.1) t531).bind fun t598 => (if t598 = true then (if bt574.2 = 0 then (if bt580.2 = 0 then (if bt586.2 = 0 then (some (bt574.1 == (wrap64 (bt580.1 + bt586.1)))) else (none)) else (none)) else (none)) else (none))) else (none))) else (none))) else (none))) else (none)) else (none)) else (none))))))) = some r := by first | (rw [hy536]; with_reducible exact H) | (have H2_ := (Option.bind_some _ _).symm.trans H; rw [hy536]; with_reducible exact H2_) | (have H2_ := (Option.bind_some _ _).symm.trans H; with_reducible exact H2_) | with_reducible exact H | (rw [hy536]; exact H) | exact H
     have Ny536 := Aside0.mk hy536
     clear hy536
     obtain ⟨⟨t540, t541, t542, t543, t544, t545, t546, t547, t550, t553⟩, A37, H⟩ := bo_ H
     try dsimp only at H
     have c38b0 := eq_true (of_decide_eq_true (by first | (with_reducible assumption) | assumption) : 0 ≤ a2)
     have c39b0 := eq_true (of_decide_eq_true (by first | (with_reducible assumption) | assumption) : a2 ≤ (l1.length : Int))
     obtain ⟨y555, hy555⟩ : ∃ y_ : List (S31), y_ = (l1.drop (a2 : Int).toNat) := ⟨_, rfl⟩
     replace H : ((lease_Run.f kj4 t540 t541 t542 t543 t544 t545 t546 t547 y555).bind fun bt559 => ((lease_Spent.f kj4 l1 t531).bind fun bt574 => ((lease_Spent.f kj4 (l1.take (a2 : Int).toNat) t550).bind fun bt580 => ((lease_Spent.f kj4 (l1.drop (a2 : Int).toNat) bt559.2.2.2.2.2.2.2.2.1).bind fun bt586 => (if t518 = true then (if t553 = 0 then (if bt559.2.2.2.2.2.2.2.2.2 = 0 then ((spigotref42_Same.f kj4 t521 t522 t523 t524 t525 t526 t527 t528 bt559.1 bt559.2.1 bt559.2.2.1 bt559.2.2.2.1 bt559.2.2.2.2.1 bt559.2.2.2.2.2.1 bt559.2.2.2.2.2.2.1 bt559.2.2.2.2.2.2.2.1).bind fun t588 => (if t588 = true then ((some (([] : List Int) : List Int)).bind fun y589 => (if y589.length + t550.length < 17592186044416 then ((some (y589 ++ t550 : List Int)).bind fun y592 => (if y592.length + bt559.2.2.2.2.2.2.2.2.1.length < 17592186044416 then ((spigotref42_SameLongs.f kj4 (y592 ++ bt559.2.2.2.2.2.2.2.2.1) t531).bind fun t598 => (if t598 = true then (if bt574.2 = 0 then (if bt580.2 = 0 then (if bt586.2 = 0 then (some (bt574.1 == (wrap64 (bt580.1 + bt586.1)))) else (none)) else (none)) else (none)) else (none))) else (none))) else (none))) else (none))) else (none)) else (none)) else (none)))))) = some r := by first | (rw [hy555]; with_reducible exact H) | (have H2_ := (Option.bind_some _ _).symm.trans H; rw [hy555]; with_reducible exact H2_) | (have H2_ := (Option.bind_some _ _).symm.trans H; with_reducible exact H2_) | with_reducible exact H | (rw [hy555]; exact H) | exact H
     have Ny555 := Aside0.mk hy555
     clear hy555
     obtain ⟨⟨t559, t560, t561, t562, t563, t564, t565, t566, t569, t572⟩, A40, H⟩ := bo_ H
     try dsimp only at H
     obtain ⟨⟨t574, t575⟩, A41, H⟩ := bo_ H
     try dsimp only at H
     have c42b0 := eq_true (of_decide_eq_true (by first | (with_reducible assumption) | assumption) : 0 ≤ a2)
     have c43b0 := eq_true (of_decide_eq_true (by first | (with_reducible assumption) | assumption) : a2 ≤ (l1.length : Int))
     obtain ⟨y576, hy576⟩ : ∃ y_ : List (S31), y_ = (l1.take (a2 : Int).toNat) := ⟨_, rfl⟩
     replace H : ((lease_Spent.f kj4 y576 t550).bind fun bt580 => ((lease_Spent.f kj4 (l1.drop (a2 : Int).toNat) t569).bind fun bt586 => (if t518 = true then (if t553 = 0 then (if t572 = 0 then ((spigotref42_Same.f kj4 t521 t522 t523 t524 t525 t526 t527 t528 t559 t560 t561 t562 t563 t564 t565 t566).bind fun t588 => (if t588 = true then ((some (([] : List Int) : List Int)).bind fun y589 => (if y589.length + t550.length < 17592186044416 then ((some (y589 ++ t550 : List Int)).bind fun y592 => (if y592.length + t569.length < 17592186044416 then ((spigotref42_SameLongs.f kj4 (y592 ++ t569) t531).bind fun t598 => (if t598 = true then (if t575 = 0 then (if bt580.2 = 0 then (if bt586.2 = 0 then (some (t574 == (wrap64 (bt580.1 + bt586.1)))) else (none)) else (none)) else (none)) else (none))) else (none))) else (none))) else (none))) else (none)) else (none)) else (none)))) = some r := by first | (rw [hy576]; with_reducible exact H) | (have H2_ := (Option.bind_some _ _).symm.trans H; rw [hy576]; with_reducible exact H2_) | (have H2_ := (Option.bind_some _ _).symm.trans H; with_reducible exact H2_) | with_reducible exact H | (rw [hy576]; exact H) | exact H
     have Ny576 := Aside0.mk hy576
     clear hy576
     obtain ⟨⟨t580, t581⟩, A44, H⟩ := bo_ H
     try dsimp only at H
     have c45b0 := eq_true (of_decide_eq_true (by first | (with_reducible assumption) | assumption) : 0 ≤ a2)
     have c46b0 := eq_true (of_decide_eq_true (by first | (with_reducible assumption) | assumption) : a2 ≤ (l1.length : Int))
     obtain ⟨y582, hy582⟩ : ∃ y_ : List (S31), y_ = (l1.drop (a2 : Int).toNat) := ⟨_, rfl⟩
     replace H : ((lease_Spent.f kj4 y582 t569).bind fun bt586 => (if t518 = true then (if t553 = 0 then (if t572 = 0 then ((spigotref42_Same.f kj4 t521 t522 t523 t524 t525 t526 t527 t528 t559 t560 t561 t562 t563 t564 t565 t566).bind fun t588 => (if t588 = true then ((some (([] : List Int) : List Int)).bind fun y589 => (if y589.length + t550.length < 17592186044416 then ((some (y589 ++ t550 : List Int)).bind fun y592 => (if y592.length + t569.length < 17592186044416 then ((spigotref42_SameLongs.f kj4 (y592 ++ t569) t531).bind fun t598 => (if t598 = true then (if t575 = 0 then (if t581 = 0 then (if bt586.2 = 0 then (some (t574 == (wrap64 (t580 + bt586.1)))) else (none)) else (none)) else (none)) else (none))) else (none))) else (none))) else (none))) else (none)) else (none)) else (none))) = some r := by first | (rw [hy582]; with_reducible exact H) | (have H2_ := (Option.bind_some _ _).symm.trans H; rw [hy582]; with_reducible exact H2_) | (have H2_ := (Option.bind_some _ _).symm.trans H; with_reducible exact H2_) | with_reducible exact H | (rw [hy582]; exact H) | exact H
     have Ny582 := Aside0.mk hy582
     clear hy582
     obtain ⟨⟨t586, t587⟩, A47, H⟩ := bo_ H
     try dsimp only at H
     by_cases c48 : t518 = true
     ·subst c48
      rw [if_pos rfl] at H
      try dsimp only at H
      by_cases c49 : t553 = 0
      rotate_left
      ·rw [if_neg c49] at H; exact absurd H (by simp)
      rw [if_pos c49] at H
      have c49b0 : (t553 == 0) = true := beq_iff_eq.mpr c49
      have c49b1 : (t553 != 0) = false := bne_eq_false_iff_eq.mpr c49
      clear c49
      by_cases c50 : t572 = 0
      rotate_left
      ·rw [if_neg c50] at H; exact absurd H (by simp)
      rw [if_pos c50] at H
      have c50b0 : (t572 == 0) = true := beq_iff_eq.mpr c50
      have c50b1 : (t572 != 0) = false := bne_eq_false_iff_eq.mpr c50
      clear c50
      obtain ⟨t588, A51, H⟩ := bo_ H
      try dsimp only at H
      by_cases c52 : t588 = true
      ·subst c52
       rw [if_pos rfl] at H
       try dsimp only at H
       obtain ⟨y589, hy589⟩ : ∃ y_ : List Int, y_ = (([] : List Int)) := ⟨_, rfl⟩
       replace H : (if y589.length + t550.length < 17592186044416 then ((some (y589 ++ t550 : List Int)).bind fun y592 => (if y592.length + t569.length < 17592186044416 then ((spigotref42_SameLongs.f kj4 (y592 ++ t569) t531).bind fun t598 => (if t598 = true then (if t575 = 0 then (if t581 = 0 then (if t587 = 0 then (some (t574 == (wrap64 (t580 + t586)))) else (none)) else (none)) else (none)) else (none))) else (none))) else (none)) = some r := by first | (rw [hy589]; with_reducible exact H) | (have H2_ := (Option.bind_some _ _).symm.trans H; rw [hy589]; with_reducible exact H2_) | (have H2_ := (Option.bind_some _ _).symm.trans H; with_reducible exact H2_) | with_reducible exact H | (rw [hy589]; exact H) | exact H
       have Ny589 := Aside0.mk hy589
       clear hy589
       by_cases c53 : y589.length + t550.length < 17592186044416
       rotate_left
       ·rw [if_neg c53] at H; exact absurd H (by simp)
       rw [if_pos c53] at H
       have LMc53 := Aside0.mk c53
       clear c53
       obtain ⟨y592, hy592⟩ : ∃ y_ : List Int, y_ = (y589 ++ t550) := ⟨_, rfl⟩
       replace H : (if y592.length + t569.length < 17592186044416 then ((spigotref42_SameLongs.f kj4 (y592 ++ t569) t531).bind fun t598 => (if t598 = true then (if t575 = 0 then (if t581 = 0 then (if t587 = 0 then (some (t574 == (wrap64 (t580 + t586)))) else (none)) else (none)) else (none)) else (none))) else (none)) = some r := by first | (rw [hy592]; with_reducible exact H) | (have H2_ := (Option.bind_some _ _).symm.trans H; rw [hy592]; with_reducible exact H2_) | (have H2_ := (Option.bind_some _ _).symm.trans H; with_reducible exact H2_) | with_reducible exact H | (rw [hy592]; exact H) | exact H
       have Ny592 := Aside0.mk hy592
       clear hy592
       by_cases c54 : y592.length + t569.length < 17592186044416
       rotate_left
       ·rw [if_neg c54] at H; exact absurd H (by simp)
       rw [if_pos c54] at H
       have LMc54 := Aside0.mk c54
       clear c54
       obtain ⟨y595, hy595⟩ : ∃ y_ : List Int, y_ = (y592 ++ t569) := ⟨_, rfl⟩
       replace H : ((spigotref42_SameLongs.f kj4 y595 t531).bind fun t598 => (if t598 = true then (if t575 = 0 then (if t581 = 0 then (if t587 = 0 then (some (t574 == (wrap64 (t580 + t586)))) else (none)) else (none)) else (none)) else (none))) = some r := by first | (rw [hy595]; with_reducible exact H) | (have H2_ := (Option.bind_some _ _).symm.trans H; rw [hy595]; with_reducible exact H2_) | (have H2_ := (Option.bind_some _ _).symm.trans H; with_reducible exact H2_) | with_reducible exact H | (rw [hy595]; exact H) | exact H
       have Ny595 := Aside0.mk hy595
       clear hy595
       obtain ⟨t598, A55, H⟩ := bo_ H
       try dsimp only at H
       by_cases c56 : t598 = true
       ·subst c56
        rw [if_pos rfl] at H
        try dsimp only at H
        by_cases c57 : t575 = 0
        rotate_left
        ·rw [if_neg c57] at H; exact absurd H (by simp)
        rw [if_pos c57] at H
        have c57b0 : (t575 == 0) = true := beq_iff_eq.mpr c57
        have c57b1 : (t575 != 0) = false := bne_eq_false_iff_eq.mpr c57
        clear c57
        by_cases c58 : t581 = 0
        rotate_left
        ·rw [if_neg c58] at H; exact absurd H (by simp)
        rw [if_pos c58] at H
        have c58b0 : (t581 == 0) = true := beq_iff_eq.mpr c58
        have c58b1 : (t581 != 0) = false := bne_eq_false_iff_eq.mpr c58
        clear c58
        by_cases c59 : t587 = 0
        rotate_left
        ·rw [if_neg c59] at H; exact absurd H (by simp)
        rw [if_pos c59] at H
        have c59b0 : (t587 == 0) = true := beq_iff_eq.mpr c59
        have c59b1 : (t587 != 0) = false := bne_eq_false_iff_eq.mpr c59
        clear c59
        obtain rfl := Option.some.inj H
        replace hc517 := ce8_ BK517
        try go_wp2_with (first | ((with_reducible refine gate_callee (f := 16) rfl ?_); (try refine ug_ (by rfl) ?_); refine goesA_ (some 50) Try.func16 #[.agg #[.int .i64 a0_0, .int .i64 a0_1, .int .i64 a0_2, .int .i64 a0_3, .int .i64 a0_4, .int .u64 a0_5, .int .i64 a0_6, .slice A0_7 l0_7.length c0_7], .slice A1 l1.length c1] ?_; (with_reducible refine (lease_Run.calls kj4 a0_0 a0_1 a0_2 a0_3 a0_4 a0_5 a0_6 _ _ l0_7 _ _ l1 t521 t522 t523 t524 t525 t526 t527 t528 t531 t534 _ ?side1 ?side2 ?side3 ?side4 A33.out).mono ?_); (case side1 => exact cs_ HR0_7 HB); (case side2 => exact HC0_7.out); (case side3 => exact cs_ HR1 HB); (case side4 => exact HC1.out); rintro e w61 ⟨v529, v532, rfl, ho0, ho1, hb⟩; refine ⟨_, rfl, ?_⟩; have HO530 := Aside0.mk (Kd.R_lower ho0 (below_size bh_)); have HO533 := Aside0.mk (Kd.R_lower ho1 (below_size bh_)); replace BK517 := bb_ BK517 hb; replace HB := bs_ w hb; (try clear hb); (try clear hb2); (try clear hk); (try clear hi); (try clear ho0); (try clear ho1)) | ((with_reducible refine gate_dst (N := 8) rfl ?_); (try refine ug_ (by rfl) ?_); refine bx_ #[.int .i64 0, .int .i64 0, .int .i64 0, .int .i64 0, .int .i64 0, .int .u64 0, .int .i64 0, .slice none 0 0] 29 ?_; intro gb535 hg w62 BK535 hb; have GW535 := bz_ w hg; have GE535 := GW535; have NB517_535 := bn_ BK517 hg; have NB535_517 := bm_ BK517 hg; replace HO530 := rb_ HO530 hb; replace HO533 := rb_ HO533 hb; replace BK517 := bb_ BK517 hb; replace HB := bs_ w hb; clear hb hg; replace hn535_517 := NB535_517.out; replace hn517_535 := NB517_535.out; replace hc535 := ce8_ BK535; obtain ⟨Ao65, co65, eo65⟩ := Kd.R_slice HO530.out; subst eo65))
        have n0_ : Aside0 (Kd.R (Kd.int .i64) 2 ((((((((w62.setCell ⟨gb535, 0, none⟩ (.int .i64 t521)).setCell ⟨gb535, 1, none⟩ (.int .i64 t522)).setCell ⟨gb535, 2, none⟩ (.int .i64 t523)).setCell ⟨gb535, 3, none⟩ (.int .i64 t524)).setCell ⟨gb535, 4, none⟩ (.int .i64 t525)).setCell ⟨gb535, 5, none⟩ (.int .u64 t526)).setCell ⟨gb535, 6, none⟩ (.int .i64 t527)).setCell ⟨gb535, 7, none⟩ (.slice Ao65 t528.length co65)) w.heap.size (fun k_ => some k_ ≠ (v532 : Value).ownBlock) (.slice Ao65 t528.length co65) t528) := ⟨by (with_reducible repeat (first | apply Kd.R_alloc | apply Kd.R_drewN | apply Kd.R_drew)); exact Kd.R_mono (Kd.R_far (p := ⟨gb535, 7, none⟩) (Kd.R_far (p := ⟨gb535, 6, none⟩) (Kd.R_far (p := ⟨gb535, 5, none⟩) (Kd.R_far (p := ⟨gb535, 4, none⟩) (Kd.R_far (p := ⟨gb535, 3, none⟩) (Kd.R_far (p := ⟨gb535, 2, none⟩) (Kd.R_far (p := ⟨gb535, 1, none⟩) (Kd.R_far (p := ⟨gb535, 0, none⟩) (Kd.R_types HO530.out BK535.out (by decide)) (fun _ hk => hk.2) (.int .i64 t521)) (fun _ hk => hk.2) (.int .i64 t522)) (fun _ hk => hk.2) (.int .i64 t523)) (fun _ hk => hk.2) (.int .i64 t524)) (fun _ hk => hk.2) (.int .i64 t525)) (fun _ hk => hk.2) (.int .u64 t526)) (fun _ hk => hk.2) (.int .i64 t527)) (fun _ hk => hk.2) (.slice Ao65 t528.length co65)) (fun _ hk => hk.1)⟩
        have n1_ : Aside0 (Kd.R (Kd.int .i64) 2 ((((((((w62.setCell ⟨gb535, 0, none⟩ (.int .i64 t521)).setCell ⟨gb535, 1, none⟩ (.int .i64 t522)).setCell ⟨gb535, 2, none⟩ (.int .i64 t523)).setCell ⟨gb535, 3, none⟩ (.int .i64 t524)).setCell ⟨gb535, 4, none⟩ (.int .i64 t525)).setCell ⟨gb535, 5, none⟩ (.int .u64 t526)).setCell ⟨gb535, 6, none⟩ (.int .i64 t527)).setCell ⟨gb535, 7, none⟩ (.slice Ao65 t528.length co65)) w.heap.size (fun k_ => some k_ ≠ (.slice Ao65 t528.length co65 : Value).ownBlock) v532 t531) := ⟨by (with_reducible repeat (first | apply Kd.R_alloc | apply Kd.R_drewN | apply Kd.R_drew)); exact Kd.R_mono (Kd.R_far (p := ⟨gb535, 7, none⟩) (Kd.R_far (p := ⟨gb535, 6, none⟩) (Kd.R_far (p := ⟨gb535, 5, none⟩) (Kd.R_far (p := ⟨gb535, 4, none⟩) (Kd.R_far (p := ⟨gb535, 3, none⟩) (Kd.R_far (p := ⟨gb535, 2, none⟩) (Kd.R_far (p := ⟨gb535, 1, none⟩) (Kd.R_far (p := ⟨gb535, 0, none⟩) (Kd.R_types HO533.out BK535.out (by decide)) (fun _ hk => hk.2) (.int .i64 t521)) (fun _ hk => hk.2) (.int .i64 t522)) (fun _ hk => hk.2) (.int .i64 t523)) (fun _ hk => hk.2) (.int .i64 t524)) (fun _ hk => hk.2) (.int .i64 t525)) (fun _ hk => hk.2) (.int .u64 t526)) (fun _ hk => hk.2) (.int .i64 t527)) (fun _ hk => hk.2) (.slice Ao65 t528.length co65)) (fun _ hk => hk.1)⟩
        have n2_ : Aside0 (((((((((w62.setCell ⟨gb535, 0, none⟩ (.int .i64 t521)).setCell ⟨gb535, 1, none⟩ (.int .i64 t522)).setCell ⟨gb535, 2, none⟩ (.int .i64 t523)).setCell ⟨gb535, 3, none⟩ (.int .i64 t524)).setCell ⟨gb535, 4, none⟩ (.int .i64 t525)).setCell ⟨gb535, 5, none⟩ (.int .u64 t526)).setCell ⟨gb535, 6, none⟩ (.int .i64 t527)).setCell ⟨gb535, 7, none⟩ (.slice Ao65 t528.length co65)).heap[gb517]? = some (.cells #[.int .i64 a0_0, .int .i64 a0_1, .int .i64 a0_2, .int .i64 a0_3, .int .i64 a0_4, .int .u64 a0_5, .int .i64 a0_6, .slice A0_7 l0_7.length c0_7] 29 (0, 0))) := ⟨(bt_ BK517)⟩
        have n3_ : Aside0 (((((((((w62.setCell ⟨gb535, 0, none⟩ (.int .i64 t521)).setCell ⟨gb535, 1, none⟩ (.int .i64 t522)).setCell ⟨gb535, 2, none⟩ (.int .i64 t523)).setCell ⟨gb535, 3, none⟩ (.int .i64 t524)).setCell ⟨gb535, 4, none⟩ (.int .i64 t525)).setCell ⟨gb535, 5, none⟩ (.int .u64 t526)).setCell ⟨gb535, 6, none⟩ (.int .i64 t527)).setCell ⟨gb535, 7, none⟩ (.slice Ao65 t528.length co65)).heap[gb535]? = some (.cells #[.int .i64 t521, .int .i64 t522, .int .i64 t523, .int .i64 t524, .int .i64 t525, .int .u64 t526, .int .i64 t527, .slice Ao65 t528.length co65] 29 (0, 0))) := ⟨(blk_put (cs := #[.int .i64 t521, .int .i64 t522, .int .i64 t523, .int .i64 t524, .int .i64 t525, .int .u64 t526, .int .i64 t527, .slice none 0 0]) (blk_put (cs := #[.int .i64 t521, .int .i64 t522, .int .i64 t523, .int .i64 t524, .int .i64 t525, .int .u64 t526, .int .i64 0, .slice none 0 0]) (blk_put (cs := #[.int .i64 t521, .int .i64 t522, .int .i64 t523, .int .i64 t524, .int .i64 t525, .int .u64 0, .int .i64 0, .slice none 0 0]) (blk_put (cs := #[.int .i64 t521, .int .i64 t522, .int .i64 t523, .int .i64 t524, .int .i64 0, .int .u64 0, .int .i64 0, .slice none 0 0]) (blk_put (cs := #[.int .i64 t521, .int .i64 t522, .int .i64 t523, .int .i64 0, .int .i64 0, .int .u64 0, .int .i64 0, .slice none 0 0]) (blk_put (cs := #[.int .i64 t521, .int .i64 t522, .int .i64 0, .int .i64 0, .int .i64 0, .int .u64 0, .int .i64 0, .slice none 0 0]) (blk_put (cs := #[.int .i64 t521, .int .i64 0, .int .i64 0, .int .i64 0, .int .i64 0, .int .u64 0, .int .i64 0, .slice none 0 0]) (blk_put (cs := #[.int .i64 0, .int .i64 0, .int .i64 0, .int .i64 0, .int .i64 0, .int .u64 0, .int .i64 0, .slice none 0 0]) (bq_ BK535) 0 _ rfl) 1 _ rfl) 2 _ rfl) 3 _ rfl) 4 _ rfl) 5 _ rfl) 6 _ rfl) 7 _ rfl)⟩
        have n4_ : Aside0 (Below w.heap.size w ((((((((w62.setCell ⟨gb535, 0, none⟩ (.int .i64 t521)).setCell ⟨gb535, 1, none⟩ (.int .i64 t522)).setCell ⟨gb535, 2, none⟩ (.int .i64 t523)).setCell ⟨gb535, 3, none⟩ (.int .i64 t524)).setCell ⟨gb535, 4, none⟩ (.int .i64 t525)).setCell ⟨gb535, 5, none⟩ (.int .u64 t526)).setCell ⟨gb535, 6, none⟩ (.int .i64 t527)).setCell ⟨gb535, 7, none⟩ (.slice Ao65 t528.length co65))) := bw_
        (try clear HO530)
        (try clear HO533)
        (try clear BK517)
        (try clear BK535)
        (try clear HB)
        generalize ((((((((w62.setCell ⟨gb535, 0, none⟩ (.int .i64 t521)).setCell ⟨gb535, 1, none⟩ (.int .i64 t522)).setCell ⟨gb535, 2, none⟩ (.int .i64 t523)).setCell ⟨gb535, 3, none⟩ (.int .i64 t524)).setCell ⟨gb535, 4, none⟩ (.int .i64 t525)).setCell ⟨gb535, 5, none⟩ (.int .u64 t526)).setCell ⟨gb535, 6, none⟩ (.int .i64 t527)).setCell ⟨gb535, 7, none⟩ (.slice Ao65 t528.length co65)) = w66 at n0_ n1_ n2_ n3_ n4_ ⊢
        have HO530 := n0_
        have HO533 := n1_
        have BK517 := n2_
        have BK535 := n3_
        have HB := n4_
        clear n0_ n1_ n2_ n3_ n4_
        replace HO530 := Aside0.mk (Kd.R_drew HO530.out)
        replace HO533 := Aside0.mk (Kd.R_drew HO533.out)
        replace BK517 := Aside0.mk (blk_drew BK517.out)
        replace BK535 := Aside0.mk (blk_drew BK535.out)
        replace HB := Aside0.mk (below_drew1 HB.out)
        have q68 : (a2 : Int) ≤ ((l1.length : Int) : Int) := of_decide_eq_true (by first | (with_reducible assumption) | assumption)
        obtain ⟨i068, hi068, _, hsz68, _⟩ := info_parts info31
        have hroom68 : l1.length ≤ c1 := HC1.out
        have hC68 : Kd.C k31 _ A1 l1.length l1 := HR1.out
        have hcut68 := cut_to (P := Try.prog) 44 31 .i64 Try.underlying44 hi068 A1 l1.length c1 a2 (of_decide_eq_true (by first | (with_reducible assumption) | assumption)) q68 hroom68
        have hr68 := Kd.C_take (m := (a2 : Int).toNat) hC68 (by omega)
        have hy68 : y536.length = (a2 : Int).toNat := (by rw [Ny536.out, List.length_take]; omega)
        rw [← Ny536.out] at hr68
        rw [← hy68] at hcut68
        have HR539 := Aside0.mk hr68
        have HC539 := Aside0.mk (show y536.length ≤ c1 from by omega)
        clear hr68 hC68 hroom68 hi068 hsz68
        have KY68 := Aside0.mk hy68
        clear hy68
        replace q68 := eq_true q68
        refine start_ (n := 13) (S := fun w' => w'.cell? ⟨gb517, 0, none⟩ = some (.int .i64 a0_0) ∧ w'.cell? ⟨gb517, 1, none⟩ = some (.int .i64 a0_1) ∧ w'.cell? ⟨gb517, 2, none⟩ = some (.int .i64 a0_2) ∧ w'.cell? ⟨gb517, 3, none⟩ = some (.int .i64 a0_3) ∧ w'.cell? ⟨gb517, 4, none⟩ = some (.int .i64 a0_4) ∧ w'.cell? ⟨gb517, 5, none⟩ = some (.int .u64 a0_5) ∧ w'.cell? ⟨gb517, 6, none⟩ = some (.int .i64 a0_6) ∧ w'.cell? ⟨gb517, 7, none⟩ = some (.slice A0_7 l0_7.length c0_7)) (ds := []) (bl_ 13 0) (by kernel_rfl) rfl (by kernel_rfl) ⟨(blk_cell BK517.out 0).trans rfl, (blk_cell BK517.out 1).trans rfl, (blk_cell BK517.out 2).trans rfl, (blk_cell BK517.out 3).trans rfl, (blk_cell BK517.out 4).trans rfl, (blk_cell BK517.out 5).trans rfl, (blk_cell BK517.out 6).trans rfl, (blk_cell BK517.out 7).trans rfl⟩ (fun hHeld => ?_); refine with_tabW spigotlaw42_LeaseParts.tab7 spigotlaw42_LeaseParts.bits7 (fun HT_ HW_ => ?_)
        generalize w66.drew = w67 at HO530 HO533 BK517 BK535 HB HR539 hHeld ⊢
        refine pa_ 1 (some 64) (bl_ 13 2) HT_ ?_
        refine pa_ 2 (some 65) (bl_ 13 6) HT_ ?_
        refine pa_ 3 (some 66) (bl_ 13 14) HT_ ?_
        refine ta_ 0 (some 63) (bl_ 13 15) HT_ HW_ hHeld ?_
        refine join_ (σ := Value × Value × Nat) 3 (bl_ 13 1023) (fun s_ => [(67, .tuple #[.agg #[.int .i64 t540, .int .i64 t541, .int .i64 t542, .int .i64 t543, .int .i64 t544, .int .u64 t545, .int .i64 t546, s_.1], s_.2.1, .int .i64 t553]), (11, .pointer (some ⟨s_.2.2, 0, none⟩)), (62, .tuple #[.agg #[.int .i64 t540, .int .i64 t541, .int .i64 t542, .int .i64 t543, .int .i64 t544, .int .u64 t545, .int .i64 t546, s_.1], s_.2.1, .int .i64 t553]), (68, .agg #[.int .i64 t540, .int .i64 t541, .int .i64 t542, .int .i64 t543, .int .i64 t544, .int .u64 t545, .int .i64 t546, s_.1]), (69, s_.2.1), (70, .int .i64 t553)]) (fun s_ w' => (w'.cell? ⟨gb517, 0, none⟩ = some (.int .i64 a0_0) ∧ w'.cell? ⟨gb517, 1, none⟩ = some (.int .i64 a0_1) ∧ w'.cell? ⟨gb517, 2, none⟩ = some (.int .i64 a0_2) ∧ w'.cell? ⟨gb517, 3, none⟩ = some (.int .i64 a0_3) ∧ w'.cell? ⟨gb517, 4, none⟩ = some (.int .i64 a0_4) ∧ w'.cell? ⟨gb517, 5, none⟩ = some (.int .u64 a0_5) ∧ w'.cell? ⟨gb517, 6, none⟩ = some (.int .i64 a0_6) ∧ w'.cell? ⟨gb517, 7, none⟩ = some (.slice A0_7 l0_7.length c0_7)) ∧ (Kd.R (Kd.int .i64) 2 w' w.heap.size (fun k_ => some k_ ≠ (v532 : Value).ownBlock ∧ some k_ ≠ (s_.1 : Value).ownBlock ∧ some k_ ≠ (s_.2.1 : Value).ownBlock) (.slice Ao65 t528.length co65) t528) ∧ (Kd.R (Kd.int .i64) 2 w' w.heap.size (fun k_ => some k_ ≠ (.slice Ao65 t528.length co65 : Value).ownBlock ∧ some k_ ≠ (s_.1 : Value).ownBlock ∧ some k_ ≠ (s_.2.1 : Value).ownBlock) v532 t531) ∧ (Kd.R (Kd.int .i64) 2 w' w.heap.size (fun k_ => some k_ ≠ (.slice Ao65 t528.length co65 : Value).ownBlock ∧ some k_ ≠ (v532 : Value).ownBlock ∧ some k_ ≠ (s_.2.1 : Value).ownBlock) s_.1 t547) ∧ (Kd.R (Kd.int .i64) 2 w' w.heap.size (fun k_ => some k_ ≠ (.slice Ao65 t528.length co65 : Value).ownBlock ∧ some k_ ≠ (v532 : Value).ownBlock ∧ some k_ ≠ (s_.1 : Value).ownBlock) s_.2.1 t550) ∧ (w'.heap[gb517]? = some (.cells #[.int .i64 a0_0, .int .i64 a0_1, .int .i64 a0_2, .int .i64 a0_3, .int .i64 a0_4, .int .u64 a0_5, .int .i64 a0_6, .slice A0_7 l0_7.length c0_7] 29 (0, 0))) ∧ (w'.heap[gb535]? = some (.cells #[.int .i64 t521, .int .i64 t522, .int .i64 t523, .int .i64 t524, .int .i64 t525, .int .u64 t526, .int .i64 t527, .slice Ao65 t528.length co65] 29 (0, 0))) ∧ (w'.heap[s_.2.2]? = some (.cells #[.int .i64 0, .int .i64 0, .int .i64 0, .int .i64 0, .int .i64 0, .int .u64 0, .int .i64 0, .slice none 0 0] 29 (0, 0))) ∧ (w.heap.size ≤ s_.2.2) ∧ (w.heap.size ≤ s_.2.2) ∧ (gb517 ≠ s_.2.2) ∧ (s_.2.2 ≠ gb517) ∧ (gb535 ≠ s_.2.2) ∧ (s_.2.2 ≠ gb535) ∧ (Below w.heap.size w w')) ?_ ?_
        rotate_left
        ·intro hCont
         refine tw_ 4 9 (some 67) (some 11) (bl_ 13 31) (bl_ 13 527) HT_ (fun K hK => ?_) fun K hK => ?_
         ·refine goesB_ Try.func16 #[.agg #[.int .i64 a0_0, .int .i64 a0_1, .int .i64 a0_2, .int .i64 a0_3, .int .i64 a0_4, .int .u64 a0_5, .int .i64 a0_6, .slice A0_7 l0_7.length c0_7], .slice A1 y536.length c1] ?_
          with_reducible refine (lease_Run.calls kj4 a0_0 a0_1 a0_2 a0_3 a0_4 a0_5 a0_6 _ _ l0_7 _ _ y536 t540 t541 t542 t543 t544 t545 t546 t547 t550 t553 _ ?side1 ?side2 ?side3 ?side4 A37.out).mono ?_
          (case side1 => exact cs_ HR0_7 HB)
          (case side2 => exact HC0_7.out)
          (case side3 => exact cs_ HR539 HB)
          (case side4 => exact HC539.out)
          rintro e w69 ⟨v548, v551, rfl, ho0, ho1, hb⟩
          refine ⟨_, rfl, ?_⟩
          have HO549 := Aside0.mk (Kd.R_lower (Kd.R_new' (Kd.R_new' ho0 (Kd.R_lt (rs_ HO530))) (Kd.R_lt (rs_ HO533))) (below_size bh_))
          have HO552 := Aside0.mk (Kd.R_lower (Kd.R_new' (Kd.R_new' ho1 (Kd.R_lt (rs_ HO530))) (Kd.R_lt (rs_ HO533))) (below_size bh_))
          replace HO530 := Aside0.mk (Kd.R_mono (Kd.R_told (Kd.R_told (Kd.R_old (rs_ HO530) hb) (Kd.R_base ho0)) (Kd.R_base ho1)) (fun _ h_ => h_.1))
          replace HO533 := Aside0.mk (Kd.R_mono (Kd.R_told (Kd.R_told (Kd.R_old (rs_ HO533) hb) (Kd.R_base ho0)) (Kd.R_base ho1)) (fun _ h_ => h_.1))
          replace BK517 := bb_ BK517 hb
          replace BK535 := bb_ BK535 hb
          replace HB := bs_ w hb
          (try clear hb)
          (try clear hb2)
          (try clear hk)
          (try clear hi)
          (try clear ho0)
          (try clear ho1)
          refine hK.out _ _ ⟨(blk_cell BK517.out 0).trans rfl, (blk_cell BK517.out 1).trans rfl, (blk_cell BK517.out 2).trans rfl, (blk_cell BK517.out 3).trans rfl, (blk_cell BK517.out 4).trans rfl, (blk_cell BK517.out 5).trans rfl, (blk_cell BK517.out 6).trans rfl, (blk_cell BK517.out 7).trans rfl⟩ (fun hHeld => ?_)
          clear hK K
          refine nm_ (some 67) ?_
          refine pa_ 5 (some 62) (bl_ 13 63) HT_ ?_
          refine pa_ 6 (some 68) (bl_ 13 127) HT_ ?_
          refine pa_ 7 (some 69) (bl_ 13 255) HT_ ?_
          refine pa_ 8 (some 70) (bl_ 13 511) HT_ ?_
          refine oa_ 9 (some 11) (bl_ 13 1023) HT_ fun K hK => ?_
          refine bs2_ #[.int .i64 0, .int .i64 0, .int .i64 0, .int .i64 0, .int .i64 0, .int .u64 0, .int .i64 0, .slice none 0 0] 29 ?_
          intro gb554 hg w70 BK554 hb
          have GW554 := bz_ w hg
          have GE554 := GW554
          have NB517_554 := bn_ BK517 hg
          have NB554_517 := bm_ BK517 hg
          have NB535_554 := bn_ BK535 hg
          have NB554_535 := bm_ BK535 hg
          replace HO530 := rb_ HO530 hb
          replace HO533 := rb_ HO533 hb
          replace HO549 := rb_ HO549 hb
          replace HO552 := rb_ HO552 hb
          replace BK517 := bb_ BK517 hb
          replace BK535 := bb_ BK535 hb
          replace HB := bs_ w hb
          clear hb hg
          refine hK.out _ _ ⟨(blk_cell BK517.out 0).trans rfl, (blk_cell BK517.out 1).trans rfl, (blk_cell BK517.out 2).trans rfl, (blk_cell BK517.out 3).trans rfl, (blk_cell BK517.out 4).trans rfl, (blk_cell BK517.out 5).trans rfl, (blk_cell BK517.out 6).trans rfl, (blk_cell BK517.out 7).trans rfl⟩ (fun hHeld => ?_)
          clear hK K
          refine nm_ (some 11) ?_
          exact no_ (hCont (v548, v551, gb554) _ ⟨hHeld, (by (with_reducible repeat (first | apply Kd.R_alloc | apply Kd.R_drewN | apply Kd.R_drew)); exact Kd.R_mono HO530.out (fun _ hk => ⟨hk.1.1, ⟨hk.1.2, hk.2⟩⟩)), (by (with_reducible repeat (first | apply Kd.R_alloc | apply Kd.R_drewN | apply Kd.R_drew)); exact Kd.R_mono HO533.out (fun _ hk => ⟨hk.1.1, ⟨hk.1.2, hk.2⟩⟩)), (by (with_reducible repeat (first | apply Kd.R_alloc | apply Kd.R_drewN | apply Kd.R_drew)); exact Kd.R_mono HO549.out (fun _ hk => ⟨hk.1.2, ⟨hk.2, hk.1.1⟩⟩)), (by (with_reducible repeat (first | apply Kd.R_alloc | apply Kd.R_drewN | apply Kd.R_drew)); exact Kd.R_mono HO552.out (fun _ hk => ⟨hk.1.2, ⟨hk.2, hk.1.1⟩⟩)), (bq_ BK517), (bq_ BK535), (bq_ BK554), GW554.out, GE554.out, NB517_554.out, NB554_517.out, NB535_554.out, NB554_535.out, bh_⟩)
         ·refine bs2_ #[.int .i64 0, .int .i64 0, .int .i64 0, .int .i64 0, .int .i64 0, .int .u64 0, .int .i64 0, .slice none 0 0] 29 ?_
          intro gb554 hg w69 BK554 hb
          have GW554 := bz_ w hg
          have GE554 := GW554
          have NB517_554 := bn_ BK517 hg
          have NB554_517 := bm_ BK517 hg
          have NB535_554 := bn_ BK535 hg
          have NB554_535 := bm_ BK535 hg
          replace HO530 := rb_ HO530 hb
          replace HO533 := rb_ HO533 hb
          replace BK517 := bb_ BK517 hb
          replace BK535 := bb_ BK535 hb
          replace HB := bs_ w hb
          clear hb hg
          refine hK.out _ _ ⟨(blk_cell BK517.out 0).trans rfl, (blk_cell BK517.out 1).trans rfl, (blk_cell BK517.out 2).trans rfl, (blk_cell BK517.out 3).trans rfl, (blk_cell BK517.out 4).trans rfl, (blk_cell BK517.out 5).trans rfl, (blk_cell BK517.out 6).trans rfl, (blk_cell BK517.out 7).trans rfl⟩ (fun hHeld => ?_)
          clear hK K
          refine nm_ (some 11) ?_
          refine oa_ 4 (some 67) (bl_ 13 543) HT_ fun K hK => ?_
          refine goesB_ Try.func16 #[.agg #[.int .i64 a0_0, .int .i64 a0_1, .int .i64 a0_2, .int .i64 a0_3, .int .i64 a0_4, .int .u64 a0_5, .int .i64 a0_6, .slice A0_7 l0_7.length c0_7], .slice A1 y536.length c1] ?_
          with_reducible refine (lease_Run.calls kj4 a0_0 a0_1 a0_2 a0_3 a0_4 a0_5 a0_6 _ _ l0_7 _ _ y536 t540 t541 t542 t543 t544 t545 t546 t547 t550 t553 _ ?side1 ?side2 ?side3 ?side4 A37.out).mono ?_
          (case side1 => exact cs_ HR0_7 HB)
          (case side2 => exact HC0_7.out)
          (case side3 => exact cs_ HR539 HB)
          (case side4 => exact HC539.out)
          rintro e w70 ⟨v548, v551, rfl, ho0, ho1, hb⟩
          refine ⟨_, rfl, ?_⟩
          have HO549 := Aside0.mk (Kd.R_lower (Kd.R_new' (Kd.R_new' ho0 (Kd.R_lt (rs_ HO530))) (Kd.R_lt (rs_ HO533))) (below_size bh_))
          have HO552 := Aside0.mk (Kd.R_lower (Kd.R_new' (Kd.R_new' ho1 (Kd.R_lt (rs_ HO530))) (Kd.R_lt (rs_ HO533))) (below_size bh_))
          replace HO530 := Aside0.mk (Kd.R_mono (Kd.R_told (Kd.R_told (Kd.R_old (rs_ HO530) hb) (Kd.R_base ho0)) (Kd.R_base ho1)) (fun _ h_ => h_.1))
          replace HO533 := Aside0.mk (Kd.R_mono (Kd.R_told (Kd.R_told (Kd.R_old (rs_ HO533) hb) (Kd.R_base ho0)) (Kd.R_base ho1)) (fun _ h_ => h_.1))
          replace BK517 := bb_ BK517 hb
          replace BK535 := bb_ BK535 hb
          replace BK554 := bb_ BK554 hb
          replace HB := bs_ w hb
          (try clear hb)
          (try clear hb2)
          (try clear hk)
          (try clear hi)
          (try clear ho0)
          (try clear ho1)
          refine hK.out _ _ ⟨(blk_cell BK517.out 0).trans rfl, (blk_cell BK517.out 1).trans rfl, (blk_cell BK517.out 2).trans rfl, (blk_cell BK517.out 3).trans rfl, (blk_cell BK517.out 4).trans rfl, (blk_cell BK517.out 5).trans rfl, (blk_cell BK517.out 6).trans rfl, (blk_cell BK517.out 7).trans rfl⟩ (fun hHeld => ?_)
          clear hK K
          refine nm_ (some 67) ?_
          refine pa_ 5 (some 62) (bl_ 13 575) HT_ ?_
          refine pa_ 6 (some 68) (bl_ 13 639) HT_ ?_
          refine pa_ 7 (some 69) (bl_ 13 767) HT_ ?_
          refine pa_ 8 (some 70) (bl_ 13 1023) HT_ ?_
          exact no_ (hCont (v548, v551, gb554) _ ⟨hHeld, (by (with_reducible repeat (first | apply Kd.R_alloc | apply Kd.R_drewN | apply Kd.R_drew)); exact Kd.R_mono HO530.out (fun _ hk => ⟨hk.1.1, ⟨hk.1.2, hk.2⟩⟩)), (by (with_reducible repeat (first | apply Kd.R_alloc | apply Kd.R_drewN | apply Kd.R_drew)); exact Kd.R_mono HO533.out (fun _ hk => ⟨hk.1.1, ⟨hk.1.2, hk.2⟩⟩)), (by (with_reducible repeat (first | apply Kd.R_alloc | apply Kd.R_drewN | apply Kd.R_drew)); exact Kd.R_mono HO549.out (fun _ hk => ⟨hk.1.2, ⟨hk.2, hk.1.1⟩⟩)), (by (with_reducible repeat (first | apply Kd.R_alloc | apply Kd.R_drewN | apply Kd.R_drew)); exact Kd.R_mono HO552.out (fun _ hk => ⟨hk.1.2, ⟨hk.2, hk.1.1⟩⟩)), (bq_ BK517), (bq_ BK535), (bq_ BK554), GW554.out, GE554.out, NB517_554.out, NB554_517.out, NB535_554.out, NB554_535.out, bh_⟩)
        rintro ⟨v548, v551, gb554⟩ w71 ⟨hS_, h0_, h1_, h2_, h3_, h4_, h5_, h6_, h7_, h8_, h9_, h10_, h11_, h12_, h13_⟩
        have HO549 : Aside0 (Kd.R (Kd.int .i64) 2 w71 w.heap.size (fun k_ => some k_ ≠ (.slice Ao65 t528.length co65 : Value).ownBlock ∧ some k_ ≠ (v532 : Value).ownBlock ∧ some k_ ≠ (v551 : Value).ownBlock) v548 t547) := ⟨h2_⟩
        have HO552 : Aside0 (Kd.R (Kd.int .i64) 2 w71 w.heap.size (fun k_ => some k_ ≠ (.slice Ao65 t528.length co65 : Value).ownBlock ∧ some k_ ≠ (v532 : Value).ownBlock ∧ some k_ ≠ (v548 : Value).ownBlock) v551 t550) := ⟨h3_⟩
        have BK554 := Aside0.mk h6_
        have GW554 := Aside0.mk h7_
        have GE554 := Aside0.mk h8_
        have NB517_554 := Aside0.mk h9_
        have NB554_517 := Aside0.mk h10_
        have NB535_554 := Aside0.mk h11_
        have NB554_535 := Aside0.mk h12_
        replace HO530 : Aside0 (Kd.R (Kd.int .i64) 2 w71 w.heap.size (fun k_ => some k_ ≠ (v532 : Value).ownBlock ∧ some k_ ≠ (v548 : Value).ownBlock ∧ some k_ ≠ (v551 : Value).ownBlock) (.slice Ao65 t528.length co65) t528) := ⟨h0_⟩
        replace HO533 : Aside0 (Kd.R (Kd.int .i64) 2 w71 w.heap.size (fun k_ => some k_ ≠ (.slice Ao65 t528.length co65 : Value).ownBlock ∧ some k_ ≠ (v548 : Value).ownBlock ∧ some k_ ≠ (v551 : Value).ownBlock) v532 t531) := ⟨h1_⟩
        replace BK517 := Aside0.mk h4_
        replace BK535 := Aside0.mk h5_
        replace HB := Aside0.mk h13_
        clear h0_ h1_ h2_ h3_ h4_ h5_ h6_ h7_ h8_ h9_ h10_ h11_ h12_ h13_
        have hHeld := hS_
        obtain ⟨Ao79, co79, eo79⟩ := Kd.R_slice HO549.out
        (first | subst eo79 | (injection eo79 with f1_ f2_ f3_; have f4_ := f1_.symm; have f5_ := f3_.symm; clear f1_ f2_ f3_; subst f4_; subst f5_))
        refine nq_ ?_
        refine oa_ 10 none (bl_ 13 2047) HT_ fun K hK => ?_
        have hs72 : w71.cell? ⟨gb554, 0, none⟩ = some (.int .i64 0) := (blk_cell BK554.out 0).trans rfl
        have hfs72 := blk_frozen BK554.out 0
        have hns72_0 := NB517_554.out
        have hns72_1 := NB535_554.out
        have hms72_0 := NB554_517.out
        have hms72_1 := NB554_535.out
        have hs73 : w71.cell? ⟨gb554, 1, none⟩ = some (.int .i64 0) := (blk_cell BK554.out 1).trans rfl
        have hfs73 := blk_frozen BK554.out 1
        have hns73_0 := NB517_554.out
        have hns73_1 := NB535_554.out
        have hms73_0 := NB554_517.out
        have hms73_1 := NB554_535.out
        have hs74 : w71.cell? ⟨gb554, 2, none⟩ = some (.int .i64 0) := (blk_cell BK554.out 2).trans rfl
        have hfs74 := blk_frozen BK554.out 2
        have hns74_0 := NB517_554.out
        have hns74_1 := NB535_554.out
        have hms74_0 := NB554_517.out
        have hms74_1 := NB554_535.out
        have hs75 : w71.cell? ⟨gb554, 3, none⟩ = some (.int .i64 0) := (blk_cell BK554.out 3).trans rfl
        have hfs75 := blk_frozen BK554.out 3
        have hns75_0 := NB517_554.out
        have hns75_1 := NB535_554.out
        have hms75_0 := NB554_517.out
        have hms75_1 := NB554_535.out
        have hs76 : w71.cell? ⟨gb554, 4, none⟩ = some (.int .i64 0) := (blk_cell BK554.out 4).trans rfl
        have hfs76 := blk_frozen BK554.out 4
        have hns76_0 := NB517_554.out
        have hns76_1 := NB535_554.out
        have hms76_0 := NB554_517.out
        have hms76_1 := NB554_535.out
        have hs77 : w71.cell? ⟨gb554, 5, none⟩ = some (.int .u64 0) := (blk_cell BK554.out 5).trans rfl
        have hfs77 := blk_frozen BK554.out 5
        have hns77_0 := NB517_554.out
        have hns77_1 := NB535_554.out
        have hms77_0 := NB554_517.out
        have hms77_1 := NB554_535.out
        have hs78 : w71.cell? ⟨gb554, 6, none⟩ = some (.int .i64 0) := (blk_cell BK554.out 6).trans rfl
        have hfs78 := blk_frozen BK554.out 6
        have hns78_0 := NB517_554.out
        have hns78_1 := NB535_554.out
        have hms78_0 := NB554_517.out
        have hms78_1 := NB554_535.out
        have hs80 : w71.cell? ⟨gb554, 7, none⟩ = some (.slice none 0 0) := (blk_cell BK554.out 7).trans rfl
        have hfs80 := blk_frozen BK554.out 7
        have hns80_0 := NB517_554.out
        have hns80_1 := NB535_554.out
        have hms80_0 := NB554_517.out
        have hms80_1 := NB554_535.out
        refine sk_ ?_
        refine hK.out _ _ ⟨((cell_far (p := ⟨gb554, _, none⟩) NB517_554.out _).trans (((cell_far (p := ⟨gb554, _, none⟩) NB517_554.out _).trans (((cell_far (p := ⟨gb554, _, none⟩) NB517_554.out _).trans (((cell_far (p := ⟨gb554, _, none⟩) NB517_554.out _).trans (((cell_far (p := ⟨gb554, _, none⟩) NB517_554.out _).trans (((cell_far (p := ⟨gb554, _, none⟩) NB517_554.out _).trans (((cell_far (p := ⟨gb554, _, none⟩) NB517_554.out _).trans (((cell_far (p := ⟨gb554, _, none⟩) NB517_554.out _).trans (hHeld.1)))))))))))))))), ((cell_far (p := ⟨gb554, _, none⟩) NB517_554.out _).trans (((cell_far (p := ⟨gb554, _, none⟩) NB517_554.out _).trans (((cell_far (p := ⟨gb554, _, none⟩) NB517_554.out _).trans (((cell_far (p := ⟨gb554, _, none⟩) NB517_554.out _).trans (((cell_far (p := ⟨gb554, _, none⟩) NB517_554.out _).trans (((cell_far (p := ⟨gb554, _, none⟩) NB517_554.out _).trans (((cell_far (p := ⟨gb554, _, none⟩) NB517_554.out _).trans (((cell_far (p := ⟨gb554, _, none⟩) NB517_554.out _).trans (hHeld.2.1)))))))))))))))), ((cell_far (p := ⟨gb554, _, none⟩) NB517_554.out _).trans (((cell_far (p := ⟨gb554, _, none⟩) NB517_554.out _).trans (((cell_far (p := ⟨gb554, _, none⟩) NB517_554.out _).trans (((cell_far (p := ⟨gb554, _, none⟩) NB517_554.out _).trans (((cell_far (p := ⟨gb554, _, none⟩) NB517_554.out _).trans (((cell_far (p := ⟨gb554, _, none⟩) NB517_554.out _).trans (((cell_far (p := ⟨gb554, _, none⟩) NB517_554.out _).trans (((cell_far (p := ⟨gb554, _, none⟩) NB517_554.out _).trans (hHeld.2.2.1)))))))))))))))), ((cell_far (p := ⟨gb554, _, none⟩) NB517_554.out _).trans (((cell_far (p := ⟨gb554, _, none⟩) NB517_554.out _).trans (((cell_far (p := ⟨gb554, _, none⟩) NB517_554.out _).trans (((cell_far (p := ⟨gb554, _, none⟩) NB517_554.out _).trans (((cell_far (p := ⟨gb554, _, none⟩) NB517_554.out _).trans (((cell_far (p := ⟨gb554, _, none⟩) NB517_554.out _).trans (((cell_far (p := ⟨gb554, _, none⟩) NB517_554.out _).trans (((cell_far (p := ⟨gb554, _, none⟩) NB517_554.out _).trans (hHeld.2.2.2.1)))))))))))))))), ((cell_far (p := ⟨gb554, _, none⟩) NB517_554.out _).trans (((cell_far (p := ⟨gb554, _, none⟩) NB517_554.out _).trans (((cell_far (p := ⟨gb554, _, none⟩) NB517_554.out _).trans (((cell_far (p := ⟨gb554, _, none⟩) NB517_554.out _).trans (((cell_far (p := ⟨gb554, _, none⟩) NB517_554.out _).trans (((cell_far (p := ⟨gb554, _, none⟩) NB517_554.out _).trans (((cell_far (p := ⟨gb554, _, none⟩) NB517_554.out _).trans (((cell_far (p := ⟨gb554, _, none⟩) NB517_554.out _).trans (hHeld.2.2.2.2.1)))))))))))))))), ((cell_far (p := ⟨gb554, _, none⟩) NB517_554.out _).trans (((cell_far (p := ⟨gb554, _, none⟩) NB517_554.out _).trans (((cell_far (p := ⟨gb554, _, none⟩) NB517_554.out _).trans (((cell_far (p := ⟨gb554, _, none⟩) NB517_554.out _).trans (((cell_far (p := ⟨gb554, _, none⟩) NB517_554.out _).trans (((cell_far (p := ⟨gb554, _, none⟩) NB517_554.out _).trans (((cell_far (p := ⟨gb554, _, none⟩) NB517_554.out _).trans (((cell_far (p := ⟨gb554, _, none⟩) NB517_554.out _).trans (hHeld.2.2.2.2.2.1)))))))))))))))), ((cell_far (p := ⟨gb554, _, none⟩) NB517_554.out _).trans (((cell_far (p := ⟨gb554, _, none⟩) NB517_554.out _).trans (((cell_far (p := ⟨gb554, _, none⟩) NB517_554.out _).trans (((cell_far (p := ⟨gb554, _, none⟩) NB517_554.out _).trans (((cell_far (p := ⟨gb554, _, none⟩) NB517_554.out _).trans (((cell_far (p := ⟨gb554, _, none⟩) NB517_554.out _).trans (((cell_far (p := ⟨gb554, _, none⟩) NB517_554.out _).trans (((cell_far (p := ⟨gb554, _, none⟩) NB517_554.out _).trans (hHeld.2.2.2.2.2.2.1)))))))))))))))), ((cell_far (p := ⟨gb554, _, none⟩) NB517_554.out _).trans (((cell_far (p := ⟨gb554, _, none⟩) NB517_554.out _).trans (((cell_far (p := ⟨gb554, _, none⟩) NB517_554.out _).trans (((cell_far (p := ⟨gb554, _, none⟩) NB517_554.out _).trans (((cell_far (p := ⟨gb554, _, none⟩) NB517_554.out _).trans (((cell_far (p := ⟨gb554, _, none⟩) NB517_554.out _).trans (((cell_far (p := ⟨gb554, _, none⟩) NB517_554.out _).trans (((cell_far (p := ⟨gb554, _, none⟩) NB517_554.out _).trans (hHeld.2.2.2.2.2.2.2))))))))))))))))⟩ (fun hHeld => ?_)
        clear hK K
        refine pa_ 11 (some 12) (bl_ 13 4095) HT_ ?_
        refine pa_ 12 (some 13) (bl_ 13 8191) HT_ ?_
        refine done_ (done_of HT_.out (by kernel_rfl)) ?_
        clear hcut68
        try go_wp2
        have n0_ : Aside0 (Kd.R (Kd.int .i64) 2 ((((((((w71.setCell ⟨gb554, 0, none⟩ (.int .i64 t540)).setCell ⟨gb554, 1, none⟩ (.int .i64 t541)).setCell ⟨gb554, 2, none⟩ (.int .i64 t542)).setCell ⟨gb554, 3, none⟩ (.int .i64 t543)).setCell ⟨gb554, 4, none⟩ (.int .i64 t544)).setCell ⟨gb554, 5, none⟩ (.int .u64 t545)).setCell ⟨gb554, 6, none⟩ (.int .i64 t546)).setCell ⟨gb554, 7, none⟩ (.slice Ao79 t547.length co79)) w.heap.size (fun k_ => some k_ ≠ (v532 : Value).ownBlock ∧ some k_ ≠ (.slice Ao79 t547.length co79 : Value).ownBlock ∧ some k_ ≠ (v551 : Value).ownBlock) (.slice Ao65 t528.length co65) t528) := ⟨by (with_reducible repeat (first | apply Kd.R_alloc | apply Kd.R_drewN | apply Kd.R_drew)); exact Kd.R_mono (Kd.R_far (p := ⟨gb554, 7, none⟩) (Kd.R_far (p := ⟨gb554, 6, none⟩) (Kd.R_far (p := ⟨gb554, 5, none⟩) (Kd.R_far (p := ⟨gb554, 4, none⟩) (Kd.R_far (p := ⟨gb554, 3, none⟩) (Kd.R_far (p := ⟨gb554, 2, none⟩) (Kd.R_far (p := ⟨gb554, 1, none⟩) (Kd.R_far (p := ⟨gb554, 0, none⟩) (Kd.R_types HO530.out BK554.out (by decide)) (fun _ hk => hk.2) (.int .i64 t540)) (fun _ hk => hk.2) (.int .i64 t541)) (fun _ hk => hk.2) (.int .i64 t542)) (fun _ hk => hk.2) (.int .i64 t543)) (fun _ hk => hk.2) (.int .i64 t544)) (fun _ hk => hk.2) (.int .u64 t545)) (fun _ hk => hk.2) (.int .i64 t546)) (fun _ hk => hk.2) (.slice Ao79 t547.length co79)) (fun _ hk => ⟨hk.1.1, ⟨hk.1.2.1, hk.1.2.2⟩⟩)⟩
        have n1_ : Aside0 (Kd.R (Kd.int .i64) 2 ((((((((w71.setCell ⟨gb554, 0, none⟩ (.int .i64 t540)).setCell ⟨gb554, 1, none⟩ (.int .i64 t541)).setCell ⟨gb554, 2, none⟩ (.int .i64 t542)).setCell ⟨gb554, 3, none⟩ (.int .i64 t543)).setCell ⟨gb554, 4, none⟩ (.int .i64 t544)).setCell ⟨gb554, 5, none⟩ (.int .u64 t545)).setCell ⟨gb554, 6, none⟩ (.int .i64 t546)).setCell ⟨gb554, 7, none⟩ (.slice Ao79 t547.length co79)) w.heap.size (fun k_ => some k_ ≠ (.slice Ao65 t528.length co65 : Value).ownBlock ∧ some k_ ≠ (.slice Ao79 t547.length co79 : Value).ownBlock ∧ some k_ ≠ (v551 : Value).ownBlock) v532 t531) := ⟨by (with_reducible repeat (first | apply Kd.R_alloc | apply Kd.R_drewN | apply Kd.R_drew)); exact Kd.R_mono (Kd.R_far (p := ⟨gb554, 7, none⟩) (Kd.R_far (p := ⟨gb554, 6, none⟩) (Kd.R_far (p := ⟨gb554, 5, none⟩) (Kd.R_far (p := ⟨gb554, 4, none⟩) (Kd.R_far (p := ⟨gb554, 3, none⟩) (Kd.R_far (p := ⟨gb554, 2, none⟩) (Kd.R_far (p := ⟨gb554, 1, none⟩) (Kd.R_far (p := ⟨gb554, 0, none⟩) (Kd.R_types HO533.out BK554.out (by decide)) (fun _ hk => hk.2) (.int .i64 t540)) (fun _ hk => hk.2) (.int .i64 t541)) (fun _ hk => hk.2) (.int .i64 t542)) (fun _ hk => hk.2) (.int .i64 t543)) (fun _ hk => hk.2) (.int .i64 t544)) (fun _ hk => hk.2) (.int .u64 t545)) (fun _ hk => hk.2) (.int .i64 t546)) (fun _ hk => hk.2) (.slice Ao79 t547.length co79)) (fun _ hk => ⟨hk.1.1, ⟨hk.1.2.1, hk.1.2.2⟩⟩)⟩
        have n2_ : Aside0 (Kd.R (Kd.int .i64) 2 ((((((((w71.setCell ⟨gb554, 0, none⟩ (.int .i64 t540)).setCell ⟨gb554, 1, none⟩ (.int .i64 t541)).setCell ⟨gb554, 2, none⟩ (.int .i64 t542)).setCell ⟨gb554, 3, none⟩ (.int .i64 t543)).setCell ⟨gb554, 4, none⟩ (.int .i64 t544)).setCell ⟨gb554, 5, none⟩ (.int .u64 t545)).setCell ⟨gb554, 6, none⟩ (.int .i64 t546)).setCell ⟨gb554, 7, none⟩ (.slice Ao79 t547.length co79)) w.heap.size (fun k_ => some k_ ≠ (.slice Ao65 t528.length co65 : Value).ownBlock ∧ some k_ ≠ (v532 : Value).ownBlock ∧ some k_ ≠ (v551 : Value).ownBlock) (.slice Ao79 t547.length co79) t547) := ⟨by (with_reducible repeat (first | apply Kd.R_alloc | apply Kd.R_drewN | apply Kd.R_drew)); exact Kd.R_mono (Kd.R_far (p := ⟨gb554, 7, none⟩) (Kd.R_far (p := ⟨gb554, 6, none⟩) (Kd.R_far (p := ⟨gb554, 5, none⟩) (Kd.R_far (p := ⟨gb554, 4, none⟩) (Kd.R_far (p := ⟨gb554, 3, none⟩) (Kd.R_far (p := ⟨gb554, 2, none⟩) (Kd.R_far (p := ⟨gb554, 1, none⟩) (Kd.R_far (p := ⟨gb554, 0, none⟩) (Kd.R_types HO549.out BK554.out (by decide)) (fun _ hk => hk.2) (.int .i64 t540)) (fun _ hk => hk.2) (.int .i64 t541)) (fun _ hk => hk.2) (.int .i64 t542)) (fun _ hk => hk.2) (.int .i64 t543)) (fun _ hk => hk.2) (.int .i64 t544)) (fun _ hk => hk.2) (.int .u64 t545)) (fun _ hk => hk.2) (.int .i64 t546)) (fun _ hk => hk.2) (.slice Ao79 t547.length co79)) (fun _ hk => ⟨hk.1.1, ⟨hk.1.2.1, hk.1.2.2⟩⟩)⟩
        have n3_ : Aside0 (Kd.R (Kd.int .i64) 2 ((((((((w71.setCell ⟨gb554, 0, none⟩ (.int .i64 t540)).setCell ⟨gb554, 1, none⟩ (.int .i64 t541)).setCell ⟨gb554, 2, none⟩ (.int .i64 t542)).setCell ⟨gb554, 3, none⟩ (.int .i64 t543)).setCell ⟨gb554, 4, none⟩ (.int .i64 t544)).setCell ⟨gb554, 5, none⟩ (.int .u64 t545)).setCell ⟨gb554, 6, none⟩ (.int .i64 t546)).setCell ⟨gb554, 7, none⟩ (.slice Ao79 t547.length co79)) w.heap.size (fun k_ => some k_ ≠ (.slice Ao65 t528.length co65 : Value).ownBlock ∧ some k_ ≠ (v532 : Value).ownBlock ∧ some k_ ≠ (.slice Ao79 t547.length co79 : Value).ownBlock) v551 t550) := ⟨by (with_reducible repeat (first | apply Kd.R_alloc | apply Kd.R_drewN | apply Kd.R_drew)); exact Kd.R_mono (Kd.R_far (p := ⟨gb554, 7, none⟩) (Kd.R_far (p := ⟨gb554, 6, none⟩) (Kd.R_far (p := ⟨gb554, 5, none⟩) (Kd.R_far (p := ⟨gb554, 4, none⟩) (Kd.R_far (p := ⟨gb554, 3, none⟩) (Kd.R_far (p := ⟨gb554, 2, none⟩) (Kd.R_far (p := ⟨gb554, 1, none⟩) (Kd.R_far (p := ⟨gb554, 0, none⟩) (Kd.R_types HO552.out BK554.out (by decide)) (fun _ hk => hk.2) (.int .i64 t540)) (fun _ hk => hk.2) (.int .i64 t541)) (fun _ hk => hk.2) (.int .i64 t542)) (fun _ hk => hk.2) (.int .i64 t543)) (fun _ hk => hk.2) (.int .i64 t544)) (fun _ hk => hk.2) (.int .u64 t545)) (fun _ hk => hk.2) (.int .i64 t546)) (fun _ hk => hk.2) (.slice Ao79 t547.length co79)) (fun _ hk => ⟨hk.1.1, ⟨hk.1.2.1, hk.1.2.2⟩⟩)⟩
        have n4_ : Aside0 (((((((((w71.setCell ⟨gb554, 0, none⟩ (.int .i64 t540)).setCell ⟨gb554, 1, none⟩ (.int .i64 t541)).setCell ⟨gb554, 2, none⟩ (.int .i64 t542)).setCell ⟨gb554, 3, none⟩ (.int .i64 t543)).setCell ⟨gb554, 4, none⟩ (.int .i64 t544)).setCell ⟨gb554, 5, none⟩ (.int .u64 t545)).setCell ⟨gb554, 6, none⟩ (.int .i64 t546)).setCell ⟨gb554, 7, none⟩ (.slice Ao79 t547.length co79)).heap[gb517]? = some (.cells #[.int .i64 a0_0, .int .i64 a0_1, .int .i64 a0_2, .int .i64 a0_3, .int .i64 a0_4, .int .u64 a0_5, .int .i64 a0_6, .slice A0_7 l0_7.length c0_7] 29 (0, 0))) := ⟨(bt_ BK517)⟩
        have n5_ : Aside0 (((((((((w71.setCell ⟨gb554, 0, none⟩ (.int .i64 t540)).setCell ⟨gb554, 1, none⟩ (.int .i64 t541)).setCell ⟨gb554, 2, none⟩ (.int .i64 t542)).setCell ⟨gb554, 3, none⟩ (.int .i64 t543)).setCell ⟨gb554, 4, none⟩ (.int .i64 t544)).setCell ⟨gb554, 5, none⟩ (.int .u64 t545)).setCell ⟨gb554, 6, none⟩ (.int .i64 t546)).setCell ⟨gb554, 7, none⟩ (.slice Ao79 t547.length co79)).heap[gb535]? = some (.cells #[.int .i64 t521, .int .i64 t522, .int .i64 t523, .int .i64 t524, .int .i64 t525, .int .u64 t526, .int .i64 t527, .slice Ao65 t528.length co65] 29 (0, 0))) := ⟨(bt_ BK535)⟩
        have n6_ : Aside0 (((((((((w71.setCell ⟨gb554, 0, none⟩ (.int .i64 t540)).setCell ⟨gb554, 1, none⟩ (.int .i64 t541)).setCell ⟨gb554, 2, none⟩ (.int .i64 t542)).setCell ⟨gb554, 3, none⟩ (.int .i64 t543)).setCell ⟨gb554, 4, none⟩ (.int .i64 t544)).setCell ⟨gb554, 5, none⟩ (.int .u64 t545)).setCell ⟨gb554, 6, none⟩ (.int .i64 t546)).setCell ⟨gb554, 7, none⟩ (.slice Ao79 t547.length co79)).heap[gb554]? = some (.cells #[.int .i64 t540, .int .i64 t541, .int .i64 t542, .int .i64 t543, .int .i64 t544, .int .u64 t545, .int .i64 t546, .slice Ao79 t547.length co79] 29 (0, 0))) := ⟨(blk_put (cs := #[.int .i64 t540, .int .i64 t541, .int .i64 t542, .int .i64 t543, .int .i64 t544, .int .u64 t545, .int .i64 t546, .slice none 0 0]) (blk_put (cs := #[.int .i64 t540, .int .i64 t541, .int .i64 t542, .int .i64 t543, .int .i64 t544, .int .u64 t545, .int .i64 0, .slice none 0 0]) (blk_put (cs := #[.int .i64 t540, .int .i64 t541, .int .i64 t542, .int .i64 t543, .int .i64 t544, .int .u64 0, .int .i64 0, .slice none 0 0]) (blk_put (cs := #[.int .i64 t540, .int .i64 t541, .int .i64 t542, .int .i64 t543, .int .i64 0, .int .u64 0, .int .i64 0, .slice none 0 0]) (blk_put (cs := #[.int .i64 t540, .int .i64 t541, .int .i64 t542, .int .i64 0, .int .i64 0, .int .u64 0, .int .i64 0, .slice none 0 0]) (blk_put (cs := #[.int .i64 t540, .int .i64 t541, .int .i64 0, .int .i64 0, .int .i64 0, .int .u64 0, .int .i64 0, .slice none 0 0]) (blk_put (cs := #[.int .i64 t540, .int .i64 0, .int .i64 0, .int .i64 0, .int .i64 0, .int .u64 0, .int .i64 0, .slice none 0 0]) (blk_put (cs := #[.int .i64 0, .int .i64 0, .int .i64 0, .int .i64 0, .int .i64 0, .int .u64 0, .int .i64 0, .slice none 0 0]) (bq_ BK554) 0 _ rfl) 1 _ rfl) 2 _ rfl) 3 _ rfl) 4 _ rfl) 5 _ rfl) 6 _ rfl) 7 _ rfl)⟩
        have n7_ : Aside0 (Below w.heap.size w ((((((((w71.setCell ⟨gb554, 0, none⟩ (.int .i64 t540)).setCell ⟨gb554, 1, none⟩ (.int .i64 t541)).setCell ⟨gb554, 2, none⟩ (.int .i64 t542)).setCell ⟨gb554, 3, none⟩ (.int .i64 t543)).setCell ⟨gb554, 4, none⟩ (.int .i64 t544)).setCell ⟨gb554, 5, none⟩ (.int .u64 t545)).setCell ⟨gb554, 6, none⟩ (.int .i64 t546)).setCell ⟨gb554, 7, none⟩ (.slice Ao79 t547.length co79))) := bw_
        (try clear HO530)
        (try clear HO533)
        (try clear HO549)
        (try clear HO552)
        (try clear BK517)
        (try clear BK535)
        (try clear BK554)
        (try clear HB)
        generalize ((((((((w71.setCell ⟨gb554, 0, none⟩ (.int .i64 t540)).setCell ⟨gb554, 1, none⟩ (.int .i64 t541)).setCell ⟨gb554, 2, none⟩ (.int .i64 t542)).setCell ⟨gb554, 3, none⟩ (.int .i64 t543)).setCell ⟨gb554, 4, none⟩ (.int .i64 t544)).setCell ⟨gb554, 5, none⟩ (.int .u64 t545)).setCell ⟨gb554, 6, none⟩ (.int .i64 t546)).setCell ⟨gb554, 7, none⟩ (.slice Ao79 t547.length co79)) = w81 at n0_ n1_ n2_ n3_ n4_ n5_ n6_ n7_ ⊢
        have HO530 := n0_
        have HO533 := n1_
        have HO549 := n2_
        have HO552 := n3_
        have BK517 := n4_
        have BK535 := n5_
        have BK554 := n6_
        have HB := n7_
        clear n0_ n1_ n2_ n3_ n4_ n5_ n6_ n7_
        replace HO530 := Aside0.mk (Kd.R_drew HO530.out)
        replace HO533 := Aside0.mk (Kd.R_drew HO533.out)
        replace HO549 := Aside0.mk (Kd.R_drew HO549.out)
        replace HO552 := Aside0.mk (Kd.R_drew HO552.out)
        replace BK517 := Aside0.mk (blk_drew BK517.out)
        replace BK535 := Aside0.mk (blk_drew BK535.out)
        replace BK554 := Aside0.mk (blk_drew BK554.out)
        replace HB := Aside0.mk (below_drew1 HB.out)
        have q83 : (a2 : Int) ≤ ((l1.length : Int) : Int) := of_decide_eq_true (by first | (with_reducible assumption) | assumption)
        obtain ⟨i083, hi083, _, hsz83, _⟩ := info_parts info31
        have hroom83 : l1.length ≤ c1 := HC1.out
        have hC83 : Kd.C k31 _ A1 l1.length l1 := HR1.out
        have q083 : (0 : Int) ≤ (a2 : Int) := of_decide_eq_true (by first | (with_reducible assumption) | assumption)
        have hcut83 := cut_from (P := Try.prog) 44 31 .i64 Try.underlying44 hi083 4 hsz83 A1 l1.length c1 a2 q083 q83
        have hr83 := Kd.C_drop (m := (a2 : Int).toNat) (c := c1) hC83 (by omega) hroom83
        obtain ⟨A83, hA83⟩ : ∃ Az_, Az_ = (if c1 = (a2 : Int).toNat then A1 else (A1 : Option Addr).map (·.add ((a2 : Int).toNat * 4))) := ⟨_, rfl⟩
        obtain ⟨c83, hc83⟩ : ∃ cz_, cz_ = c1 - (a2 : Int).toNat := ⟨_, rfl⟩
        have hy83 : y555.length = l1.length - (a2 : Int).toNat := (by rw [Ny555.out, List.length_drop] <;> omega)
        rw [show (l1).drop (a2 : Int).toNat = y555 from Ny555.out.symm] at hr83
        replace hr83 : Kd.C k31 _ A83 y555.length y555 := (by rw [hA83]; exact hr83)
        rw [← hy83, ← hA83, ← hc83] at hcut83
        have HR558 := Aside0.mk hr83
        have HC558 := Aside0.mk (show y555.length ≤ c83 from by rw [hy83, hc83]; exact Nat.sub_le_sub_right hroom83 _)
        clear hr83 hC83 hroom83 hi083 hsz83 hc83
        have KY83 := Aside0.mk hy83
        have KA83 := Aside0.mk hA83
        clear hy83 hA83
        replace q83 := eq_true q83
        refine start_ (n := 13) (S := fun w' => w'.cell? ⟨gb554, 0, none⟩ = some (.int .i64 t540) ∧ w'.cell? ⟨gb554, 1, none⟩ = some (.int .i64 t541) ∧ w'.cell? ⟨gb554, 2, none⟩ = some (.int .i64 t542) ∧ w'.cell? ⟨gb554, 3, none⟩ = some (.int .i64 t543) ∧ w'.cell? ⟨gb554, 4, none⟩ = some (.int .i64 t544) ∧ w'.cell? ⟨gb554, 5, none⟩ = some (.int .u64 t545) ∧ w'.cell? ⟨gb554, 6, none⟩ = some (.int .i64 t546) ∧ w'.cell? ⟨gb554, 7, none⟩ = some (.slice Ao79 t547.length co79)) (ds := []) (bl_ 13 0) (by kernel_rfl) rfl (by kernel_rfl) ⟨(blk_cell BK554.out 0).trans rfl, (blk_cell BK554.out 1).trans rfl, (blk_cell BK554.out 2).trans rfl, (blk_cell BK554.out 3).trans rfl, (blk_cell BK554.out 4).trans rfl, (blk_cell BK554.out 5).trans rfl, (blk_cell BK554.out 6).trans rfl, (blk_cell BK554.out 7).trans rfl⟩ (fun hHeld => ?_); refine with_tabW spigotlaw42_LeaseParts.tab8 spigotlaw42_LeaseParts.bits8 (fun HT_ HW_ => ?_)
        generalize w81.drew = w82 at HO530 HO533 HO549 HO552 BK517 BK535 BK554 HB HR558 hHeld ⊢
        refine pa_ 1 (some 73) (bl_ 13 2) HT_ ?_
        refine pa_ 2 (some 74) (bl_ 13 6) HT_ ?_
        refine pa_ 3 (some 75) (bl_ 13 14) HT_ ?_
        refine ta_ 0 (some 72) (bl_ 13 15) HT_ HW_ hHeld ?_
        refine join_ (σ := Value × Value × Nat) 3 (bl_ 13 1023) (fun s_ => [(76, .tuple #[.agg #[.int .i64 t559, .int .i64 t560, .int .i64 t561, .int .i64 t562, .int .i64 t563, .int .u64 t564, .int .i64 t565, s_.1], s_.2.1, .int .i64 t572]), (14, .pointer (some ⟨s_.2.2, 0, none⟩)), (71, .tuple #[.agg #[.int .i64 t559, .int .i64 t560, .int .i64 t561, .int .i64 t562, .int .i64 t563, .int .u64 t564, .int .i64 t565, s_.1], s_.2.1, .int .i64 t572]), (77, .agg #[.int .i64 t559, .int .i64 t560, .int .i64 t561, .int .i64 t562, .int .i64 t563, .int .u64 t564, .int .i64 t565, s_.1]), (78, s_.2.1), (79, .int .i64 t572)]) (fun s_ w' => (w'.cell? ⟨gb554, 0, none⟩ = some (.int .i64 t540) ∧ w'.cell? ⟨gb554, 1, none⟩ = some (.int .i64 t541) ∧ w'.cell? ⟨gb554, 2, none⟩ = some (.int .i64 t542) ∧ w'.cell? ⟨gb554, 3, none⟩ = some (.int .i64 t543) ∧ w'.cell? ⟨gb554, 4, none⟩ = some (.int .i64 t544) ∧ w'.cell? ⟨gb554, 5, none⟩ = some (.int .u64 t545) ∧ w'.cell? ⟨gb554, 6, none⟩ = some (.int .i64 t546) ∧ w'.cell? ⟨gb554, 7, none⟩ = some (.slice Ao79 t547.length co79)) ∧ (Kd.R (Kd.int .i64) 2 w' w.heap.size (fun k_ => some k_ ≠ (v532 : Value).ownBlock ∧ some k_ ≠ (.slice Ao79 t547.length co79 : Value).ownBlock ∧ some k_ ≠ (v551 : Value).ownBlock ∧ some k_ ≠ (s_.1 : Value).ownBlock ∧ some k_ ≠ (s_.2.1 : Value).ownBlock) (.slice Ao65 t528.length co65) t528) ∧ (Kd.R (Kd.int .i64) 2 w' w.heap.size (fun k_ => some k_ ≠ (.slice Ao65 t528.length co65 : Value).ownBlock ∧ some k_ ≠ (.slice Ao79 t547.length co79 : Value).ownBlock ∧ some k_ ≠ (v551 : Value).ownBlock ∧ some k_ ≠ (s_.1 : Value).ownBlock ∧ some k_ ≠ (s_.2.1 : Value).ownBlock) v532 t531) ∧ (Kd.R (Kd.int .i64) 2 w' w.heap.size (fun k_ => some k_ ≠ (.slice Ao65 t528.length co65 : Value).ownBlock ∧ some k_ ≠ (v532 : Value).ownBlock ∧ some k_ ≠ (v551 : Value).ownBlock ∧ some k_ ≠ (s_.1 : Value).ownBlock ∧ some k_ ≠ (s_.2.1 : Value).ownBlock) (.slice Ao79 t547.length co79) t547) ∧ (Kd.R (Kd.int .i64) 2 w' w.heap.size (fun k_ => some k_ ≠ (.slice Ao65 t528.length co65 : Value).ownBlock ∧ some k_ ≠ (v532 : Value).ownBlock ∧ some k_ ≠ (.slice Ao79 t547.length co79 : Value).ownBlock ∧ some k_ ≠ (s_.1 : Value).ownBlock ∧ some k_ ≠ (s_.2.1 : Value).ownBlock) v551 t550) ∧ (Kd.R (Kd.int .i64) 2 w' w.heap.size (fun k_ => some k_ ≠ (.slice Ao65 t528.length co65 : Value).ownBlock ∧ some k_ ≠ (v532 : Value).ownBlock ∧ some k_ ≠ (.slice Ao79 t547.length co79 : Value).ownBlock ∧ some k_ ≠ (v551 : Value).ownBlock ∧ some k_ ≠ (s_.2.1 : Value).ownBlock) s_.1 t566) ∧ (Kd.R (Kd.int .i64) 2 w' w.heap.size (fun k_ => some k_ ≠ (.slice Ao65 t528.length co65 : Value).ownBlock ∧ some k_ ≠ (v532 : Value).ownBlock ∧ some k_ ≠ (.slice Ao79 t547.length co79 : Value).ownBlock ∧ some k_ ≠ (v551 : Value).ownBlock ∧ some k_ ≠ (s_.1 : Value).ownBlock) s_.2.1 t569) ∧ (w'.heap[gb517]? = some (.cells #[.int .i64 a0_0, .int .i64 a0_1, .int .i64 a0_2, .int .i64 a0_3, .int .i64 a0_4, .int .u64 a0_5, .int .i64 a0_6, .slice A0_7 l0_7.length c0_7] 29 (0, 0))) ∧ (w'.heap[gb535]? = some (.cells #[.int .i64 t521, .int .i64 t522, .int .i64 t523, .int .i64 t524, .int .i64 t525, .int .u64 t526, .int .i64 t527, .slice Ao65 t528.length co65] 29 (0, 0))) ∧ (w'.heap[gb554]? = some (.cells #[.int .i64 t540, .int .i64 t541, .int .i64 t542, .int .i64 t543, .int .i64 t544, .int .u64 t545, .int .i64 t546, .slice Ao79 t547.length co79] 29 (0, 0))) ∧ (w'.heap[s_.2.2]? = some (.cells #[.int .i64 0, .int .i64 0, .int .i64 0, .int .i64 0, .int .i64 0, .int .u64 0, .int .i64 0, .slice none 0 0] 29 (0, 0))) ∧ (w.heap.size ≤ s_.2.2) ∧ (w.heap.size ≤ s_.2.2) ∧ (gb517 ≠ s_.2.2) ∧ (s_.2.2 ≠ gb517) ∧ (gb535 ≠ s_.2.2) ∧ (s_.2.2 ≠ gb535) ∧ (gb554 ≠ s_.2.2) ∧ (s_.2.2 ≠ gb554) ∧ (Below w.heap.size w w')) ?_ ?_
        rotate_left
        ·intro hCont
         refine tw_ 4 9 (some 76) (some 14) (bl_ 13 31) (bl_ 13 527) HT_ (fun K hK => ?_) fun K hK => ?_
         ·refine goesB_ Try.func16 #[.agg #[.int .i64 t540, .int .i64 t541, .int .i64 t542, .int .i64 t543, .int .i64 t544, .int .u64 t545, .int .i64 t546, .slice Ao79 t547.length co79], .slice A83 y555.length c83] ?_
          with_reducible refine (lease_Run.calls kj4 t540 t541 t542 t543 t544 t545 t546 _ _ t547 _ _ y555 t559 t560 t561 t562 t563 t564 t565 t566 t569 t572 _ ?side1 ?side2 ?side3 ?side4 A40.out).mono ?_
          (case side1 => exact cr_ HO549)
          (case side2 => exact (Kd.R_reads' HO549.out).2.1)
          (case side3 => exact cs_ HR558 HB)
          (case side4 => exact HC558.out)
          rintro e w84 ⟨v567, v570, rfl, ho0, ho1, hb⟩
          refine ⟨_, rfl, ?_⟩
          have HO568 := Aside0.mk (Kd.R_lower (Kd.R_new' (Kd.R_new' (Kd.R_new' (Kd.R_new' ho0 (Kd.R_lt (rs_ HO530))) (Kd.R_lt (rs_ HO533))) (Kd.R_lt (rs_ HO549))) (Kd.R_lt (rs_ HO552))) (below_size bh_))
          have HO571 := Aside0.mk (Kd.R_lower (Kd.R_new' (Kd.R_new' (Kd.R_new' (Kd.R_new' ho1 (Kd.R_lt (rs_ HO530))) (Kd.R_lt (rs_ HO533))) (Kd.R_lt (rs_ HO549))) (Kd.R_lt (rs_ HO552))) (below_size bh_))
          replace HO530 := Aside0.mk (Kd.R_mono (Kd.R_told (Kd.R_told (Kd.R_old (rs_ HO530) hb) (Kd.R_base ho0)) (Kd.R_base ho1)) (fun _ h_ => h_.1))
          replace HO533 := Aside0.mk (Kd.R_mono (Kd.R_told (Kd.R_told (Kd.R_old (rs_ HO533) hb) (Kd.R_base ho0)) (Kd.R_base ho1)) (fun _ h_ => h_.1))
          replace HO549 := Aside0.mk (Kd.R_mono (Kd.R_told (Kd.R_told (Kd.R_old (rs_ HO549) hb) (Kd.R_base ho0)) (Kd.R_base ho1)) (fun _ h_ => h_.1))
          replace HO552 := Aside0.mk (Kd.R_mono (Kd.R_told (Kd.R_told (Kd.R_old (rs_ HO552) hb) (Kd.R_base ho0)) (Kd.R_base ho1)) (fun _ h_ => h_.1))
          replace BK517 := bb_ BK517 hb
          replace BK535 := bb_ BK535 hb
          replace BK554 := bb_ BK554 hb
          replace HB := bs_ w hb
          (try clear hb)
          (try clear hb2)
          (try clear hk)
          (try clear hi)
          (try clear ho0)
          (try clear ho1)
          refine hK.out _ _ ⟨(blk_cell BK554.out 0).trans rfl, (blk_cell BK554.out 1).trans rfl, (blk_cell BK554.out 2).trans rfl, (blk_cell BK554.out 3).trans rfl, (blk_cell BK554.out 4).trans rfl, (blk_cell BK554.out 5).trans rfl, (blk_cell BK554.out 6).trans rfl, (blk_cell BK554.out 7).trans rfl⟩ (fun hHeld => ?_)
          clear hK K
          refine nm_ (some 76) ?_
          refine pa_ 5 (some 71) (bl_ 13 63) HT_ ?_
          refine pa_ 6 (some 77) (bl_ 13 127) HT_ ?_
          refine pa_ 7 (some 78) (bl_ 13 255) HT_ ?_
          refine pa_ 8 (some 79) (bl_ 13 511) HT_ ?_
          refine oa_ 9 (some 14) (bl_ 13 1023) HT_ fun K hK => ?_
          refine bs2_ #[.int .i64 0, .int .i64 0, .int .i64 0, .int .i64 0, .int .i64 0, .int .u64 0, .int .i64 0, .slice none 0 0] 29 ?_
          intro gb573 hg w85 BK573 hb
          have GW573 := bz_ w hg
          have GE573 := GW573
          have NB517_573 := bn_ BK517 hg
          have NB573_517 := bm_ BK517 hg
          have NB535_573 := bn_ BK535 hg
          have NB573_535 := bm_ BK535 hg
          have NB554_573 := bn_ BK554 hg
          have NB573_554 := bm_ BK554 hg
          replace HO530 := rb_ HO530 hb
          replace HO533 := rb_ HO533 hb
          replace HO549 := rb_ HO549 hb
          replace HO552 := rb_ HO552 hb
          replace HO568 := rb_ HO568 hb
          replace HO571 := rb_ HO571 hb
          replace BK517 := bb_ BK517 hb
          replace BK535 := bb_ BK535 hb
          replace BK554 := bb_ BK554 hb
          replace HB := bs_ w hb
          clear hb hg
          refine hK.out _ _ ⟨(blk_cell BK554.out 0).trans rfl, (blk_cell BK554.out 1).trans rfl, (blk_cell BK554.out 2).trans rfl, (blk_cell BK554.out 3).trans rfl, (blk_cell BK554.out 4).trans rfl, (blk_cell BK554.out 5).trans rfl, (blk_cell BK554.out 6).trans rfl, (blk_cell BK554.out 7).trans rfl⟩ (fun hHeld => ?_)
          clear hK K
          refine nm_ (some 14) ?_
          exact no_ (hCont (v567, v570, gb573) _ ⟨hHeld, (by (with_reducible repeat (first | apply Kd.R_alloc | apply Kd.R_drewN | apply Kd.R_drew)); exact Kd.R_mono HO530.out (fun _ hk => ⟨hk.1.1.1, ⟨hk.1.1.2.1, ⟨hk.1.1.2.2, ⟨hk.1.2, hk.2⟩⟩⟩⟩)), (by (with_reducible repeat (first | apply Kd.R_alloc | apply Kd.R_drewN | apply Kd.R_drew)); exact Kd.R_mono HO533.out (fun _ hk => ⟨hk.1.1.1, ⟨hk.1.1.2.1, ⟨hk.1.1.2.2, ⟨hk.1.2, hk.2⟩⟩⟩⟩)), (by (with_reducible repeat (first | apply Kd.R_alloc | apply Kd.R_drewN | apply Kd.R_drew)); exact Kd.R_mono HO549.out (fun _ hk => ⟨hk.1.1.1, ⟨hk.1.1.2.1, ⟨hk.1.1.2.2, ⟨hk.1.2, hk.2⟩⟩⟩⟩)), (by (with_reducible repeat (first | apply Kd.R_alloc | apply Kd.R_drewN | apply Kd.R_drew)); exact Kd.R_mono HO552.out (fun _ hk => ⟨hk.1.1.1, ⟨hk.1.1.2.1, ⟨hk.1.1.2.2, ⟨hk.1.2, hk.2⟩⟩⟩⟩)), (by (with_reducible repeat (first | apply Kd.R_alloc | apply Kd.R_drewN | apply Kd.R_drew)); exact Kd.R_mono HO568.out (fun _ hk => ⟨hk.1.1.1.2, ⟨hk.1.1.2, ⟨hk.1.2, ⟨hk.2, hk.1.1.1.1⟩⟩⟩⟩)), (by (with_reducible repeat (first | apply Kd.R_alloc | apply Kd.R_drewN | apply Kd.R_drew)); exact Kd.R_mono HO571.out (fun _ hk => ⟨hk.1.1.1.2, ⟨hk.1.1.2, ⟨hk.1.2, ⟨hk.2, hk.1.1.1.1⟩⟩⟩⟩)), (bq_ BK517), (bq_ BK535), (bq_ BK554), (bq_ BK573), GW573.out, GE573.out, NB517_573.out, NB573_517.out, NB535_573.out, NB573_535.out, NB554_573.out, NB573_554.out, bh_⟩)
         ·refine bs2_ #[.int .i64 0, .int .i64 0, .int .i64 0, .int .i64 0, .int .i64 0, .int .u64 0, .int .i64 0, .slice none 0 0] 29 ?_
          intro gb573 hg w84 BK573 hb
          have GW573 := bz_ w hg
          have GE573 := GW573
          have NB517_573 := bn_ BK517 hg
          have NB573_517 := bm_ BK517 hg
          have NB535_573 := bn_ BK535 hg
          have NB573_535 := bm_ BK535 hg
          have NB554_573 := bn_ BK554 hg
          have NB573_554 := bm_ BK554 hg
          replace HO530 := rb_ HO530 hb
          replace HO533 := rb_ HO533 hb
          replace HO549 := rb_ HO549 hb
          replace HO552 := rb_ HO552 hb
          replace BK517 := bb_ BK517 hb
          replace BK535 := bb_ BK535 hb
          replace BK554 := bb_ BK554 hb
          replace HB := bs_ w hb
          clear hb hg
          refine hK.out _ _ ⟨(blk_cell BK554.out 0).trans rfl, (blk_cell BK554.out 1).trans rfl, (blk_cell BK554.out 2).trans rfl, (blk_cell BK554.out 3).trans rfl, (blk_cell BK554.out 4).trans rfl, (blk_cell BK554.out 5).trans rfl, (blk_cell BK554.out 6).trans rfl, (blk_cell BK554.out 7).trans rfl⟩ (fun hHeld => ?_)
          clear hK K
          refine nm_ (some 14) ?_
          refine oa_ 4 (some 76) (bl_ 13 543) HT_ fun K hK => ?_
          refine goesB_ Try.func16 #[.agg #[.int .i64 t540, .int .i64 t541, .int .i64 t542, .int .i64 t543, .int .i64 t544, .int .u64 t545, .int .i64 t546, .slice Ao79 t547.length co79], .slice A83 y555.length c83] ?_
          with_reducible refine (lease_Run.calls kj4 t540 t541 t542 t543 t544 t545 t546 _ _ t547 _ _ y555 t559 t560 t561 t562 t563 t564 t565 t566 t569 t572 _ ?side1 ?side2 ?side3 ?side4 A40.out).mono ?_
          (case side1 => exact cr_ HO549)
          (case side2 => exact (Kd.R_reads' HO549.out).2.1)
          (case side3 => exact cs_ HR558 HB)
          (case side4 => exact HC558.out)
          rintro e w85 ⟨v567, v570, rfl, ho0, ho1, hb⟩
          refine ⟨_, rfl, ?_⟩
          have HO568 := Aside0.mk (Kd.R_lower (Kd.R_new' (Kd.R_new' (Kd.R_new' (Kd.R_new' ho0 (Kd.R_lt (rs_ HO530))) (Kd.R_lt (rs_ HO533))) (Kd.R_lt (rs_ HO549))) (Kd.R_lt (rs_ HO552))) (below_size bh_))
          have HO571 := Aside0.mk (Kd.R_lower (Kd.R_new' (Kd.R_new' (Kd.R_new' (Kd.R_new' ho1 (Kd.R_lt (rs_ HO530))) (Kd.R_lt (rs_ HO533))) (Kd.R_lt (rs_ HO549))) (Kd.R_lt (rs_ HO552))) (below_size bh_))
          replace HO530 := Aside0.mk (Kd.R_mono (Kd.R_told (Kd.R_told (Kd.R_old (rs_ HO530) hb) (Kd.R_base ho0)) (Kd.R_base ho1)) (fun _ h_ => h_.1))
          replace HO533 := Aside0.mk (Kd.R_mono (Kd.R_told (Kd.R_told (Kd.R_old (rs_ HO533) hb) (Kd.R_base ho0)) (Kd.R_base ho1)) (fun _ h_ => h_.1))
          replace HO549 := Aside0.mk (Kd.R_mono (Kd.R_told (Kd.R_told (Kd.R_old (rs_ HO549) hb) (Kd.R_base ho0)) (Kd.R_base ho1)) (fun _ h_ => h_.1))
          replace HO552 := Aside0.mk (Kd.R_mono (Kd.R_told (Kd.R_told (Kd.R_old (rs_ HO552) hb) (Kd.R_base ho0)) (Kd.R_base ho1)) (fun _ h_ => h_.1))
          replace BK517 := bb_ BK517 hb
          replace BK535 := bb_ BK535 hb
          replace BK554 := bb_ BK554 hb
          replace BK573 := bb_ BK573 hb
          replace HB := bs_ w hb
          (try clear hb)
          (try clear hb2)
          (try clear hk)
          (try clear hi)
          (try clear ho0)
          (try clear ho1)
          refine hK.out _ _ ⟨(blk_cell BK554.out 0).trans rfl, (blk_cell BK554.out 1).trans rfl, (blk_cell BK554.out 2).trans rfl, (blk_cell BK554.out 3).trans rfl, (blk_cell BK554.out 4).trans rfl, (blk_cell BK554.out 5).trans rfl, (blk_cell BK554.out 6).trans rfl, (blk_cell BK554.out 7).trans rfl⟩ (fun hHeld => ?_)
          clear hK K
          refine nm_ (some 76) ?_
          refine pa_ 5 (some 71) (bl_ 13 575) HT_ ?_
          refine pa_ 6 (some 77) (bl_ 13 639) HT_ ?_
          refine pa_ 7 (some 78) (bl_ 13 767) HT_ ?_
          refine pa_ 8 (some 79) (bl_ 13 1023) HT_ ?_
          exact no_ (hCont (v567, v570, gb573) _ ⟨hHeld, (by (with_reducible repeat (first | apply Kd.R_alloc | apply Kd.R_drewN | apply Kd.R_drew)); exact Kd.R_mono HO530.out (fun _ hk => ⟨hk.1.1.1, ⟨hk.1.1.2.1, ⟨hk.1.1.2.2, ⟨hk.1.2, hk.2⟩⟩⟩⟩)), (by (with_reducible repeat (first | apply Kd.R_alloc | apply Kd.R_drewN | apply Kd.R_drew)); exact Kd.R_mono HO533.out (fun _ hk => ⟨hk.1.1.1, ⟨hk.1.1.2.1, ⟨hk.1.1.2.2, ⟨hk.1.2, hk.2⟩⟩⟩⟩)), (by (with_reducible repeat (first | apply Kd.R_alloc | apply Kd.R_drewN | apply Kd.R_drew)); exact Kd.R_mono HO549.out (fun _ hk => ⟨hk.1.1.1, ⟨hk.1.1.2.1, ⟨hk.1.1.2.2, ⟨hk.1.2, hk.2⟩⟩⟩⟩)), (by (with_reducible repeat (first | apply Kd.R_alloc | apply Kd.R_drewN | apply Kd.R_drew)); exact Kd.R_mono HO552.out (fun _ hk => ⟨hk.1.1.1, ⟨hk.1.1.2.1, ⟨hk.1.1.2.2, ⟨hk.1.2, hk.2⟩⟩⟩⟩)), (by (with_reducible repeat (first | apply Kd.R_alloc | apply Kd.R_drewN | apply Kd.R_drew)); exact Kd.R_mono HO568.out (fun _ hk => ⟨hk.1.1.1.2, ⟨hk.1.1.2, ⟨hk.1.2, ⟨hk.2, hk.1.1.1.1⟩⟩⟩⟩)), (by (with_reducible repeat (first | apply Kd.R_alloc | apply Kd.R_drewN | apply Kd.R_drew)); exact Kd.R_mono HO571.out (fun _ hk => ⟨hk.1.1.1.2, ⟨hk.1.1.2, ⟨hk.1.2, ⟨hk.2, hk.1.1.1.1⟩⟩⟩⟩)), (bq_ BK517), (bq_ BK535), (bq_ BK554), (bq_ BK573), GW573.out, GE573.out, NB517_573.out, NB573_517.out, NB535_573.out, NB573_535.out, NB554_573.out, NB573_554.out, bh_⟩)
        rintro ⟨v567, v570, gb573⟩ w86 ⟨hS_, h0_, h1_, h2_, h3_, h4_, h5_, h6_, h7_, h8_, h9_, h10_, h11_, h12_, h13_, h14_, h15_, h16_, h17_, h18_⟩
        have HO568 : Aside0 (Kd.R (Kd.int .i64) 2 w86 w.heap.size (fun k_ => some k_ ≠ (.slice Ao65 t528.length co65 : Value).ownBlock ∧ some k_ ≠ (v532 : Value).ownBlock ∧ some k_ ≠ (.slice Ao79 t547.length co79 : Value).ownBlock ∧ some k_ ≠ (v551 : Value).ownBlock ∧ some k_ ≠ (v570 : Value).ownBlock) v567 t566) := ⟨h4_⟩
        have HO571 : Aside0 (Kd.R (Kd.int .i64) 2 w86 w.heap.size (fun k_ => some k_ ≠ (.slice Ao65 t528.length co65 : Value).ownBlock ∧ some k_ ≠ (v532 : Value).ownBlock ∧ some k_ ≠ (.slice Ao79 t547.length co79 : Value).ownBlock ∧ some k_ ≠ (v551 : Value).ownBlock ∧ some k_ ≠ (v567 : Value).ownBlock) v570 t569) := ⟨h5_⟩
        have BK573 := Aside0.mk h9_
        have GW573 := Aside0.mk h10_
        have GE573 := Aside0.mk h11_
        have NB517_573 := Aside0.mk h12_
        have NB573_517 := Aside0.mk h13_
        have NB535_573 := Aside0.mk h14_
        have NB573_535 := Aside0.mk h15_
        have NB554_573 := Aside0.mk h16_
        have NB573_554 := Aside0.mk h17_
        replace HO530 : Aside0 (Kd.R (Kd.int .i64) 2 w86 w.heap.size (fun k_ => some k_ ≠ (v532 : Value).ownBlock ∧ some k_ ≠ (.slice Ao79 t547.length co79 : Value).ownBlock ∧ some k_ ≠ (v551 : Value).ownBlock ∧ some k_ ≠ (v567 : Value).ownBlock ∧ some k_ ≠ (v570 : Value).ownBlock) (.slice Ao65 t528.length co65) t528) := ⟨h0_⟩
        replace HO533 : Aside0 (Kd.R (Kd.int .i64) 2 w86 w.heap.size (fun k_ => some k_ ≠ (.slice Ao65 t528.length co65 : Value).ownBlock ∧ some k_ ≠ (.slice Ao79 t547.length co79 : Value).ownBlock ∧ some k_ ≠ (v551 : Value).ownBlock ∧ some k_ ≠ (v567 : Value).ownBlock ∧ some k_ ≠ (v570 : Value).ownBlock) v532 t531) := ⟨h1_⟩
        replace HO549 : Aside0 (Kd.R (Kd.int .i64) 2 w86 w.heap.size (fun k_ => some k_ ≠ (.slice Ao65 t528.length co65 : Value).ownBlock ∧ some k_ ≠ (v532 : Value).ownBlock ∧ some k_ ≠ (v551 : Value).ownBlock ∧ some k_ ≠ (v567 : Value).ownBlock ∧ some k_ ≠ (v570 : Value).ownBlock) (.slice Ao79 t547.length co79) t547) := ⟨h2_⟩
        replace HO552 : Aside0 (Kd.R (Kd.int .i64) 2 w86 w.heap.size (fun k_ => some k_ ≠ (.slice Ao65 t528.length co65 : Value).ownBlock ∧ some k_ ≠ (v532 : Value).ownBlock ∧ some k_ ≠ (.slice Ao79 t547.length co79 : Value).ownBlock ∧ some k_ ≠ (v567 : Value).ownBlock ∧ some k_ ≠ (v570 : Value).ownBlock) v551 t550) := ⟨h3_⟩
        replace BK517 := Aside0.mk h6_
        replace BK535 := Aside0.mk h7_
        replace BK554 := Aside0.mk h8_
        replace HB := Aside0.mk h18_
        clear h0_ h1_ h2_ h3_ h4_ h5_ h6_ h7_ h8_ h9_ h10_ h11_ h12_ h13_ h14_ h15_ h16_ h17_ h18_
        have hHeld := hS_
        obtain ⟨Ao94, co94, eo94⟩ := Kd.R_slice HO568.out
        (first | subst eo94 | (injection eo94 with f1_ f2_ f3_; have f4_ := f1_.symm; have f5_ := f3_.symm; clear f1_ f2_ f3_; subst f4_; subst f5_))
        refine nq_ ?_
        refine oa_ 10 none (bl_ 13 2047) HT_ fun K hK => ?_
        have hs87 : w86.cell? ⟨gb573, 0, none⟩ = some (.int .i64 0) := (blk_cell BK573.out 0).trans rfl
        have hfs87 := blk_frozen BK573.out 0
        have hns87_0 := NB517_573.out
        have hns87_1 := NB535_573.out
        have hns87_2 := NB554_573.out
        have hms87_0 := NB573_517.out
        have hms87_1 := NB573_535.out
        have hms87_2 := NB573_554.out
        have hs88 : w86.cell? ⟨gb573, 1, none⟩ = some (.int .i64 0) := (blk_cell BK573.out 1).trans rfl
        have hfs88 := blk_frozen BK573.out 1
        have hns88_0 := NB517_573.out
        have hns88_1 := NB535_573.out
        have hns88_2 := NB554_573.out
        have hms88_0 := NB573_517.out
        have hms88_1 := NB573_535.out
        have hms88_2 := NB573_554.out
        have hs89 : w86.cell? ⟨gb573, 2, none⟩ = some (.int .i64 0) := (blk_cell BK573.out 2).trans rfl
        have hfs89 := blk_frozen BK573.out 2
        have hns89_0 := NB517_573.out
        have hns89_1 := NB535_573.out
        have hns89_2 := NB554_573.out
        have hms89_0 := NB573_517.out
        have hms89_1 := NB573_535.out
        have hms89_2 := NB573_554.out
        have hs90 : w86.cell? ⟨gb573, 3, none⟩ = some (.int .i64 0) := (blk_cell BK573.out 3).trans rfl
        have hfs90 := blk_frozen BK573.out 3
        have hns90_0 := NB517_573.out
        have hns90_1 := NB535_573.out
        have hns90_2 := NB554_573.out
        have hms90_0 := NB573_517.out
        have hms90_1 := NB573_535.out
        have hms90_2 := NB573_554.out
        have hs91 : w86.cell? ⟨gb573, 4, none⟩ = some (.int .i64 0) := (blk_cell BK573.out 4).trans rfl
        have hfs91 := blk_frozen BK573.out 4
        have hns91_0 := NB517_573.out
        have hns91_1 := NB535_573.out
        have hns91_2 := NB554_573.out
        have hms91_0 := NB573_517.out
        have hms91_1 := NB573_535.out
        have hms91_2 := NB573_554.out
        have hs92 : w86.cell? ⟨gb573, 5, none⟩ = some (.int .u64 0) := (blk_cell BK573.out 5).trans rfl
        have hfs92 := blk_frozen BK573.out 5
        have hns92_0 := NB517_573.out
        have hns92_1 := NB535_573.out
        have hns92_2 := NB554_573.out
        have hms92_0 := NB573_517.out
        have hms92_1 := NB573_535.out
        have hms92_2 := NB573_554.out
        have hs93 : w86.cell? ⟨gb573, 6, none⟩ = some (.int .i64 0) := (blk_cell BK573.out 6).trans rfl
        have hfs93 := blk_frozen BK573.out 6
        have hns93_0 := NB517_573.out
        have hns93_1 := NB535_573.out
        have hns93_2 := NB554_573.out
        have hms93_0 := NB573_517.out
        have hms93_1 := NB573_535.out
        have hms93_2 := NB573_554.out
        have hs95 : w86.cell? ⟨gb573, 7, none⟩ = some (.slice none 0 0) := (blk_cell BK573.out 7).trans rfl
        have hfs95 := blk_frozen BK573.out 7
        have hns95_0 := NB517_573.out
        have hns95_1 := NB535_573.out
        have hns95_2 := NB554_573.out
        have hms95_0 := NB573_517.out
        have hms95_1 := NB573_535.out
        have hms95_2 := NB573_554.out
        refine sk_ ?_
        refine hK.out _ _ ⟨((cell_far (p := ⟨gb573, _, none⟩) NB554_573.out _).trans (((cell_far (p := ⟨gb573, _, none⟩) NB554_573.out _).trans (((cell_far (p := ⟨gb573, _, none⟩) NB554_573.out _).trans (((cell_far (p := ⟨gb573, _, none⟩) NB554_573.out _).trans (((cell_far (p := ⟨gb573, _, none⟩) NB554_573.out _).trans (((cell_far (p := ⟨gb573, _, none⟩) NB554_573.out _).trans (((cell_far (p := ⟨gb573, _, none⟩) NB554_573.out _).trans (((cell_far (p := ⟨gb573, _, none⟩) NB554_573.out _).trans (hHeld.1)))))))))))))))), ((cell_far (p := ⟨gb573, _, none⟩) NB554_573.out _).trans (((cell_far (p := ⟨gb573, _, none⟩) NB554_573.out _).trans (((cell_far (p := ⟨gb573, _, none⟩) NB554_573.out _).trans (((cell_far (p := ⟨gb573, _, none⟩) NB554_573.out _).trans (((cell_far (p := ⟨gb573, _, none⟩) NB554_573.out _).trans (((cell_far (p := ⟨gb573, _, none⟩) NB554_573.out _).trans (((cell_far (p := ⟨gb573, _, none⟩) NB554_573.out _).trans (((cell_far (p := ⟨gb573, _, none⟩) NB554_573.out _).trans (hHeld.2.1)))))))))))))))), ((cell_far (p := ⟨gb573, _, none⟩) NB554_573.out _).trans (((cell_far (p := ⟨gb573, _, none⟩) NB554_573.out _).trans (((cell_far (p := ⟨gb573, _, none⟩) NB554_573.out _).trans (((cell_far (p := ⟨gb573, _, none⟩) NB554_573.out _).trans (((cell_far (p := ⟨gb573, _, none⟩) NB554_573.out _).trans (((cell_far (p := ⟨gb573, _, none⟩) NB554_573.out _).trans (((cell_far (p := ⟨gb573, _, none⟩) NB554_573.out _).trans (((cell_far (p := ⟨gb573, _, none⟩) NB554_573.out _).trans (hHeld.2.2.1)))))))))))))))), ((cell_far (p := ⟨gb573, _, none⟩) NB554_573.out _).trans (((cell_far (p := ⟨gb573, _, none⟩) NB554_573.out _).trans (((cell_far (p := ⟨gb573, _, none⟩) NB554_573.out _).trans (((cell_far (p := ⟨gb573, _, none⟩) NB554_573.out _).trans (((cell_far (p := ⟨gb573, _, none⟩) NB554_573.out _).trans (((cell_far (p := ⟨gb573, _, none⟩) NB554_573.out _).trans (((cell_far (p := ⟨gb573, _, none⟩) NB554_573.out _).trans (((cell_far (p := ⟨gb573, _, none⟩) NB554_573.out _).trans (hHeld.2.2.2.1)))))))))))))))), ((cell_far (p := ⟨gb573, _, none⟩) NB554_573.out _).trans (((cell_far (p := ⟨gb573, _, none⟩) NB554_573.out _).trans (((cell_far (p := ⟨gb573, _, none⟩) NB554_573.out _).trans (((cell_far (p := ⟨gb573, _, none⟩) NB554_573.out _).trans (((cell_far (p := ⟨gb573, _, none⟩) NB554_573.out _).trans (((cell_far (p := ⟨gb573, _, none⟩) NB554_573.out _).trans (((cell_far (p := ⟨gb573, _, none⟩) NB554_573.out _).trans (((cell_far (p := ⟨gb573, _, none⟩) NB554_573.out _).trans (hHeld.2.2.2.2.1)))))))))))))))), ((cell_far (p := ⟨gb573, _, none⟩) NB554_573.out _).trans (((cell_far (p := ⟨gb573, _, none⟩) NB554_573.out _).trans (((cell_far (p := ⟨gb573, _, none⟩) NB554_573.out _).trans (((cell_far (p := ⟨gb573, _, none⟩) NB554_573.out _).trans (((cell_far (p := ⟨gb573, _, none⟩) NB554_573.out _).trans (((cell_far (p := ⟨gb573, _, none⟩) NB554_573.out _).trans (((cell_far (p := ⟨gb573, _, none⟩) NB554_573.out _).trans (((cell_far (p := ⟨gb573, _, none⟩) NB554_573.out _).trans (hHeld.2.2.2.2.2.1)))))))))))))))), ((cell_far (p := ⟨gb573, _, none⟩) NB554_573.out _).trans (((cell_far (p := ⟨gb573, _, none⟩) NB554_573.out _).trans (((cell_far (p := ⟨gb573, _, none⟩) NB554_573.out _).trans (((cell_far (p := ⟨gb573, _, none⟩) NB554_573.out _).trans (((cell_far (p := ⟨gb573, _, none⟩) NB554_573.out _).trans (((cell_far (p := ⟨gb573, _, none⟩) NB554_573.out _).trans (((cell_far (p := ⟨gb573, _, none⟩) NB554_573.out _).trans (((cell_far (p := ⟨gb573, _, none⟩) NB554_573.out _).trans (hHeld.2.2.2.2.2.2.1)))))))))))))))), ((cell_far (p := ⟨gb573, _, none⟩) NB554_573.out _).trans (((cell_far (p := ⟨gb573, _, none⟩) NB554_573.out _).trans (((cell_far (p := ⟨gb573, _, none⟩) NB554_573.out _).trans (((cell_far (p := ⟨gb573, _, none⟩) NB554_573.out _).trans (((cell_far (p := ⟨gb573, _, none⟩) NB554_573.out _).trans (((cell_far (p := ⟨gb573, _, none⟩) NB554_573.out _).trans (((cell_far (p := ⟨gb573, _, none⟩) NB554_573.out _).trans (((cell_far (p := ⟨gb573, _, none⟩) NB554_573.out _).trans (hHeld.2.2.2.2.2.2.2))))))))))))))))⟩ (fun hHeld => ?_)
        clear hK K
        refine pa_ 11 (some 15) (bl_ 13 4095) HT_ ?_
        refine pa_ 12 (some 16) (bl_ 13 8191) HT_ ?_
        refine done_ (done_of HT_.out (by kernel_rfl)) ?_
        clear hcut83
        obtain ⟨Ao96, co96, eo96⟩ := Kd.R_slice HO533.out
        subst eo96
        try go_wp2_with (first | ((with_reducible refine gate_callee (f := 19) rfl ?_); (try refine ug_ (by rfl) ?_); refine goesA_ (some 83) Try.func19 #[.slice A1 l1.length c1, .slice Ao96 t531.length co96] ?_; (with_reducible refine (lease_Spent.calls kj4 _ _ l1 _ _ t531 t574 t575 _ ?side1 ?side2 ?side3 ?side4 A41.out).mono ?_); (case side1 => exact Kd.C_below HR1.out bh_); (case side2 => exact HC1.out); (case side3 => refine (Kd.R_reads' (e := 2) (base := w.heap.size) (ok := fun k_ => (some k_ ≠ (.slice Ao65 t528.length co65 : Value).ownBlock ∧ (some k_ ≠ (.slice Ao79 t547.length co79 : Value).ownBlock ∧ (some k_ ≠ (v551 : Value).ownBlock ∧ (some k_ ≠ (.slice Ao94 t566.length co94 : Value).ownBlock ∧ some k_ ≠ (v570 : Value).ownBlock))))) (n := t531.length) (c := co96) ?_).2.2; exact (by (with_reducible repeat (first | apply Kd.R_alloc | apply Kd.R_drewN | apply Kd.R_drew)); exact (Kd.R_mono (Kd.R_far (p := ⟨gb573, 7, none⟩) (Kd.R_far (p := ⟨gb573, 6, none⟩) (Kd.R_far (p := ⟨gb573, 5, none⟩) (Kd.R_far (p := ⟨gb573, 4, none⟩) (Kd.R_far (p := ⟨gb573, 3, none⟩) (Kd.R_far (p := ⟨gb573, 2, none⟩) (Kd.R_far (p := ⟨gb573, 1, none⟩) (Kd.R_far (p := ⟨gb573, 0, none⟩) (Kd.R_types HO533.out BK573.out (by decide)) (fun _ hk => hk.2) (.int .i64 t559)) (fun _ hk => hk.2) (.int .i64 t560)) (fun _ hk => hk.2) (.int .i64 t561)) (fun _ hk => hk.2) (.int .i64 t562)) (fun _ hk => hk.2) (.int .i64 t563)) (fun _ hk => hk.2) (.int .u64 t564)) (fun _ hk => hk.2) (.int .i64 t565)) (fun _ hk => hk.2) (.slice Ao94 t566.length co94)) (fun _ h_ => h_.1)))); (case side4 => exact (Kd.R_reads' HO533.out).2.1); rintro e w97 ⟨rfl, hb⟩; refine ⟨_, rfl, ?_⟩; replace HO530 := Aside0.mk (Kd.R_below (by (with_reducible repeat (first | apply Kd.R_alloc | apply Kd.R_drewN | apply Kd.R_drew)); exact (Kd.R_mono (Kd.R_far (p := ⟨gb573, 7, none⟩) (Kd.R_far (p := ⟨gb573, 6, none⟩) (Kd.R_far (p := ⟨gb573, 5, none⟩) (Kd.R_far (p := ⟨gb573, 4, none⟩) (Kd.R_far (p := ⟨gb573, 3, none⟩) (Kd.R_far (p := ⟨gb573, 2, none⟩) (Kd.R_far (p := ⟨gb573, 1, none⟩) (Kd.R_far (p := ⟨gb573, 0, none⟩) (Kd.R_types HO530.out BK573.out (by decide)) (fun _ hk => hk.2) (.int .i64 t559)) (fun _ hk => hk.2) (.int .i64 t560)) (fun _ hk => hk.2) (.int .i64 t561)) (fun _ hk => hk.2) (.int .i64 t562)) (fun _ hk => hk.2) (.int .i64 t563)) (fun _ hk => hk.2) (.int .u64 t564)) (fun _ hk => hk.2) (.int .i64 t565)) (fun _ hk => hk.2) (.slice Ao94 t566.length co94)) (fun _ h_ => h_.1))) hb); replace HO533 := Aside0.mk (Kd.R_below (by (with_reducible repeat (first | apply Kd.R_alloc | apply Kd.R_drewN | apply Kd.R_drew)); exact (Kd.R_mono (Kd.R_far (p := ⟨gb573, 7, none⟩) (Kd.R_far (p := ⟨gb573, 6, none⟩) (Kd.R_far (p := ⟨gb573, 5, none⟩) (Kd.R_far (p := ⟨gb573, 4, none⟩) (Kd.R_far (p := ⟨gb573, 3, none⟩) (Kd.R_far (p := ⟨gb573, 2, none⟩) (Kd.R_far (p := ⟨gb573, 1, none⟩) (Kd.R_far (p := ⟨gb573, 0, none⟩) (Kd.R_types HO533.out BK573.out (by decide)) (fun _ hk => hk.2) (.int .i64 t559)) (fun _ hk => hk.2) (.int .i64 t560)) (fun _ hk => hk.2) (.int .i64 t561)) (fun _ hk => hk.2) (.int .i64 t562)) (fun _ hk => hk.2) (.int .i64 t563)) (fun _ hk => hk.2) (.int .u64 t564)) (fun _ hk => hk.2) (.int .i64 t565)) (fun _ hk => hk.2) (.slice Ao94 t566.length co94)) (fun _ h_ => h_.1))) hb); replace HO549 := Aside0.mk (Kd.R_below (by (with_reducible repeat (first | apply Kd.R_alloc | apply Kd.R_drewN | apply Kd.R_drew)); exact (Kd.R_mono (Kd.R_far (p := ⟨gb573, 7, none⟩) (Kd.R_far (p := ⟨gb573, 6, none⟩) (Kd.R_far (p := ⟨gb573, 5, none⟩) (Kd.R_far (p := ⟨gb573, 4, none⟩) (Kd.R_far (p := ⟨gb573, 3, none⟩) (Kd.R_far (p := ⟨gb573, 2, none⟩) (Kd.R_far (p := ⟨gb573, 1, none⟩) (Kd.R_far (p := ⟨gb573, 0, none⟩) (Kd.R_types HO549.out BK573.out (by decide)) (fun _ hk => hk.2) (.int .i64 t559)) (fun _ hk => hk.2) (.int .i64 t560)) (fun _ hk => hk.2) (.int .i64 t561)) (fun _ hk => hk.2) (.int .i64 t562)) (fun _ hk => hk.2) (.int .i64 t563)) (fun _ hk => hk.2) (.int .u64 t564)) (fun _ hk => hk.2) (.int .i64 t565)) (fun _ hk => hk.2) (.slice Ao94 t566.length co94)) (fun _ h_ => h_.1))) hb); replace HO552 := Aside0.mk (Kd.R_below (by (with_reducible repeat (first | apply Kd.R_alloc | apply Kd.R_drewN | apply Kd.R_drew)); exact (Kd.R_mono (Kd.R_far (p := ⟨gb573, 7, none⟩) (Kd.R_far (p := ⟨gb573, 6, none⟩) (Kd.R_far (p := ⟨gb573, 5, none⟩) (Kd.R_far (p := ⟨gb573, 4, none⟩) (Kd.R_far (p := ⟨gb573, 3, none⟩) (Kd.R_far (p := ⟨gb573, 2, none⟩) (Kd.R_far (p := ⟨gb573, 1, none⟩) (Kd.R_far (p := ⟨gb573, 0, none⟩) (Kd.R_types HO552.out BK573.out (by decide)) (fun _ hk => hk.2) (.int .i64 t559)) (fun _ hk => hk.2) (.int .i64 t560)) (fun _ hk => hk.2) (.int .i64 t561)) (fun _ hk => hk.2) (.int .i64 t562)) (fun _ hk => hk.2) (.int .i64 t563)) (fun _ hk => hk.2) (.int .u64 t564)) (fun _ hk => hk.2) (.int .i64 t565)) (fun _ hk => hk.2) (.slice Ao94 t566.length co94)) (fun _ h_ => h_.1))) hb); replace HO568 := Aside0.mk (Kd.R_below (by (with_reducible repeat (first | apply Kd.R_alloc | apply Kd.R_drewN | apply Kd.R_drew)); exact (Kd.R_mono (Kd.R_far (p := ⟨gb573, 7, none⟩) (Kd.R_far (p := ⟨gb573, 6, none⟩) (Kd.R_far (p := ⟨gb573, 5, none⟩) (Kd.R_far (p := ⟨gb573, 4, none⟩) (Kd.R_far (p := ⟨gb573, 3, none⟩) (Kd.R_far (p := ⟨gb573, 2, none⟩) (Kd.R_far (p := ⟨gb573, 1, none⟩) (Kd.R_far (p := ⟨gb573, 0, none⟩) (Kd.R_types HO568.out BK573.out (by decide)) (fun _ hk => hk.2) (.int .i64 t559)) (fun _ hk => hk.2) (.int .i64 t560)) (fun _ hk => hk.2) (.int .i64 t561)) (fun _ hk => hk.2) (.int .i64 t562)) (fun _ hk => hk.2) (.int .i64 t563)) (fun _ hk => hk.2) (.int .u64 t564)) (fun _ hk => hk.2) (.int .i64 t565)) (fun _ hk => hk.2) (.slice Ao94 t566.length co94)) (fun _ h_ => h_.1))) hb); replace HO571 := Aside0.mk (Kd.R_below (by (with_reducible repeat (first | apply Kd.R_alloc | apply Kd.R_drewN | apply Kd.R_drew)); exact (Kd.R_mono (Kd.R_far (p := ⟨gb573, 7, none⟩) (Kd.R_far (p := ⟨gb573, 6, none⟩) (Kd.R_far (p := ⟨gb573, 5, none⟩) (Kd.R_far (p := ⟨gb573, 4, none⟩) (Kd.R_far (p := ⟨gb573, 3, none⟩) (Kd.R_far (p := ⟨gb573, 2, none⟩) (Kd.R_far (p := ⟨gb573, 1, none⟩) (Kd.R_far (p := ⟨gb573, 0, none⟩) (Kd.R_types HO571.out BK573.out (by decide)) (fun _ hk => hk.2) (.int .i64 t559)) (fun _ hk => hk.2) (.int .i64 t560)) (fun _ hk => hk.2) (.int .i64 t561)) (fun _ hk => hk.2) (.int .i64 t562)) (fun _ hk => hk.2) (.int .i64 t563)) (fun _ hk => hk.2) (.int .u64 t564)) (fun _ hk => hk.2) (.int .i64 t565)) (fun _ hk => hk.2) (.slice Ao94 t566.length co94)) (fun _ h_ => h_.1))) hb); replace BK517 := bf_ BK517 hb; replace BK535 := bf_ BK535 hb; replace BK554 := bf_ BK554 hb; replace BK573 := Aside0.mk (blk_below (g := gb573) (o := .cells #[.int .i64 t559, .int .i64 t560, .int .i64 t561, .int .i64 t562, .int .i64 t563, .int .u64 t564, .int .i64 t565, .slice Ao94 t566.length co94] 29 (0, 0)) (blk_put (cs := #[.int .i64 t559, .int .i64 t560, .int .i64 t561, .int .i64 t562, .int .i64 t563, .int .u64 t564, .int .i64 t565, .slice none 0 0]) (blk_put (cs := #[.int .i64 t559, .int .i64 t560, .int .i64 t561, .int .i64 t562, .int .i64 t563, .int .u64 t564, .int .i64 0, .slice none 0 0]) (blk_put (cs := #[.int .i64 t559, .int .i64 t560, .int .i64 t561, .int .i64 t562, .int .i64 t563, .int .u64 0, .int .i64 0, .slice none 0 0]) (blk_put (cs := #[.int .i64 t559, .int .i64 t560, .int .i64 t561, .int .i64 t562, .int .i64 0, .int .u64 0, .int .i64 0, .slice none 0 0]) (blk_put (cs := #[.int .i64 t559, .int .i64 t560, .int .i64 t561, .int .i64 0, .int .i64 0, .int .u64 0, .int .i64 0, .slice none 0 0]) (blk_put (cs := #[.int .i64 t559, .int .i64 t560, .int .i64 0, .int .i64 0, .int .i64 0, .int .u64 0, .int .i64 0, .slice none 0 0]) (blk_put (cs := #[.int .i64 t559, .int .i64 0, .int .i64 0, .int .i64 0, .int .i64 0, .int .u64 0, .int .i64 0, .slice none 0 0]) (blk_put (cs := #[.int .i64 0, .int .i64 0, .int .i64 0, .int .i64 0, .int .i64 0, .int .u64 0, .int .i64 0, .slice none 0 0]) (bq_ BK573) 0 _ rfl) 1 _ rfl) 2 _ rfl) 3 _ rfl) 4 _ rfl) 5 _ rfl) 6 _ rfl) 7 _ rfl) hb); replace HB := bs_ w hb; clear hb; have q98 : (a2 : Int) ≤ ((l1.length : Int) : Int) := of_decide_eq_true (by first | (with_reducible assumption) | assumption); obtain ⟨i098, hi098, _, hsz98, _⟩ := info_parts info31; have hroom98 : l1.length ≤ c1 := HC1.out; have hC98 : Kd.C k31 _ A1 l1.length l1 := HR1.out; have hcut98 := cut_to (P := Try.prog) 44 31 .i64 Try.underlying44 hi098 A1 l1.length c1 a2 (of_decide_eq_true (by first | (with_reducible assumption) | assumption)) q98 hroom98; have hr98 := Kd.C_take (m := (a2 : Int).toNat) hC98 (by omega); have hy98 : y576.length = (a2 : Int).toNat := (by rw [Ny576.out, List.length_take]; omega); rw [← Ny576.out] at hr98; rw [← hy98] at hcut98; have HR579 := Aside0.mk hr98; have HC579 := Aside0.mk (show y576.length ≤ c1 from by omega); clear hr98 hC98 hroom98 hi098 hsz98; have KY98 := Aside0.mk hy98; clear hy98; replace q98 := eq_true q98; obtain ⟨Ao99, co99, eo99⟩ := Kd.R_slice HO552.out; subst eo99) | ((with_reducible refine gate_callee (f := 19) rfl ?_); (try refine ug_ (by rfl) ?_); refine goesA_ (some 91) Try.func19 #[.slice A1 y576.length c1, .slice Ao99 t550.length co99] ?_; (with_reducible refine (lease_Spent.calls kj4 _ _ y576 _ _ t550 t580 t581 _ ?side1 ?side2 ?side3 ?side4 A44.out).mono ?_); (case side1 => exact cs_ HR579 HB); (case side2 => exact HC579.out); (case side3 => exact cr_ HO552); (case side4 => exact (Kd.R_reads' HO552.out).2.1); rintro e w100 ⟨rfl, hb⟩; refine ⟨_, rfl, ?_⟩; replace HO530 := rb_ HO530 hb; replace HO533 := rb_ HO533 hb; replace HO549 := rb_ HO549 hb; replace HO552 := rb_ HO552 hb; replace HO568 := rb_ HO568 hb; replace HO571 := rb_ HO571 hb; replace BK517 := bb_ BK517 hb; replace BK535 := bb_ BK535 hb; replace BK554 := bb_ BK554 hb; replace BK573 := bb_ BK573 hb; replace HB := bs_ w hb; clear hb; have q101 : (a2 : Int) ≤ ((l1.length : Int) : Int) := of_decide_eq_true (by first | (with_reducible assumption) | assumption); obtain ⟨i0101, hi0101, _, hsz101, _⟩ := info_parts info31; have hroom101 : l1.length ≤ c1 := HC1.out; have hC101 : Kd.C k31 _ A1 l1.length l1 := HR1.out; have q0101 : (0 : Int) ≤ (a2 : Int) := of_decide_eq_true (by first | (with_reducible assumption) | assumption); have hcut101 := cut_from (P := Try.prog) 44 31 .i64 Try.underlying44 hi0101 4 hsz101 A1 l1.length c1 a2 q0101 q101; have hr101 := Kd.C_drop (m := (a2 : Int).toNat) (c := c1) hC101 (by omega) hroom101; obtain ⟨A101, hA101⟩ : ∃ Az_, Az_ = (if c1 = (a2 : Int).toNat then A1 else (A1 : Option Addr).map (·.add ((a2 : Int).toNat * 4))) := ⟨_, rfl⟩; obtain ⟨c101, hc101⟩ : ∃ cz_, cz_ = c1 - (a2 : Int).toNat := ⟨_, rfl⟩; have hy101 : y582.length = l1.length - (a2 : Int).toNat := (by rw [Ny582.out, List.length_drop] <;> omega); rw [show (l1).drop (a2 : Int).toNat = y582 from Ny582.out.symm] at hr101; replace hr101 : Kd.C k31 _ A101 y582.length y582 := (by rw [hA101]; exact hr101); rw [← hy101, ← hA101, ← hc101] at hcut101; have HR585 := Aside0.mk hr101; have HC585 := Aside0.mk (show y582.length ≤ c101 from by rw [hy101, hc101]; exact Nat.sub_le_sub_right hroom101 _); clear hr101 hC101 hroom101 hi0101 hsz101 hc101; have KY101 := Aside0.mk hy101; have KA101 := Aside0.mk hA101; clear hy101 hA101; replace q101 := eq_true q101; obtain ⟨Ao102, co102, eo102⟩ := Kd.R_slice HO571.out; subst eo102) | ((with_reducible refine gate_callee (f := 19) rfl ?_); (try refine ug_ (by rfl) ?_); refine goesA_ (some 99) Try.func19 #[.slice A101 y582.length c101, .slice Ao102 t569.length co102] ?_; (with_reducible refine (lease_Spent.calls kj4 _ _ y582 _ _ t569 t586 t587 _ ?side1 ?side2 ?side3 ?side4 A47.out).mono ?_); (case side1 => exact cs_ HR585 HB); (case side2 => exact HC585.out); (case side3 => exact cr_ HO571); (case side4 => exact (Kd.R_reads' HO571.out).2.1); rintro e w103 ⟨rfl, hb⟩; refine ⟨_, rfl, ?_⟩; replace HO530 := rb_ HO530 hb; replace HO533 := rb_ HO533 hb; replace HO549 := rb_ HO549 hb; replace HO552 := rb_ HO552 hb; replace HO568 := rb_ HO568 hb; replace HO571 := rb_ HO571 hb; replace BK517 := bb_ BK517 hb; replace BK535 := bb_ BK535 hb; replace BK554 := bb_ BK554 hb; replace BK573 := bb_ BK573 hb; replace HB := bs_ w hb; clear hb; replace hn535_554 := NB535_554.out; replace hn554_535 := NB554_535.out; replace hn535_573 := NB535_573.out; replace hn573_535 := NB573_535.out; replace hc535 := ce8_ BK535; replace hn573_517 := NB573_517.out; replace hn517_573 := NB517_573.out; replace hn573_554 := NB573_554.out; replace hn554_573 := NB554_573.out; replace hc573 := ce8_ BK573) | (go_at_call 17; (with_reducible refine (spigotref42_Same.calls kj4 t521 t522 t523 t524 t525 t526 t527 _ _ t528 t559 t560 t561 t562 t563 t564 t565 _ _ t566 true _ ?side1 ?side2 ?side3 ?side4 A51.out).mono ?_); (case side1 => exact cr_ HO530); (case side2 => exact (Kd.R_reads' HO530.out).2.1); (case side3 => exact cr_ HO568); (case side4 => exact (Kd.R_reads' HO568.out).2.1); rintro e w110 ⟨rfl, hb⟩; replace HO530 := rb_ HO530 hb; replace HO533 := rb_ HO533 hb; replace HO549 := rb_ HO549 hb; replace HO552 := rb_ HO552 hb; replace HO568 := rb_ HO568 hb; replace HO571 := rb_ HO571 hb; replace BK517 := bb_ BK517 hb; replace BK535 := bb_ BK535 hb; replace BK554 := bb_ BK554 hb; replace BK573 := bb_ BK573 hb; replace HB := bs_ w hb; clear hb) | ((with_reducible refine gate_dst (N := 117) rfl ?_); (try refine ug_ (by rfl) ?_); refine Kd.R_lit (Kd.int .i64) _ 2 ?hg (N := 117) ?hd (xs := ([] : List Int)) (inner := []) (ok := fun _ => True) (okp := fun _ => True) ?hr ?hp (fun _ hk => hk) trivial (Below.refl _ _) (Nat.le_refl _) (by simp) ?_; (case hd => rfl); (case hg => rfl); (case hr => first | (go_simp; done) | (go_simp; rfl)); (case hp => exact (Reps.none _ _)); intro v590 w111 ho112 hb hg_ hnew_; clear hg_ hnew_; (first | rw [← Ny589.out] at ho112 | (simp only [Int.reduceToNat] at ho112; rw [← Ny589.out] at ho112)); have HO591 := Aside0.mk (Kd.R_lower (Kd.R_new' (Kd.R_new' (Kd.R_new' (Kd.R_new' (Kd.R_new' (Kd.R_new' ho112 (Kd.R_lt (rs_ HO530))) (Kd.R_lt (rs_ HO533))) (Kd.R_lt (rs_ HO549))) (Kd.R_lt (rs_ HO552))) (Kd.R_lt (rs_ HO568))) (Kd.R_lt (rs_ HO571))) (below_size bh_)); replace HO530 := Aside0.mk (Kd.R_elder' (rs_ HO530) (Kd.R_base ho112) hb); replace HO533 := Aside0.mk (Kd.R_elder' (rs_ HO533) (Kd.R_base ho112) hb); replace HO549 := Aside0.mk (Kd.R_elder' (rs_ HO549) (Kd.R_base ho112) hb); replace HO552 := Aside0.mk (Kd.R_elder' (rs_ HO552) (Kd.R_base ho112) hb); replace HO568 := Aside0.mk (Kd.R_elder' (rs_ HO568) (Kd.R_base ho112) hb); replace HO571 := Aside0.mk (Kd.R_elder' (rs_ HO571) (Kd.R_base ho112) hb); replace BK517 := bb_ BK517 hb; replace BK535 := bb_ BK535 hb; replace BK554 := bb_ BK554 hb; replace BK573 := bb_ BK573 hb; replace HB := bs_ w hb; clear hb ho112) | ((with_reducible refine gate_builtin (b := .append) (xs := #[.tmp 117, .tmp 118]) rfl ?_); (try refine ug_ (by rfl) ?_); at_builtin; refine Kd.R_append_rows (Kd.int .i64) (w0 := w) w.heap.size rfl (.tmp 117) (.tmp 118) 27 2 (.int .i64 0) 8 rfl Try.underlying27 info2 rfl (by decide) (by omega) v590 y589 t550 _ _ _ (fun k_ => some k_ ≠ (.slice Ao65 t528.length co65 : Value).ownBlock ∧ some k_ ≠ (.slice Ao96 t531.length co96 : Value).ownBlock ∧ some k_ ≠ (.slice Ao79 t547.length co79 : Value).ownBlock ∧ some k_ ≠ (.slice Ao99 t550.length co99 : Value).ownBlock ∧ some k_ ≠ (.slice Ao94 t566.length co94 : Value).ownBlock ∧ some k_ ≠ (.slice Ao102 t569.length co102 : Value).ownBlock) (fun _ => False) rfl rfl ?aO ?aR (fun _ _ h => h) (fun _ h => h.elim) ?aF ?aB ?aS ?aL ?_; (case aR => exact cr_ HO552); (case aB => exact bh_); (case aF => exact (fun k_ hk => ⟨Kd.fresh' (Kd.R_lt (rs_ HO530)) k_ hk, Kd.fresh' (Kd.R_lt (rs_ HO533)) k_ hk, Kd.fresh' (Kd.R_lt (rs_ HO549)) k_ hk, Kd.fresh' (Kd.R_lt (rs_ HO552)) k_ hk, Kd.fresh' (Kd.R_lt (rs_ HO568)) k_ hk, Kd.fresh' (Kd.R_lt (rs_ HO571)) k_ hk⟩)); (case aO => exact (by (with_reducible repeat (first | apply Kd.R_alloc | apply Kd.R_drewN | apply Kd.R_drew)); exact Kd.R_mono HO591.out (fun _ hk => ⟨hk.1.1.1.1.1.2, ⟨hk.1.1.1.1.2, ⟨hk.1.1.1.2, ⟨hk.1.1.2, ⟨hk.1.2, hk.2⟩⟩⟩⟩⟩))); (case aS => exact (below_size bh_)); (case aL => have := LMc53.out; omega); intro v593 w113 ho hb hg hat; rw [← Ny592.out] at ho; have HO594 := Aside0.mk (ho); replace BK517 := Aside0.mk (blk_grown (g := gb517) (o := .cells #[.int .i64 a0_0, .int .i64 a0_1, .int .i64 a0_2, .int .i64 a0_3, .int .i64 a0_4, .int .u64 a0_5, .int .i64 a0_6, .slice A0_7 l0_7.length c0_7] 29 (0, 0)) (bq_ BK517) hg (Kd.R_ne HO591.out BK517.out (by decide))); replace HO530 := Aside0.mk (Kd.R_after (ok := (fun k_ => some k_ ≠ (.slice Ao96 t531.length co96 : Value).ownBlock ∧ some k_ ≠ (.slice Ao79 t547.length co79 : Value).ownBlock ∧ some k_ ≠ (.slice Ao99 t550.length co99 : Value).ownBlock ∧ some k_ ≠ (.slice Ao94 t566.length co94 : Value).ownBlock ∧ some k_ ≠ (.slice Ao102 t569.length co102 : Value).ownBlock)) (rs_ HO530) hg hat); replace HO533 := Aside0.mk (Kd.R_after (ok := (fun k_ => some k_ ≠ (.slice Ao65 t528.length co65 : Value).ownBlock ∧ some k_ ≠ (.slice Ao79 t547.length co79 : Value).ownBlock ∧ some k_ ≠ (.slice Ao99 t550.length co99 : Value).ownBlock ∧ some k_ ≠ (.slice Ao94 t566.length co94 : Value).ownBlock ∧ some k_ ≠ (.slice Ao102 t569.length co102 : Value).ownBlock)) (rs_ HO533) hg hat); replace BK535 := Aside0.mk (blk_grown (g := gb535) (o := .cells #[.int .i64 t521, .int .i64 t522, .int .i64 t523, .int .i64 t524, .int .i64 t525, .int .u64 t526, .int .i64 t527, .slice Ao65 t528.length co65] 29 (0, 0)) (bq_ BK535) hg (Kd.R_ne HO591.out BK535.out (by decide))); replace HO549 := Aside0.mk (Kd.R_after (ok := (fun k_ => some k_ ≠ (.slice Ao65 t528.length co65 : Value).ownBlock ∧ some k_ ≠ (.slice Ao96 t531.length co96 : Value).ownBlock ∧ some k_ ≠ (.slice Ao99 t550.length co99 : Value).ownBlock ∧ some k_ ≠ (.slice Ao94 t566.length co94 : Value).ownBlock ∧ some k_ ≠ (.slice Ao102 t569.length co102 : Value).ownBlock)) (rs_ HO549) hg hat); replace HO552 := Aside0.mk (Kd.R_after (ok := (fun k_ => some k_ ≠ (.slice Ao65 t528.length co65 : Value).ownBlock ∧ some k_ ≠ (.slice Ao96 t531.length co96 : Value).ownBlock ∧ some k_ ≠ (.slice Ao79 t547.length co79 : Value).ownBlock ∧ some k_ ≠ (.slice Ao94 t566.length co94 : Value).ownBlock ∧ some k_ ≠ (.slice Ao102 t569.length co102 : Value).ownBlock)) (rs_ HO552) hg hat); replace BK554 := Aside0.mk (blk_grown (g := gb554) (o := .cells #[.int .i64 t540, .int .i64 t541, .int .i64 t542, .int .i64 t543, .int .i64 t544, .int .u64 t545, .int .i64 t546, .slice Ao79 t547.length co79] 29 (0, 0)) (bq_ BK554) hg (Kd.R_ne HO591.out BK554.out (by decide))); replace HO568 := Aside0.mk (Kd.R_after (ok := (fun k_ => some k_ ≠ (.slice Ao65 t528.length co65 : Value).ownBlock ∧ some k_ ≠ (.slice Ao96 t531.length co96 : Value).ownBlock ∧ some k_ ≠ (.slice Ao79 t547.length co79 : Value).ownBlock ∧ some k_ ≠ (.slice Ao99 t550.length co99 : Value).ownBlock ∧ some k_ ≠ (.slice Ao102 t569.length co102 : Value).ownBlock)) (rs_ HO568) hg hat); replace HO571 := Aside0.mk (Kd.R_after (ok := (fun k_ => some k_ ≠ (.slice Ao65 t528.length co65 : Value).ownBlock ∧ some k_ ≠ (.slice Ao96 t531.length co96 : Value).ownBlock ∧ some k_ ≠ (.slice Ao79 t547.length co79 : Value).ownBlock ∧ some k_ ≠ (.slice Ao99 t550.length co99 : Value).ownBlock ∧ some k_ ≠ (.slice Ao94 t566.length co94 : Value).ownBlock)) (rs_ HO571) hg hat); replace BK573 := Aside0.mk (blk_grown (g := gb573) (o := .cells #[.int .i64 t559, .int .i64 t560, .int .i64 t561, .int .i64 t562, .int .i64 t563, .int .u64 t564, .int .i64 t565, .slice Ao94 t566.length co94] 29 (0, 0)) (bq_ BK573) hg (Kd.R_ne HO591.out BK573.out (by decide))); replace HB := Aside0.mk (hb); clear HO591; clear ho hb hg hat) | ((with_reducible refine gate_builtin (b := .append) (xs := #[.tmp 119, .tmp 120]) rfl ?_); (try refine ug_ (by rfl) ?_); at_builtin; refine Kd.R_append_rows (Kd.int .i64) (w0 := w) w.heap.size rfl (.tmp 119) (.tmp 120) 27 2 (.int .i64 0) 8 rfl Try.underlying27 info2 rfl (by decide) (by omega) v593 y592 t569 _ _ _ (fun k_ => some k_ ≠ (.slice Ao65 t528.length co65 : Value).ownBlock ∧ some k_ ≠ (.slice Ao96 t531.length co96 : Value).ownBlock ∧ some k_ ≠ (.slice Ao79 t547.length co79 : Value).ownBlock ∧ some k_ ≠ (.slice Ao99 t550.length co99 : Value).ownBlock ∧ some k_ ≠ (.slice Ao94 t566.length co94 : Value).ownBlock ∧ some k_ ≠ (.slice Ao102 t569.length co102 : Value).ownBlock) (fun _ => False) rfl rfl ?aO ?aR (fun _ _ h => h) (fun _ h => h.elim) ?aF ?aB ?aS ?aL ?_; (case aR => exact cr_ HO571); (case aB => exact bh_); (case aF => exact (fun k_ hk => ⟨Kd.fresh' (Kd.R_lt (rs_ HO530)) k_ hk, Kd.fresh' (Kd.R_lt (rs_ HO533)) k_ hk, Kd.fresh' (Kd.R_lt (rs_ HO549)) k_ hk, Kd.fresh' (Kd.R_lt (rs_ HO552)) k_ hk, Kd.fresh' (Kd.R_lt (rs_ HO568)) k_ hk, Kd.fresh' (Kd.R_lt (rs_ HO571)) k_ hk⟩)); (case aO => exact (rs_ HO594)); (case aS => exact (below_size bh_)); (case aL => have := LMc54.out; omega); intro v596 w114 ho hb hg hat; rw [← Ny595.out] at ho; have HO597 := Aside0.mk (ho); replace BK517 := Aside0.mk (blk_grown (g := gb517) (o := .cells #[.int .i64 a0_0, .int .i64 a0_1, .int .i64 a0_2, .int .i64 a0_3, .int .i64 a0_4, .int .u64 a0_5, .int .i64 a0_6, .slice A0_7 l0_7.length c0_7] 29 (0, 0)) (bq_ BK517) hg (Kd.R_ne HO594.out BK517.out (by decide))); replace HO530 := Aside0.mk (Kd.R_after (ok := (fun k_ => some k_ ≠ (.slice Ao96 t531.length co96 : Value).ownBlock ∧ some k_ ≠ (.slice Ao79 t547.length co79 : Value).ownBlock ∧ some k_ ≠ (.slice Ao99 t550.length co99 : Value).ownBlock ∧ some k_ ≠ (.slice Ao94 t566.length co94 : Value).ownBlock ∧ some k_ ≠ (.slice Ao102 t569.length co102 : Value).ownBlock)) (rs_ HO530) hg hat); replace HO533 := Aside0.mk (Kd.R_after (ok := (fun k_ => some k_ ≠ (.slice Ao65 t528.length co65 : Value).ownBlock ∧ some k_ ≠ (.slice Ao79 t547.length co79 : Value).ownBlock ∧ some k_ ≠ (.slice Ao99 t550.length co99 : Value).ownBlock ∧ some k_ ≠ (.slice Ao94 t566.length co94 : Value).ownBlock ∧ some k_ ≠ (.slice Ao102 t569.length co102 : Value).ownBlock)) (rs_ HO533) hg hat); replace BK535 := Aside0.mk (blk_grown (g := gb535) (o := .cells #[.int .i64 t521, .int .i64 t522, .int .i64 t523, .int .i64 t524, .int .i64 t525, .int .u64 t526, .int .i64 t527, .slice Ao65 t528.length co65] 29 (0, 0)) (bq_ BK535) hg (Kd.R_ne HO594.out BK535.out (by decide))); replace HO549 := Aside0.mk (Kd.R_after (ok := (fun k_ => some k_ ≠ (.slice Ao65 t528.length co65 : Value).ownBlock ∧ some k_ ≠ (.slice Ao96 t531.length co96 : Value).ownBlock ∧ some k_ ≠ (.slice Ao99 t550.length co99 : Value).ownBlock ∧ some k_ ≠ (.slice Ao94 t566.length co94 : Value).ownBlock ∧ some k_ ≠ (.slice Ao102 t569.length co102 : Value).ownBlock)) (rs_ HO549) hg hat); replace HO552 := Aside0.mk (Kd.R_after (ok := (fun k_ => some k_ ≠ (.slice Ao65 t528.length co65 : Value).ownBlock ∧ some k_ ≠ (.slice Ao96 t531.length co96 : Value).ownBlock ∧ some k_ ≠ (.slice Ao79 t547.length co79 : Value).ownBlock ∧ some k_ ≠ (.slice Ao94 t566.length co94 : Value).ownBlock ∧ some k_ ≠ (.slice Ao102 t569.length co102 : Value).ownBlock)) (rs_ HO552) hg hat); replace BK554 := Aside0.mk (blk_grown (g := gb554) (o := .cells #[.int .i64 t540, .int .i64 t541, .int .i64 t542, .int .i64 t543, .int .i64 t544, .int .u64 t545, .int .i64 t546, .slice Ao79 t547.length co79] 29 (0, 0)) (bq_ BK554) hg (Kd.R_ne HO594.out BK554.out (by decide))); replace HO568 := Aside0.mk (Kd.R_after (ok := (fun k_ => some k_ ≠ (.slice Ao65 t528.length co65 : Value).ownBlock ∧ some k_ ≠ (.slice Ao96 t531.length co96 : Value).ownBlock ∧ some k_ ≠ (.slice Ao79 t547.length co79 : Value).ownBlock ∧ some k_ ≠ (.slice Ao99 t550.length co99 : Value).ownBlock ∧ some k_ ≠ (.slice Ao102 t569.length co102 : Value).ownBlock)) (rs_ HO568) hg hat); replace HO571 := Aside0.mk (Kd.R_after (ok := (fun k_ => some k_ ≠ (.slice Ao65 t528.length co65 : Value).ownBlock ∧ some k_ ≠ (.slice Ao96 t531.length co96 : Value).ownBlock ∧ some k_ ≠ (.slice Ao79 t547.length co79 : Value).ownBlock ∧ some k_ ≠ (.slice Ao99 t550.length co99 : Value).ownBlock ∧ some k_ ≠ (.slice Ao94 t566.length co94 : Value).ownBlock)) (rs_ HO571) hg hat); replace BK573 := Aside0.mk (blk_grown (g := gb573) (o := .cells #[.int .i64 t559, .int .i64 t560, .int .i64 t561, .int .i64 t562, .int .i64 t563, .int .u64 t564, .int .i64 t565, .slice Ao94 t566.length co94] 29 (0, 0)) (bq_ BK573) hg (Kd.R_ne HO594.out BK573.out (by decide))); replace HB := Aside0.mk (hb); clear HO594; clear ho hb hg hat; obtain ⟨Ao115, co115, eo115⟩ := Kd.R_slice HO597.out; subst eo115) | (go_at_call 21; (with_reducible refine (spigotref42_SameLongs.calls kj4 _ _ y595 _ _ t531 true _ ?side1 ?side2 ?side3 ?side4 A55.out).mono ?_); (case side1 => exact cr_ HO597); (case side2 => exact (Kd.R_reads' HO597.out).2.1); (case side3 => exact cr_ HO533); (case side4 => exact (Kd.R_reads' HO533.out).2.1); rintro e w' ⟨rfl, ⟨nd, rfl⟩⟩))
        go_ret
        exact fi_
       ·replace c56 := Bool.eq_false_iff.mpr c56
        subst c56
        replace H : (none) = some r := by rw [if_neg (show ¬ (false = true) by decide)] at H; exact H
        exact absurd H (by simp)
      ·replace c52 := Bool.eq_false_iff.mpr c52
       subst c52
       replace H : (none) = some r := by rw [if_neg (show ¬ (false = true) by decide)] at H; exact H
       exact absurd H (by simp)
     ·replace c48 := Bool.eq_false_iff.mpr c48
      subst c48
      replace H : (none) = some r := by rw [if_neg (show ¬ (false = true) by decide)] at H; exact H
      exact absurd H (by simp)
    ·rw [if_neg c34] at H
     have c34b0 : (t534 == 0) = false := beq_eq_false_iff_ne.mpr c34
     have c34b1 : (t534 != 0) = true := bne_iff_ne.mpr c34
     by_cases c116 : t518 = true
     ·subst c116
      replace H : (some ((t531.length : Int) == 0)) = some r := by rw [if_pos rfl] at H; exact H
      obtain rfl := Option.some.inj H
      replace hc517 := ce8_ BK517
      go_wp2_with (first | ((with_reducible refine gate_callee (f := 16) rfl ?_); (try refine ug_ (by rfl) ?_); refine goesA_ (some 50) Try.func16 #[.agg #[.int .i64 a0_0, .int .i64 a0_1, .int .i64 a0_2, .int .i64 a0_3, .int .i64 a0_4, .int .u64 a0_5, .int .i64 a0_6, .slice A0_7 l0_7.length c0_7], .slice A1 l1.length c1] ?_; (with_reducible refine (lease_Run.calls kj4 a0_0 a0_1 a0_2 a0_3 a0_4 a0_5 a0_6 _ _ l0_7 _ _ l1 t521 t522 t523 t524 t525 t526 t527 t528 t531 t534 _ ?side1 ?side2 ?side3 ?side4 A33.out).mono ?_); (case side1 => exact cs_ HR0_7 HB); (case side2 => exact HC0_7.out); (case side3 => exact cs_ HR1 HB); (case side4 => exact HC1.out); rintro e w118 ⟨v529, v532, rfl, ho0, ho1, hb⟩; refine ⟨_, rfl, ?_⟩; have HO530 := Aside0.mk (Kd.R_lower ho0 (below_size bh_)); have HO533 := Aside0.mk (Kd.R_lower ho1 (below_size bh_)); replace BK517 := bb_ BK517 hb; replace HB := bs_ w hb; (try clear hb); (try clear hb2); (try clear hk); (try clear hi); (try clear ho0); (try clear ho1)) | ((with_reducible refine gate_dst (N := 8) rfl ?_); (try refine ug_ (by rfl) ?_); refine bx_ #[.int .i64 0, .int .i64 0, .int .i64 0, .int .i64 0, .int .i64 0, .int .u64 0, .int .i64 0, .slice none 0 0] 29 ?_; intro gb535 hg w119 BK535 hb; have GW535 := bz_ w hg; have GE535 := GW535; have NB517_535 := bn_ BK517 hg; have NB535_517 := bm_ BK517 hg; replace HO530 := rb_ HO530 hb; replace HO533 := rb_ HO533 hb; replace BK517 := bb_ BK517 hb; replace HB := bs_ w hb; clear hb hg; replace hn535_517 := NB535_517.out; replace hn517_535 := NB517_535.out; replace hc535 := ce8_ BK535; obtain ⟨Ao122, co122, eo122⟩ := Kd.R_slice HO530.out; subst eo122; obtain ⟨Ao123, co123, eo123⟩ := Kd.R_slice HO533.out; subst eo123))
      go_ret
      exact fi_
     ·replace c116 := Bool.eq_false_iff.mpr c116
      subst c116
      replace H : (none) = some r := by rw [if_neg (show ¬ (false = true) by decide)] at H; exact H
      exact absurd H (by simp)

end Go.Proofs.Ytbfdpodlnijeoaa.X
