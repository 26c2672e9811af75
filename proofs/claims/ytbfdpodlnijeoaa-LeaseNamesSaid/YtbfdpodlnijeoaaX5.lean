-- written by xprint.py, a program of this session over the kit's print
import Derived.Test.YtbfdpodlnijeoaaX0
import Derived.Test.YtbfdpodlnijeoaaX3
import Derived.Test.YtbfdpodlnijeoaaX4
namespace Go.Proofs.Ytbfdpodlnijeoaa.X
open Go.RowKit Go.Proofs.YtbfdpodlnijeoaaW.PrintWords Go.Proofs.YtbfdpodlnijeoaaW.PrintLast Go.Proofs.YtbfdpodlnijeoaaW.PrintMore
attribute [local go_sem] max2_int min2_int max_two min_two max_three min_three max_four min_four   -- for this text's walks alone
set_option linter.unusedVariables false
set_option linter.unusedSimpArgs false

/-! ### lease_Check: function 27 -/
def lease_Check.j0 : Nat → Bool → Int → Int → Int → Int → Int → Int → Int → List Int → Option (Int)
  | 0, _, _, _, _, _, _, _, _, _ => none
  | k + 1, x29, x108000, x108001, x108002, x108003, x108004, x108005, x108006, x108007 => if x29 = true then (some 8) else ((slices_ContainsFunc_int64_c44.f k x108007 0).bind fun t109 => (if t109 = true then (some 8) else (some 0)))
def lease_Check.f (k : Nat) (a0_0 : Int) (a0_1 : Int) (a0_2 : Int) (a0_3 : Int) (a0_4 : Int) (a0_5 : Int) (a0_6 : Int) (l0_7 : List Int) : Option (Int) := (bucket_Check.f a0_0 a0_1 a0_2 a0_3 a0_4 a0_5).bind fun t108 => (if t108 = 0 then (if a0_6 < 1 then (lease_Check.j0 k true a0_0 a0_1 a0_2 a0_3 a0_4 a0_5 a0_6 l0_7) else (if a0_6 > 1000000000 then (lease_Check.j0 k true a0_0 a0_1 a0_2 a0_3 a0_4 a0_5 a0_6 l0_7) else (if (l0_7.length : Int) < 1 then (lease_Check.j0 k true a0_0 a0_1 a0_2 a0_3 a0_4 a0_5 a0_6 l0_7) else (lease_Check.j0 k (decide ((l0_7.length : Int) > 12)) a0_0 a0_1 a0_2 a0_3 a0_4 a0_5 a0_6 l0_7)))) else (some t108))
theorem lease_Check.mono_l : ∀ k, (∀ y0 y1 y2 y3 y4 y5 y6 y7 y8, LeO (lease_Check.j0 k y0 y1 y2 y3 y4 y5 y6 y7 y8) (lease_Check.j0 (k + 1) y0 y1 y2 y3 y4 y5 y6 y7 y8))
  | 0 => fun _ _ _ _ _ _ _ _ _ r h => by simp [lease_Check.j0] at h
  | k + 1 => by
    have ih0 := lease_Check.mono_l k
    · intro y0 y1 y2 y3 y4 y5 y6 y7 y8
      unfold lease_Check.j0
      repeat' first
      | (with_reducible exact ih0 _ _ _ _ _ _ _ _ _)
      | (with_reducible exact slices_ContainsFunc_int64_c44.mono _ _ _)
      | (with_reducible exact LeO.refl _)
      | (with_reducible exact LeO.none _)
      | (with_reducible refine LeO.ite ?_ ?_)
      | (with_reducible refine LeO.bind ?_ (fun _ => ?_))
      | exact ih0 _ _ _ _ _ _ _ _ _
      | exact slices_ContainsFunc_int64_c44.mono _ _ _
      | exact LeO.none _
      | refine LeO.ite ?_ ?_
      | refine LeO.bind ?_ (fun _ => ?_)
theorem lease_Check.mono : ∀ a0 a1 a2 a3 a4 a5 a6 a7 k, LeO (lease_Check.f k a0 a1 a2 a3 a4 a5 a6 a7) (lease_Check.f (k + 1) a0 a1 a2 a3 a4 a5 a6 a7) := by
  intro a0 a1 a2 a3 a4 a5 a6 a7 k
  have ih0 := lease_Check.mono_l k
  unfold lease_Check.f
  repeat' first
      | (with_reducible exact ih0 _ _ _ _ _ _ _ _ _)
      | (with_reducible exact slices_ContainsFunc_int64_c44.mono _ _ _)
      | (with_reducible exact LeO.refl _)
      | (with_reducible exact LeO.none _)
      | (with_reducible refine LeO.ite ?_ ?_)
      | (with_reducible refine LeO.bind ?_ (fun _ => ?_))
      | exact ih0 _ _ _ _ _ _ _ _ _
      | exact slices_ContainsFunc_int64_c44.mono _ _ _
      | exact LeO.none _
      | refine LeO.ite ?_ ?_
      | refine LeO.bind ?_ (fun _ => ?_)
set_option maxHeartbeats 8000000 in
set_option maxRecDepth 100000 in
theorem lease_Check.calls (k : Nat) (a0_0 : Int) (a0_1 : Int) (a0_2 : Int) (a0_3 : Int) (a0_4 : Int) (a0_5 : Int) (a0_6 : Int) (A0_7 : Option Addr) (c0_7 : Nat) (l0_7 : List Int) (r : Int) (w : World) (hr0_7 : Kd.C (Kd.int .i64) w A0_7 l0_7.length l0_7) (hc0_7 : l0_7.length ≤ c0_7) (h : lease_Check.f k a0_0 a0_1 a0_2 a0_3 a0_4 a0_5 a0_6 l0_7 = some r) :
  Calls Try.prog 27 #[.agg #[.int .i64 a0_0, .int .i64 a0_1, .int .i64 a0_2, .int .i64 a0_3, .int .i64 a0_4, .int .u64 a0_5, .int .i64 a0_6, .slice A0_7 l0_7.length c0_7]] w fun e w' => e = .returned (.int .i64 r) ∧ Below w.heap.size w w' := by
 have hu29 := Try.underlying29
 have hu26 := Try.underlying26
 have HR0_7 := Aside0.mk hr0_7
 have HC0_7 := Aside0.mk hc0_7
 clear hr0_7 hc0_7
 have HB := Aside0.mk (Below.refl w.heap.size w)
 have H : ((bucket_Check.f a0_0 a0_1 a0_2 a0_3 a0_4 a0_5).bind fun t108 => (if t108 = 0 then (if a0_6 < 1 then (lease_Check.j0 k true a0_0 a0_1 a0_2 a0_3 a0_4 a0_5 a0_6 l0_7) else (if a0_6 > 1000000000 then (lease_Check.j0 k true a0_0 a0_1 a0_2 a0_3 a0_4 a0_5 a0_6 l0_7) else (if (l0_7.length : Int) < 1 then (lease_Check.j0 k true a0_0 a0_1 a0_2 a0_3 a0_4 a0_5 a0_6 l0_7) else (lease_Check.j0 k (decide ((l0_7.length : Int) > 12)) a0_0 a0_1 a0_2 a0_3 a0_4 a0_5 a0_6 l0_7)))) else (some t108))) = some r := h
 clear h
 have H0_ := bo_ H; clear H; obtain ⟨t108, A2, H⟩ := H0_
 try dsimp only at H
 by_cases c3 : t108 = 0
 ·rw [if_pos c3] at H
  have c3b0 : (t108 == 0) = true := beq_iff_eq.mpr c3
  have c3b1 : (t108 != 0) = false := bne_eq_false_iff_eq.mpr c3
  clear c3
  have HC4 := Aside0.mk H
  clear H
  go_enter Try.func27, Try.ntmps27
  go_upto_region 4 with (first | ((with_reducible refine gate_dst (N := 1) rfl ?_); (try refine ug_ (by rfl) ?_); refine bx_ #[.int .i64 a0_0, .int .i64 a0_1, .int .i64 a0_2, .int .i64 a0_3, .int .i64 a0_4, .int .u64 a0_5, .int .i64 a0_6, .slice A0_7 l0_7.length c0_7] 29 ?_; intro gb107 hg w5 BK107 hb; have GW107 := bz_ w hg; have GE107 := GW107; replace HB := bs_ w hb; clear hb hg; replace hc107 := ce8_ BK107) | ((with_reducible refine gate_callee (f := 42) rfl ?_); (try refine ug_ (by rfl) ?_); refine goesA_ (some 6) Try.func42 #[.agg #[.int .i64 a0_0, .int .i64 a0_1, .int .i64 a0_2, .int .i64 a0_3, .int .i64 a0_4, .int .u64 a0_5]] ?_; (with_reducible refine (bucket_Check.calls a0_0 a0_1 a0_2 a0_3 a0_4 a0_5 t108 _ A2.out).mono ?_); rintro e w7 ⟨rfl, hb⟩; refine ⟨_, rfl, ?_⟩; replace BK107 := bb_ BK107 hb; replace HB := bs_ w hb; clear hb))
  (try simp only [Act.put, List.setIfInBounds_toArray, List.set_cons_zero, List.set_cons_succ])
  go_cut [29] (fun v29 wc => ∃ (kq : Nat) (x29_3 : Bool), v29 = .bool x29_3 ∧ Aside0 (lease_Check.j0 kq x29_3 a0_0 a0_1 a0_2 a0_3 a0_4 a0_5 a0_6 l0_7 = some r) ∧ Aside0 (kq ≤ k) ∧ Aside0 (wc.heap[gb107]? = some (.cells #[.int .i64 a0_0, .int .i64 a0_1, .int .i64 a0_2, .int .i64 a0_3, .int .i64 a0_4, .int .u64 a0_5, .int .i64 a0_6, (.slice A0_7 l0_7.length c0_7)] 29 (0, 0))) ∧ Aside0 (Below w.heap.size w wc))
  case first =>
   have H := HC4.out
   clear HC4
   by_cases c8 : a0_6 < 1
   ·rw [if_pos c8] at H
    have c8b0 : decide (a0_6 < 1) = true := decide_eq_true c8
    clear c8
    (first | rw [c8b0] | (simp only [i64_w, i32_w]; rw [c8b0]) | skip)
    have H' := Aside0.mk H
    clear H
    replace hc107 := ce8_ BK107
    go_wp2
    go_meet
    case rel => exact ⟨_, (true), rf_, H', al_, ⟨bq_ BK107⟩, bw_⟩
   ·rw [if_neg c8] at H
    have c8b0 : decide (a0_6 < 1) = false := decide_eq_false c8
    clear c8
    (first | rw [c8b0] | (simp only [i64_w, i32_w]; rw [c8b0]) | skip)
    by_cases c10 : a0_6 > 1000000000
    ·rw [if_pos c10] at H
     have c10b0 : decide (1000000000 < a0_6) = true := decide_eq_true c10
     clear c10
     have H' := Aside0.mk H
     clear H
     replace hc107 := ce8_ BK107
     go_wp2
     go_meet
     case rel => exact ⟨_, (true), rf_, H', al_, ⟨bq_ BK107⟩, bw_⟩
    ·rw [if_neg c10] at H
     have c10b0 : decide (1000000000 < a0_6) = false := decide_eq_false c10
     clear c10
     by_cases c12 : (l0_7.length : Int) < 1
     ·rw [if_pos c12] at H
      have c12b0 : decide ((l0_7.length : Int) < 1) = true := decide_eq_true c12
      have c12b1 : decide (l0_7.length < 1) = true := decide_eq_true (by omega)
      clear c12
      have H' := Aside0.mk H
      clear H
      replace hc107 := ce8_ BK107
      go_wp2
      go_meet
      case rel => exact ⟨_, (true), rf_, H', al_, ⟨bq_ BK107⟩, bw_⟩
     ·rw [if_neg c12] at H
      have c12b0 : decide ((l0_7.length : Int) < 1) = false := decide_eq_false c12
      have c12b1 : decide (l0_7.length < 1) = false := decide_eq_false (by omega)
      clear c12
      have H' := Aside0.mk H
      clear H
      replace hc107 := ce8_ BK107
      go_wp2
      go_meet
      case rel => exact ⟨_, (decide ((l0_7.length : Int) > 12)), rf_, H', al_, ⟨bq_ BK107⟩, bw_⟩
  case rest =>
   clear HC4
   try clear c3
   try clear c3b0
   try clear c3b1
   obtain ⟨kq, x29_3, rfl, HA, HJ3, BK107, HB⟩ := hcut
   cases kq with
   | zero => exact absurd HA.out (by simp [lease_Check.j0])
   | succ kj3 =>
    have H := HA.out
    clear HA
    simp only [lease_Check.j0] at H
    by_cases c15 : x29_3 = true
    ·subst c15
     replace H : (some 8) = some r := by rw [if_pos rfl] at H; exact H
     obtain rfl := Option.some.inj H
     go_wp2
     go_ret
     exact fi_
    ·replace c15 := Bool.eq_false_iff.mpr c15
     subst c15
     rw [if_neg (show ¬ (false = true) by decide)] at H
     try dsimp only at H
     have H0_ := bo_ H; clear H; obtain ⟨t109, A16, H⟩ := H0_
     replace H : (if t109 = true then (some 8) else (some 0)) = some r := H
     by_cases c17 : t109 = true
     ·subst c17
      replace H : (some 8) = some r := by rw [if_pos rfl] at H; exact H
      obtain rfl := Option.some.inj H
      replace hc107 := ce8_ BK107
      go_wp2_with (first | ((with_reducible refine gate_callee (f := 43) rfl ?_); (try refine ug_ (by rfl) ?_); refine goesA_ (some 32) Try.func43 #[.slice A0_7 l0_7.length c0_7, .func (.func 44) #[] #[]] ?_; (with_reducible refine (slices_ContainsFunc_int64_c44.calls kj3 _ _ l0_7 0 true _ ?side1 ?side2 A16.out).mono ?_); (case side1 => exact cs_ HR0_7 HB); (case side2 => exact HC0_7.out); rintro e w' ⟨rfl, ⟨nd, rfl⟩⟩; refine ⟨_, rfl, ?_⟩))
      go_ret
      exact fi_
     ·replace c17 := Bool.eq_false_iff.mpr c17
      subst c17
      replace H : (some 0) = some r := by rw [if_neg (show ¬ (false = true) by decide)] at H; exact H
      obtain rfl := Option.some.inj H
      replace hc107 := ce8_ BK107
      go_wp2_with (first | ((with_reducible refine gate_callee (f := 43) rfl ?_); (try refine ug_ (by rfl) ?_); refine goesA_ (some 32) Try.func43 #[.slice A0_7 l0_7.length c0_7, .func (.func 44) #[] #[]] ?_; (with_reducible refine (slices_ContainsFunc_int64_c44.calls kj3 _ _ l0_7 0 false _ ?side1 ?side2 A16.out).mono ?_); (case side1 => exact cs_ HR0_7 HB); (case side2 => exact HC0_7.out); rintro e w' ⟨rfl, ⟨nd, rfl⟩⟩; refine ⟨_, rfl, ?_⟩))
      go_ret
      exact fi_
 ·rw [if_neg c3] at H
  have c3b0 : (t108 == 0) = false := beq_eq_false_iff_ne.mpr c3
  have c3b1 : (t108 != 0) = true := bne_iff_ne.mpr c3
  obtain rfl := Option.some.inj H
  go_enter Try.func27, Try.ntmps27
  go_wp2_with (first | ((with_reducible refine gate_dst (N := 1) rfl ?_); (try refine ug_ (by rfl) ?_); refine bx_ #[.int .i64 a0_0, .int .i64 a0_1, .int .i64 a0_2, .int .i64 a0_3, .int .i64 a0_4, .int .u64 a0_5, .int .i64 a0_6, .slice A0_7 l0_7.length c0_7] 29 ?_; intro gb107 hg w20 BK107 hb; have GW107 := bz_ w hg; have GE107 := GW107; replace HB := bs_ w hb; clear hb hg; replace hc107 := ce8_ BK107) | ((with_reducible refine gate_callee (f := 42) rfl ?_); (try refine ug_ (by rfl) ?_); refine goesA_ (some 6) Try.func42 #[.agg #[.int .i64 a0_0, .int .i64 a0_1, .int .i64 a0_2, .int .i64 a0_3, .int .i64 a0_4, .int .u64 a0_5]] ?_; (with_reducible refine (bucket_Check.calls a0_0 a0_1 a0_2 a0_3 a0_4 a0_5 t108 _ A2.out).mono ?_); rintro e w22 ⟨rfl, hb⟩; refine ⟨_, rfl, ?_⟩; replace BK107 := bb_ BK107 hb; replace HB := bs_ w hb; clear hb))
  go_ret
  exact fi_

end Go.Proofs.Ytbfdpodlnijeoaa.X
