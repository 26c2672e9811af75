-- written by xprint.py, a program of this session over the kit's print
import Derived.Test.YtbfdpodlnijeoaaX0
import Derived.Test.YtbfdpodlnijeoaaX16
namespace Go.Proofs.Ytbfdpodlnijeoaa.X
open Go.RowKit Go.Proofs.YtbfdpodlnijeoaaW.PrintWords Go.Proofs.YtbfdpodlnijeoaaW.PrintLast Go.Proofs.YtbfdpodlnijeoaaW.PrintMore
attribute [local go_sem] max2_int min2_int max_two min_two max_three min_three max_four min_four   -- for this text's walks alone
set_option linter.unusedVariables false
set_option linter.unusedSimpArgs false

/-! ### spigotref42_Check: function 12 -/
mutual
def spigotref42_Check.j0 : Nat → Bool → Int → Int → Int → Int → Int → Int → Int → List Int → Option (Int)
  | 0, _, _, _, _, _, _, _, _, _ => none
  | k + 1, x29, x282000, x282001, x282002, x282003, x282004, x282005, x282006, x282007 => if x29 = true then (some 8) else (spigotref42_Check.l0 k 0 x282000 x282001 x282002 x282003 x282004 x282005 x282006 x282007)
def spigotref42_Check.l0 : Nat → Int → Int → Int → Int → Int → Int → Int → Int → List Int → Option (Int)
  | 0, _, _, _, _, _, _, _, _, _ => none
  | k + 1, x3, x282000, x282001, x282002, x282003, x282004, x282005, x282006, x282007 => if x3 < (x282007.length : Int) then (if 0 ≤ x3 then (if (rd x282007 x3) < 0 then (some 8) else (if (rd x282007 x3) > 1000000000000 then (some 8) else (spigotref42_Check.l0 k (wrap64 (x3 + 1)) x282000 x282001 x282002 x282003 x282004 x282005 x282006 x282007))) else (none)) else (some 0)
end
def spigotref42_Check.f (k : Nat) (a0_0 : Int) (a0_1 : Int) (a0_2 : Int) (a0_3 : Int) (a0_4 : Int) (a0_5 : Int) (a0_6 : Int) (l0_7 : List Int) : Option (Int) := (spigotref03_Check.f a0_0 a0_1 a0_2 a0_3 a0_4 a0_5).bind fun t282 => (if t282 = 0 then (if a0_6 < 1 then (spigotref42_Check.j0 k true a0_0 a0_1 a0_2 a0_3 a0_4 a0_5 a0_6 l0_7) else (if a0_6 > 1000000000 then (spigotref42_Check.j0 k true a0_0 a0_1 a0_2 a0_3 a0_4 a0_5 a0_6 l0_7) else (if (l0_7.length : Int) < 1 then (spigotref42_Check.j0 k true a0_0 a0_1 a0_2 a0_3 a0_4 a0_5 a0_6 l0_7) else (spigotref42_Check.j0 k (decide ((l0_7.length : Int) > 12)) a0_0 a0_1 a0_2 a0_3 a0_4 a0_5 a0_6 l0_7)))) else (spigotref42_Check.j0 k true a0_0 a0_1 a0_2 a0_3 a0_4 a0_5 a0_6 l0_7))
theorem spigotref42_Check.mono_l : ∀ k, (∀ y0 y1 y2 y3 y4 y5 y6 y7 y8, LeO (spigotref42_Check.j0 k y0 y1 y2 y3 y4 y5 y6 y7 y8) (spigotref42_Check.j0 (k + 1) y0 y1 y2 y3 y4 y5 y6 y7 y8)) ∧ (∀ y0 y1 y2 y3 y4 y5 y6 y7 y8, LeO (spigotref42_Check.l0 k y0 y1 y2 y3 y4 y5 y6 y7 y8) (spigotref42_Check.l0 (k + 1) y0 y1 y2 y3 y4 y5 y6 y7 y8))
  | 0 => ⟨fun _ _ _ _ _ _ _ _ _ r h => by simp [spigotref42_Check.j0] at h, fun _ _ _ _ _ _ _ _ _ r h => by simp [spigotref42_Check.l0] at h⟩
  | k + 1 => by
    obtain ⟨ih0, ih1⟩ := spigotref42_Check.mono_l k
    refine ⟨?_, ?_⟩
    · intro y0 y1 y2 y3 y4 y5 y6 y7 y8
      unfold spigotref42_Check.j0
      repeat' first
      | (with_reducible exact ih0 _ _ _ _ _ _ _ _ _)
      | (with_reducible exact ih1 _ _ _ _ _ _ _ _ _)
      | (with_reducible exact LeO.refl _)
      | (with_reducible exact LeO.none _)
      | (with_reducible refine LeO.ite ?_ ?_)
      | (with_reducible refine LeO.bind ?_ (fun _ => ?_))
      | exact ih0 _ _ _ _ _ _ _ _ _
      | exact ih1 _ _ _ _ _ _ _ _ _
      | exact LeO.none _
      | refine LeO.ite ?_ ?_
      | refine LeO.bind ?_ (fun _ => ?_)
    · intro y0 y1 y2 y3 y4 y5 y6 y7 y8
      unfold spigotref42_Check.l0
      repeat' first
      | (with_reducible exact ih0 _ _ _ _ _ _ _ _ _)
      | (with_reducible exact ih1 _ _ _ _ _ _ _ _ _)
      | (with_reducible exact LeO.refl _)
      | (with_reducible exact LeO.none _)
      | (with_reducible refine LeO.ite ?_ ?_)
      | (with_reducible refine LeO.bind ?_ (fun _ => ?_))
      | exact ih0 _ _ _ _ _ _ _ _ _
      | exact ih1 _ _ _ _ _ _ _ _ _
      | exact LeO.none _
      | refine LeO.ite ?_ ?_
      | refine LeO.bind ?_ (fun _ => ?_)
theorem spigotref42_Check.mono : ∀ a0 a1 a2 a3 a4 a5 a6 a7 k, LeO (spigotref42_Check.f k a0 a1 a2 a3 a4 a5 a6 a7) (spigotref42_Check.f (k + 1) a0 a1 a2 a3 a4 a5 a6 a7) := by
  intro a0 a1 a2 a3 a4 a5 a6 a7 k
  obtain ⟨ih0, ih1⟩ := spigotref42_Check.mono_l k
  unfold spigotref42_Check.f
  repeat' first
      | (with_reducible exact ih0 _ _ _ _ _ _ _ _ _)
      | (with_reducible exact ih1 _ _ _ _ _ _ _ _ _)
      | (with_reducible exact LeO.refl _)
      | (with_reducible exact LeO.none _)
      | (with_reducible refine LeO.ite ?_ ?_)
      | (with_reducible refine LeO.bind ?_ (fun _ => ?_))
      | exact ih0 _ _ _ _ _ _ _ _ _
      | exact ih1 _ _ _ _ _ _ _ _ _
      | exact LeO.none _
      | refine LeO.ite ?_ ?_
      | refine LeO.bind ?_ (fun _ => ?_)
set_option maxHeartbeats 8000000 in
set_option maxRecDepth 100000 in
theorem spigotref42_Check.calls (k : Nat) (a0_0 : Int) (a0_1 : Int) (a0_2 : Int) (a0_3 : Int) (a0_4 : Int) (a0_5 : Int) (a0_6 : Int) (A0_7 : Option Addr) (c0_7 : Nat) (l0_7 : List Int) (r : Int) (w : World) (hr0_7 : Kd.C (Kd.int .i64) w A0_7 l0_7.length l0_7) (hc0_7 : l0_7.length ≤ c0_7) (h : spigotref42_Check.f k a0_0 a0_1 a0_2 a0_3 a0_4 a0_5 a0_6 l0_7 = some r) :
  Calls Try.prog 12 #[.agg #[.int .i64 a0_0, .int .i64 a0_1, .int .i64 a0_2, .int .i64 a0_3, .int .i64 a0_4, .int .u64 a0_5, .int .i64 a0_6, .slice A0_7 l0_7.length c0_7]] w fun e w' => e = .returned (.int .i64 r) ∧ Below w.heap.size w w' := by
 have hu29 := Try.underlying29
 have hu26 := Try.underlying26
 have HR0_7 := Aside0.mk hr0_7
 have HC0_7 := Aside0.mk hc0_7
 clear hr0_7 hc0_7
 have HB := Aside0.mk (Below.refl w.heap.size w)
 have H : ((spigotref03_Check.f a0_0 a0_1 a0_2 a0_3 a0_4 a0_5).bind fun t282 => (if t282 = 0 then (if a0_6 < 1 then (spigotref42_Check.j0 k true a0_0 a0_1 a0_2 a0_3 a0_4 a0_5 a0_6 l0_7) else (if a0_6 > 1000000000 then (spigotref42_Check.j0 k true a0_0 a0_1 a0_2 a0_3 a0_4 a0_5 a0_6 l0_7) else (if (l0_7.length : Int) < 1 then (spigotref42_Check.j0 k true a0_0 a0_1 a0_2 a0_3 a0_4 a0_5 a0_6 l0_7) else (spigotref42_Check.j0 k (decide ((l0_7.length : Int) > 12)) a0_0 a0_1 a0_2 a0_3 a0_4 a0_5 a0_6 l0_7)))) else (spigotref42_Check.j0 k true a0_0 a0_1 a0_2 a0_3 a0_4 a0_5 a0_6 l0_7))) = some r := h
 clear h
 have HC2 := Aside0.mk H
 clear H
 go_enter Try.func12, Try.ntmps12
 go_upto_region 1 with (first | ((with_reducible refine gate_dst (N := 1) rfl ?_); (try refine ug_ (by rfl) ?_); refine bx_ #[.int .i64 a0_0, .int .i64 a0_1, .int .i64 a0_2, .int .i64 a0_3, .int .i64 a0_4, .int .u64 a0_5, .int .i64 a0_6, .slice A0_7 l0_7.length c0_7] 29 ?_; intro gb281 hg w3 BK281 hb; have GW281 := bz_ w hg; replace HB := bs_ w hb; clear hb hg))
 (try simp only [Act.put, List.setIfInBounds_toArray, List.set_cons_zero, List.set_cons_succ])
 go_cut [29] (fun v29 wc => ∃ (kq : Nat) (x29_1 : Bool), v29 = .bool x29_1 ∧ Aside0 (spigotref42_Check.j0 kq x29_1 a0_0 a0_1 a0_2 a0_3 a0_4 a0_5 a0_6 l0_7 = some r) ∧ Aside0 (kq ≤ k) ∧ Aside0 (wc.heap[gb281]? = some (.cells #[.int .i64 a0_0, .int .i64 a0_1, .int .i64 a0_2, .int .i64 a0_3, .int .i64 a0_4, .int .u64 a0_5, .int .i64 a0_6, (.slice A0_7 l0_7.length c0_7)] 29 (0, 0))) ∧ Aside0 (Below w.heap.size w wc))
 case first =>
  have H := HC2.out
  clear HC2
  have H0_ := bo_ H; clear H; obtain ⟨t282, A4, H⟩ := H0_
  try dsimp only at H
  by_cases c5 : t282 = 0
  ·rw [if_pos c5] at H
   have c5b0 : (t282 == 0) = true := beq_iff_eq.mpr c5
   have c5b1 : (t282 != 0) = false := bne_eq_false_iff_eq.mpr c5
   clear c5
   (first | rw [c5b0] | (simp only [i64_w, i32_w]; rw [c5b0]) | skip)
   by_cases c6 : a0_6 < 1
   ·rw [if_pos c6] at H
    have c6b0 : decide (a0_6 < 1) = true := decide_eq_true c6
    clear c6
    have H' := Aside0.mk H
    clear H
    replace hc281 := ce8_ BK281
    go_wp2_with (first | ((with_reducible refine gate_callee (f := 29) rfl ?_); (try refine ug_ (by rfl) ?_); refine goesA_ (some 6) Try.func29 #[.agg #[.int .i64 a0_0, .int .i64 a0_1, .int .i64 a0_2, .int .i64 a0_3, .int .i64 a0_4, .int .u64 a0_5]] ?_; (with_reducible refine (spigotref03_Check.calls a0_0 a0_1 a0_2 a0_3 a0_4 a0_5 t282 _ A4.out).mono ?_); rintro e w8 ⟨rfl, hb⟩; refine ⟨_, rfl, ?_⟩; replace BK281 := bb_ BK281 hb; replace HB := bs_ w hb; clear hb; replace hc281 := ce8_ BK281))
    go_meet
    case rel => exact ⟨_, (true), rf_, H', al_, ⟨bq_ BK281⟩, bw_⟩
   ·rw [if_neg c6] at H
    have c6b0 : decide (a0_6 < 1) = false := decide_eq_false c6
    clear c6
    by_cases c10 : a0_6 > 1000000000
    ·rw [if_pos c10] at H
     have c10b0 : decide (1000000000 < a0_6) = true := decide_eq_true c10
     clear c10
     have H' := Aside0.mk H
     clear H
     replace hc281 := ce8_ BK281
     go_wp2_with (first | ((with_reducible refine gate_callee (f := 29) rfl ?_); (try refine ug_ (by rfl) ?_); refine goesA_ (some 6) Try.func29 #[.agg #[.int .i64 a0_0, .int .i64 a0_1, .int .i64 a0_2, .int .i64 a0_3, .int .i64 a0_4, .int .u64 a0_5]] ?_; (with_reducible refine (spigotref03_Check.calls a0_0 a0_1 a0_2 a0_3 a0_4 a0_5 t282 _ A4.out).mono ?_); rintro e w12 ⟨rfl, hb⟩; refine ⟨_, rfl, ?_⟩; replace BK281 := bb_ BK281 hb; replace HB := bs_ w hb; clear hb; replace hc281 := ce8_ BK281))
     go_meet
     case rel => exact ⟨_, (true), rf_, H', al_, ⟨bq_ BK281⟩, bw_⟩
    ·rw [if_neg c10] at H
     have c10b0 : decide (1000000000 < a0_6) = false := decide_eq_false c10
     clear c10
     by_cases c14 : (l0_7.length : Int) < 1
     ·rw [if_pos c14] at H
      have c14b0 : decide ((l0_7.length : Int) < 1) = true := decide_eq_true c14
      have c14b1 : decide (l0_7.length < 1) = true := decide_eq_true (by omega)
      clear c14
      have H' := Aside0.mk H
      clear H
      replace hc281 := ce8_ BK281
      go_wp2_with (first | ((with_reducible refine gate_callee (f := 29) rfl ?_); (try refine ug_ (by rfl) ?_); refine goesA_ (some 6) Try.func29 #[.agg #[.int .i64 a0_0, .int .i64 a0_1, .int .i64 a0_2, .int .i64 a0_3, .int .i64 a0_4, .int .u64 a0_5]] ?_; (with_reducible refine (spigotref03_Check.calls a0_0 a0_1 a0_2 a0_3 a0_4 a0_5 t282 _ A4.out).mono ?_); rintro e w16 ⟨rfl, hb⟩; refine ⟨_, rfl, ?_⟩; replace BK281 := bb_ BK281 hb; replace HB := bs_ w hb; clear hb; replace hc281 := ce8_ BK281))
      go_meet
      case rel => exact ⟨_, (true), rf_, H', al_, ⟨bq_ BK281⟩, bw_⟩
     ·rw [if_neg c14] at H
      have c14b0 : decide ((l0_7.length : Int) < 1) = false := decide_eq_false c14
      have c14b1 : decide (l0_7.length < 1) = false := decide_eq_false (by omega)
      clear c14
      have H' := Aside0.mk H
      clear H
      replace hc281 := ce8_ BK281
      go_wp2_with (first | ((with_reducible refine gate_callee (f := 29) rfl ?_); (try refine ug_ (by rfl) ?_); refine goesA_ (some 6) Try.func29 #[.agg #[.int .i64 a0_0, .int .i64 a0_1, .int .i64 a0_2, .int .i64 a0_3, .int .i64 a0_4, .int .u64 a0_5]] ?_; (with_reducible refine (spigotref03_Check.calls a0_0 a0_1 a0_2 a0_3 a0_4 a0_5 t282 _ A4.out).mono ?_); rintro e w19 ⟨rfl, hb⟩; refine ⟨_, rfl, ?_⟩; replace BK281 := bb_ BK281 hb; replace HB := bs_ w hb; clear hb; replace hc281 := ce8_ BK281))
      go_meet
      case rel => exact ⟨_, (decide ((l0_7.length : Int) > 12)), rf_, H', al_, ⟨bq_ BK281⟩, bw_⟩
  ·rw [if_neg c5] at H
   have c5b0 : (t282 == 0) = false := beq_eq_false_iff_ne.mpr c5
   have c5b1 : (t282 != 0) = true := bne_iff_ne.mpr c5
   (first | rw [c5b0] | (simp only [i64_w, i32_w]; rw [c5b0]) | skip)
   have H' := Aside0.mk H
   clear H
   replace hc281 := ce8_ BK281
   go_wp2_with (first | ((with_reducible refine gate_callee (f := 29) rfl ?_); (try refine ug_ (by rfl) ?_); refine goesA_ (some 6) Try.func29 #[.agg #[.int .i64 a0_0, .int .i64 a0_1, .int .i64 a0_2, .int .i64 a0_3, .int .i64 a0_4, .int .u64 a0_5]] ?_; (with_reducible refine (spigotref03_Check.calls a0_0 a0_1 a0_2 a0_3 a0_4 a0_5 t282 _ A4.out).mono ?_); rintro e w22 ⟨rfl, hb⟩; refine ⟨_, rfl, ?_⟩; replace BK281 := bb_ BK281 hb; replace HB := bs_ w hb; clear hb))
   go_meet
   case rel => exact ⟨_, (true), rf_, H', al_, ⟨bq_ BK281⟩, bw_⟩
 case rest =>
  clear HC2
  obtain ⟨kq, x29_1, rfl, HA, HJ1, BK281, HB⟩ := hcut
  cases kq with
  | zero => exact absurd HA.out (by simp [spigotref42_Check.j0])
  | succ kj1 =>
   have H := HA.out
   clear HA
   simp only [spigotref42_Check.j0] at H
   by_cases c23 : x29_1 = true
   ·subst c23
    replace H : (some 8) = some r := by rw [if_pos rfl] at H; exact H
    obtain rfl := Option.some.inj H
    go_wp2
    go_ret
    exact fi_
   ·replace c23 := Bool.eq_false_iff.mpr c23
    subst c23
    rw [if_neg (show ¬ (false = true) by decide)] at H
    try dsimp only at H
    have H' := Aside0.mk H
    clear H
    go_wp2
    go_loopg [3] kj1 (fun kq v3 w' => ∃ (x3_2 : Int), v3 = .int .i64 x3_2 ∧ Aside0 (spigotref42_Check.l0 kq x3_2 a0_0 a0_1 a0_2 a0_3 a0_4 a0_5 a0_6 l0_7 = some r) ∧ Aside0 (kq ≤ kj1) ∧ Aside0 (w'.heap[gb281]? = some (.cells #[.int .i64 a0_0, .int .i64 a0_1, .int .i64 a0_2, .int .i64 a0_3, .int .i64 a0_4, .int .u64 a0_5, .int .i64 a0_6, (.slice A0_7 l0_7.length c0_7)] 29 (0, 0))) ∧ Aside0 (Below w.heap.size w w'))
    case atStart => exact ⟨(0), rf_, H', ⟨Nat.le_refl _⟩, ⟨bq_ BK281⟩, bw_⟩
    case round =>
     clear H'
     try clear c23
     obtain ⟨x3_2, rfl, HA, HK2, BK281, HB⟩ := hrel
     cases gk with
     | zero => exact absurd HA.out (by simp [spigotref42_Check.l0])
     | succ k2 =>
      have H := HA.out
      clear HA
      simp only [spigotref42_Check.l0] at H
      by_cases c24 : x3_2 < (l0_7.length : Int)
      ·rw [if_pos c24] at H
       have c24b0 : decide (x3_2 < (l0_7.length : Int)) = true := decide_eq_true c24
       clear c24
       by_cases c25 : 0 ≤ x3_2
       rotate_left
       ·rw [if_neg c25] at H; exact absurd H (by simp)
       rw [if_pos c25] at H
       have c25b0 : decide (0 ≤ x3_2) = true := decide_eq_true c25
       clear c25
       by_cases c26 : (rd l0_7 x3_2) < 0
       ·rw [if_pos c26] at H
        have c26b0 : decide ((rd l0_7 x3_2) < 0) = true := decide_eq_true c26
        clear c26
        obtain rfl := Option.some.inj H
        replace hc281 := ce8_ BK281
        have p283 : 0 ≤ (x3_2 : Int) := of_decide_eq_true (by first | (with_reducible assumption) | assumption)
        have q283 : x3_2 < (l0_7.length : Int) := of_decide_eq_true (by first | (with_reducible assumption) | assumption)
        obtain ⟨ad283, e283, hx283_0⟩ := Kd.at_int HR0_7.out x3_2 p283 q283
        cases e283
        replace hx283_0 := (HB.out.cell (World.block_lt_of_cell? w _ hx283_0)).trans hx283_0
        replace p283 := eq_true p283
        replace q283 := eq_true q283
        go_wp2
        go_ret
        exact fi_
       ·rw [if_neg c26] at H
        have c26b0 : decide ((rd l0_7 x3_2) < 0) = false := decide_eq_false c26
        clear c26
        by_cases c28 : (rd l0_7 x3_2) > 1000000000000
        ·rw [if_pos c28] at H
         have c28b0 : decide (1000000000000 < (rd l0_7 x3_2)) = true := decide_eq_true c28
         clear c28
         obtain rfl := Option.some.inj H
         replace hc281 := ce8_ BK281
         have p283 : 0 ≤ (x3_2 : Int) := of_decide_eq_true (by first | (with_reducible assumption) | assumption)
         have q283 : x3_2 < (l0_7.length : Int) := of_decide_eq_true (by first | (with_reducible assumption) | assumption)
         obtain ⟨ad283, e283, hx283_0⟩ := Kd.at_int HR0_7.out x3_2 p283 q283
         cases e283
         replace hx283_0 := (HB.out.cell (World.block_lt_of_cell? w _ hx283_0)).trans hx283_0
         replace p283 := eq_true p283
         replace q283 := eq_true q283
         have p284 : 0 ≤ (x3_2 : Int) := of_decide_eq_true (by first | (with_reducible assumption) | assumption)
         have q284 : x3_2 < (l0_7.length : Int) := of_decide_eq_true (by first | (with_reducible assumption) | assumption)
         obtain ⟨ad284, e284, hx284_0⟩ := Kd.at_int HR0_7.out x3_2 p284 q284
         obtain rfl : ad283 = ad284 := (by injection e284)
         replace hx284_0 := (HB.out.cell (World.block_lt_of_cell? w _ hx284_0)).trans hx284_0
         replace p284 := eq_true p284
         replace q284 := eq_true q284
         go_wp2
         go_ret
         exact fi_
        ·rw [if_neg c28] at H
         have c28b0 : decide (1000000000000 < (rd l0_7 x3_2)) = false := decide_eq_false c28
         clear c28
         have H' := Aside0.mk H
         clear H
         replace hc281 := ce8_ BK281
         have p283 : 0 ≤ (x3_2 : Int) := of_decide_eq_true (by first | (with_reducible assumption) | assumption)
         have q283 : x3_2 < (l0_7.length : Int) := of_decide_eq_true (by first | (with_reducible assumption) | assumption)
         obtain ⟨ad283, e283, hx283_0⟩ := Kd.at_int HR0_7.out x3_2 p283 q283
         cases e283
         replace hx283_0 := (HB.out.cell (World.block_lt_of_cell? w _ hx283_0)).trans hx283_0
         replace p283 := eq_true p283
         replace q283 := eq_true q283
         have p284 : 0 ≤ (x3_2 : Int) := of_decide_eq_true (by first | (with_reducible assumption) | assumption)
         have q284 : x3_2 < (l0_7.length : Int) := of_decide_eq_true (by first | (with_reducible assumption) | assumption)
         obtain ⟨ad284, e284, hx284_0⟩ := Kd.at_int HR0_7.out x3_2 p284 q284
         obtain rfl : ad283 = ad284 := (by injection e284)
         replace hx284_0 := (HB.out.cell (World.block_lt_of_cell? w _ hx284_0)).trans hx284_0
         replace p284 := eq_true p284
         replace q284 := eq_true q284
         go_wp2
         go_roundg k2
         case measure => have := HJ1.out; have := HK2.out; omega
         case rel => exact ⟨(wrap64 (x3_2 + 1)), rf_, H', ⟨by have := HJ1.out; have := HK2.out; omega⟩, ⟨bq_ BK281⟩, bw_⟩
      ·rw [if_neg c24] at H
       have c24b0 : decide (x3_2 < (l0_7.length : Int)) = false := decide_eq_false c24
       clear c24
       obtain rfl := Option.some.inj H
       replace hc281 := ce8_ BK281
       go_wp2
       go_ret
       exact fi_

end Go.Proofs.Ytbfdpodlnijeoaa.X
