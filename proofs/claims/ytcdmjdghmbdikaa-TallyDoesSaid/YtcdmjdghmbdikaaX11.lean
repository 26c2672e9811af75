-- written by xprint.py, a program of this session over the kit's print
import Derived.Test.YtcdmjdghmbdikaaX0
import Derived.Test.YtcdmjdghmbdikaaX4
import Derived.Test.YtcdmjdghmbdikaaX8
import Derived.Test.YtcdmjdghmbdikaaX9
import Derived.Test.YtcdmjdghmbdikaaX10
namespace Go.Proofs.Ytcdmjdghmbdikaa.X
open Go.RowKit Go.Proofs.YtcdmjdghmbdikaaW.PrintWords Go.Proofs.YtcdmjdghmbdikaaW.PrintLast Go.Proofs.YtcdmjdghmbdikaaW.PrintMore
attribute [local go_sem] max2_int min2_int max_two min_two max_three min_three max_four min_four   -- for this text's walks alone
set_option linter.unusedVariables false
set_option linter.unusedSimpArgs false

/-! ### tally_Share: function 18 -/
mutual
def tally_Share.j0 : Nat → Int → Int → Int → Bool → Int → Int → Int → Option (Int × Int)
  | 0, _, _, _, _, _, _, _ => none
  | k + 1, x1, x6, x7, x30, x149000, x149001, x149002 => if x30 = true then (some (x1, 0)) else ((bits_Mul64.f x149000 x1).bind fun bt151 => (if x7 = 0 then (if x6 = 0 then (none) else ((bits_Div64.f k (Int.tmod bt151.1 x6) bt151.2 x6).bind fun bt153 => (some (bt153.1, 0)))) else (tally_Share.l0 k x6 x7 bt151.1 bt151.2 0 0 0 127)))
def tally_Share.l0 : Nat → Int → Int → Int → Int → Int → Int → Int → Int → Option (Int × Int)
  | 0, _, _, _, _, _, _, _, _ => none
  | k + 1, x6, x7, x8, x9, x12, x13, x14, x15 => if x15 ≥ 0 then (if x15 ≥ 64 then (if 0 ≤ (wrap64 (x15 - 64)) then (if (Go.bits .or .u64 (IntKind.u64.wrap (x14 * 2)) (x13 / 9223372036854775808)) > x7 then ((bits_Sub64.f (Go.bits .or .u64 (IntKind.u64.wrap (x13 * 2)) (Go.bits .and .u64 (shr .u64 x8 (wrap64 (x15 - 64))) 1)) x6 0).bind fun bt155 => (tally_Share.l0 k x6 x7 x8 x9 (Go.bits .or .u64 (IntKind.u64.wrap (x12 * 2)) 1) bt155.1 (IntKind.u64.wrap ((Go.bits .or .u64 (IntKind.u64.wrap (x14 * 2)) (x13 / 9223372036854775808)) - (IntKind.u64.wrap (x7 + bt155.2)))) (wrap64 (x15 - 1)))) else (if (Go.bits .or .u64 (IntKind.u64.wrap (x14 * 2)) (x13 / 9223372036854775808)) = x7 then (if (Go.bits .or .u64 (IntKind.u64.wrap (x13 * 2)) (Go.bits .and .u64 (shr .u64 x8 (wrap64 (x15 - 64))) 1)) ≥ x6 then ((bits_Sub64.f (Go.bits .or .u64 (IntKind.u64.wrap (x13 * 2)) (Go.bits .and .u64 (shr .u64 x8 (wrap64 (x15 - 64))) 1)) x6 0).bind fun bt157 => (tally_Share.l0 k x6 x7 x8 x9 (Go.bits .or .u64 (IntKind.u64.wrap (x12 * 2)) 1) bt157.1 (IntKind.u64.wrap ((Go.bits .or .u64 (IntKind.u64.wrap (x14 * 2)) (x13 / 9223372036854775808)) - (IntKind.u64.wrap (x7 + bt157.2)))) (wrap64 (x15 - 1)))) else (tally_Share.l0 k x6 x7 x8 x9 (IntKind.u64.wrap (x12 * 2)) (Go.bits .or .u64 (IntKind.u64.wrap (x13 * 2)) (Go.bits .and .u64 (shr .u64 x8 (wrap64 (x15 - 64))) 1)) (Go.bits .or .u64 (IntKind.u64.wrap (x14 * 2)) (x13 / 9223372036854775808)) (wrap64 (x15 - 1)))) else (tally_Share.l0 k x6 x7 x8 x9 (IntKind.u64.wrap (x12 * 2)) (Go.bits .or .u64 (IntKind.u64.wrap (x13 * 2)) (Go.bits .and .u64 (shr .u64 x8 (wrap64 (x15 - 64))) 1)) (Go.bits .or .u64 (IntKind.u64.wrap (x14 * 2)) (x13 / 9223372036854775808)) (wrap64 (x15 - 1))))) else (none)) else (if 0 ≤ x15 then (if (Go.bits .or .u64 (IntKind.u64.wrap (x14 * 2)) (x13 / 9223372036854775808)) > x7 then ((bits_Sub64.f (Go.bits .or .u64 (IntKind.u64.wrap (x13 * 2)) (Go.bits .and .u64 (shr .u64 x9 x15) 1)) x6 0).bind fun bt159 => (tally_Share.l0 k x6 x7 x8 x9 (Go.bits .or .u64 (IntKind.u64.wrap (x12 * 2)) 1) bt159.1 (IntKind.u64.wrap ((Go.bits .or .u64 (IntKind.u64.wrap (x14 * 2)) (x13 / 9223372036854775808)) - (IntKind.u64.wrap (x7 + bt159.2)))) (wrap64 (x15 - 1)))) else (if (Go.bits .or .u64 (IntKind.u64.wrap (x14 * 2)) (x13 / 9223372036854775808)) = x7 then (if (Go.bits .or .u64 (IntKind.u64.wrap (x13 * 2)) (Go.bits .and .u64 (shr .u64 x9 x15) 1)) ≥ x6 then ((bits_Sub64.f (Go.bits .or .u64 (IntKind.u64.wrap (x13 * 2)) (Go.bits .and .u64 (shr .u64 x9 x15) 1)) x6 0).bind fun bt161 => (tally_Share.l0 k x6 x7 x8 x9 (Go.bits .or .u64 (IntKind.u64.wrap (x12 * 2)) 1) bt161.1 (IntKind.u64.wrap ((Go.bits .or .u64 (IntKind.u64.wrap (x14 * 2)) (x13 / 9223372036854775808)) - (IntKind.u64.wrap (x7 + bt161.2)))) (wrap64 (x15 - 1)))) else (tally_Share.l0 k x6 x7 x8 x9 (IntKind.u64.wrap (x12 * 2)) (Go.bits .or .u64 (IntKind.u64.wrap (x13 * 2)) (Go.bits .and .u64 (shr .u64 x9 x15) 1)) (Go.bits .or .u64 (IntKind.u64.wrap (x14 * 2)) (x13 / 9223372036854775808)) (wrap64 (x15 - 1)))) else (tally_Share.l0 k x6 x7 x8 x9 (IntKind.u64.wrap (x12 * 2)) (Go.bits .or .u64 (IntKind.u64.wrap (x13 * 2)) (Go.bits .and .u64 (shr .u64 x9 x15) 1)) (Go.bits .or .u64 (IntKind.u64.wrap (x14 * 2)) (x13 / 9223372036854775808)) (wrap64 (x15 - 1))))) else (none))) else (some (x12, 0))
end
def tally_Share.f (k : Nat) (a0_0 : Int) (a0_1 : Int) (a0_2 : Int) (a1 : Int) : Option (Int × Int) := (bits_Add64.f a0_0 a0_1 0).bind fun bt149 => (if bt149.1 = 0 then (tally_Share.j0 k a1 bt149.1 bt149.2 (bt149.2 == 0) a0_0 a0_1 a0_2) else (tally_Share.j0 k a1 bt149.1 bt149.2 false a0_0 a0_1 a0_2))
theorem tally_Share.mono_l : ∀ k, (∀ y0 y1 y2 y3 y4 y5 y6, LeO (tally_Share.j0 k y0 y1 y2 y3 y4 y5 y6) (tally_Share.j0 (k + 1) y0 y1 y2 y3 y4 y5 y6)) ∧ (∀ y0 y1 y2 y3 y4 y5 y6 y7, LeO (tally_Share.l0 k y0 y1 y2 y3 y4 y5 y6 y7) (tally_Share.l0 (k + 1) y0 y1 y2 y3 y4 y5 y6 y7))
  | 0 => ⟨fun _ _ _ _ _ _ _ r h => by simp [tally_Share.j0] at h, fun _ _ _ _ _ _ _ _ r h => by simp [tally_Share.l0] at h⟩
  | k + 1 => by
    obtain ⟨ih0, ih1⟩ := tally_Share.mono_l k
    refine ⟨?_, ?_⟩
    · intro y0 y1 y2 y3 y4 y5 y6
      unfold tally_Share.j0
      repeat' first
      | (with_reducible exact ih0 _ _ _ _ _ _ _)
      | (with_reducible exact ih1 _ _ _ _ _ _ _ _)
      | (with_reducible exact bits_Div64.mono _ _ _ _)
      | (with_reducible exact LeO.refl _)
      | (with_reducible exact LeO.none _)
      | (with_reducible refine LeO.ite ?_ ?_)
      | (with_reducible refine LeO.bind ?_ (fun _ => ?_))
      | exact ih0 _ _ _ _ _ _ _
      | exact ih1 _ _ _ _ _ _ _ _
      | exact bits_Div64.mono _ _ _ _
      | exact LeO.none _
      | refine LeO.ite ?_ ?_
      | refine LeO.bind ?_ (fun _ => ?_)
    · intro y0 y1 y2 y3 y4 y5 y6 y7
      unfold tally_Share.l0
      repeat' first
      | (with_reducible exact ih0 _ _ _ _ _ _ _)
      | (with_reducible exact ih1 _ _ _ _ _ _ _ _)
      | (with_reducible exact bits_Div64.mono _ _ _ _)
      | (with_reducible exact LeO.refl _)
      | (with_reducible exact LeO.none _)
      | (with_reducible refine LeO.ite ?_ ?_)
      | (with_reducible refine LeO.bind ?_ (fun _ => ?_))
      | exact ih0 _ _ _ _ _ _ _
      | exact ih1 _ _ _ _ _ _ _ _
      | exact bits_Div64.mono _ _ _ _
      | exact LeO.none _
      | refine LeO.ite ?_ ?_
      | refine LeO.bind ?_ (fun _ => ?_)
theorem tally_Share.mono : ∀ a0 a1 a2 a3 k, LeO (tally_Share.f k a0 a1 a2 a3) (tally_Share.f (k + 1) a0 a1 a2 a3) := by
  intro a0 a1 a2 a3 k
  obtain ⟨ih0, ih1⟩ := tally_Share.mono_l k
  unfold tally_Share.f
  repeat' first
      | (with_reducible exact ih0 _ _ _ _ _ _ _)
      | (with_reducible exact ih1 _ _ _ _ _ _ _ _)
      | (with_reducible exact bits_Div64.mono _ _ _ _)
      | (with_reducible exact LeO.refl _)
      | (with_reducible exact LeO.none _)
      | (with_reducible refine LeO.ite ?_ ?_)
      | (with_reducible refine LeO.bind ?_ (fun _ => ?_))
      | exact ih0 _ _ _ _ _ _ _
      | exact ih1 _ _ _ _ _ _ _ _
      | exact bits_Div64.mono _ _ _ _
      | exact LeO.none _
      | refine LeO.ite ?_ ?_
      | refine LeO.bind ?_ (fun _ => ?_)
set_option maxHeartbeats 8000000 in
set_option maxRecDepth 100000 in
theorem tally_Share.calls (k : Nat) (a0_0 : Int) (a0_1 : Int) (a0_2 : Int) (a1 : Int) (r1 : Int) (r2 : Int) (w : World) (h : tally_Share.f k a0_0 a0_1 a0_2 a1 = some (r1, r2)) :
  Calls Try.prog 18 #[.agg #[.int .u64 a0_0, .int .u64 a0_1, .int .u64 a0_2], .int .u64 a1] w fun e w' => e = .returned (.tuple #[.int .u64 r1, .int .i64 r2]) ∧ Below w.heap.size w w' := by
 have hu25 := Try.underlying25
 have HB := Aside0.mk (Below.refl w.heap.size w)
 have H : ((bits_Add64.f a0_0 a0_1 0).bind fun bt149 => (if bt149.1 = 0 then (tally_Share.j0 k a1 bt149.1 bt149.2 (bt149.2 == 0) a0_0 a0_1 a0_2) else (tally_Share.j0 k a1 bt149.1 bt149.2 false a0_0 a0_1 a0_2))) = some (r1, r2) := h
 clear h
 have H0_ := bo_ H; clear H; obtain ⟨⟨t149, t150⟩, A3, H⟩ := H0_
 replace H : (if t149 = 0 then (tally_Share.j0 k a1 t149 t150 (t150 == 0) a0_0 a0_1 a0_2) else (tally_Share.j0 k a1 t149 t150 false a0_0 a0_1 a0_2)) = some (r1, r2) := H
 have HC4 := Aside0.mk H
 clear H
 go_enter Try.func18, Try.ntmps18
 go_upto_region 2 with (first | ((with_reducible refine gate_dst (N := 2) rfl ?_); (try refine ug_ (by rfl) ?_); refine bx_ #[.int .u64 a0_0, .int .u64 a0_1, .int .u64 a0_2] 25 ?_; intro gb148 hg w5 BK148 hb; have GW148 := bz_ w hg; replace HB := bs_ w hb; clear hb hg; replace hc148 := ce3_ BK148) | ((with_reducible refine gate_callee (f := 41) rfl ?_); (try refine ug_ (by rfl) ?_); refine goesXL_ (some 22) rfl rfl #[.int .u64 a0_0, .int .u64 a0_1, .int .u64 0] rfl (by (try simp only [List.map_toArray, List.map_cons, List.map_nil]); first | done | rfl | (simp only [List.length_drop, List.length_take]; rfl)) ?_; (with_reducible refine (bits_Add64.calls a0_0 a0_1 0 t149 t150 _ A3.out).mono ?_); rintro e w' ⟨rfl, ⟨nd, rfl⟩⟩; refine ⟨_, rfl, ?_⟩))
 (try simp only [Act.put, List.setIfInBounds_toArray, List.set_cons_zero, List.set_cons_succ])
 go_cut [30] (fun v30 wc => ∃ (kq : Nat) (x30_3 : Bool), v30 = .bool x30_3 ∧ Aside0 (tally_Share.j0 kq a1 t149 t150 x30_3 a0_0 a0_1 a0_2 = some (r1, r2)) ∧ Aside0 (kq ≤ k) ∧ Aside0 (wc.heap[gb148]? = some (.cells #[.int .u64 a0_0, .int .u64 a0_1, .int .u64 a0_2] 25 (0, 0))) ∧ Aside0 (Below w.heap.size w wc))
 case first =>
  have H := HC4.out
  clear HC4
  by_cases c7 : t149 = 0
  ·rw [if_pos c7] at H
   have c7b0 : (t149 == 0) = true := beq_iff_eq.mpr c7
   have c7b1 : (t149 != 0) = false := bne_eq_false_iff_eq.mpr c7
   clear c7
   (first | rw [c7b0] | (simp only [i64_w, i32_w]; rw [c7b0]) | skip)
   have H' := Aside0.mk H
   clear H
   go_wp2
   go_meet
   case rel => exact ⟨_, ((t150 == 0)), rf_, H', al_, ⟨bq_ BK148⟩, bw_⟩
  ·rw [if_neg c7] at H
   have c7b0 : (t149 == 0) = false := beq_eq_false_iff_ne.mpr c7
   have c7b1 : (t149 != 0) = true := bne_iff_ne.mpr c7
   (first | rw [c7b0] | (simp only [i64_w, i32_w]; rw [c7b0]) | skip)
   have H' := Aside0.mk H
   clear H
   go_wp2
   go_meet
   case rel => exact ⟨_, (false), rf_, H', al_, ⟨bq_ BK148⟩, bw_⟩
 case rest =>
  clear HC4
  obtain ⟨kq, x30_3, rfl, HA, HJ3, BK148, HB⟩ := hcut
  cases kq with
  | zero => exact absurd HA.out (by simp [tally_Share.j0])
  | succ kj3 =>
   have H := HA.out
   clear HA
   simp only [tally_Share.j0] at H
   by_cases c8 : x30_3 = true
   ·subst c8
    replace H : (some (a1, 0)) = some (r1, r2) := by rw [if_pos rfl] at H; exact H
    simp only [Option.some.injEq, Prod.mk.injEq] at H
    obtain ⟨rfl, rfl⟩ := H
    go_wp2
    go_ret2
    exact fi_
   ·replace c8 := Bool.eq_false_iff.mpr c8
    subst c8
    rw [if_neg (show ¬ (false = true) by decide)] at H
    try dsimp only at H
    have H0_ := bo_ H; clear H; obtain ⟨⟨t151, t152⟩, A9, H⟩ := H0_
    try dsimp only at H
    by_cases c10 : t150 = 0
    ·rw [if_pos c10] at H
     have c10b0 : (t150 == 0) = true := beq_iff_eq.mpr c10
     have c10b1 : (t150 != 0) = false := bne_eq_false_iff_eq.mpr c10
     clear c10
     by_cases c11 : t149 = 0
     ·rw [if_pos c11] at H; exact absurd H (by simp)
     rw [if_neg c11] at H
     have c11b0 : (t149 == 0) = false := beq_eq_false_iff_ne.mpr c11
     have c11b1 : (t149 != 0) = true := bne_iff_ne.mpr c11
     have H0_ := bo_ H; clear H; obtain ⟨⟨t153, t154⟩, A12, H⟩ := H0_
     replace H : (some (t153, 0)) = some (r1, r2) := H
     simp only [Option.some.injEq, Prod.mk.injEq] at H
     obtain ⟨rfl, rfl⟩ := H
     replace hc148 := ce3_ BK148
     go_wp2_with (first | ((with_reducible refine gate_callee (f := 42) rfl ?_); (try refine ug_ (by rfl) ?_); refine goesA_ (some 36) Try.func42 #[.int .u64 a0_0, .int .u64 a1] ?_; (with_reducible refine (bits_Mul64.calls a0_0 a1 t151 t152 _ A9.out).mono ?_); rintro e w' ⟨rfl, ⟨nd, rfl⟩⟩; refine ⟨_, rfl, ?_⟩) | ((with_reducible refine gate_callee (f := 43) rfl ?_); (try refine ug_ (by rfl) ?_); refine goesA_ (some 47) Try.func43 #[.int .u64 (Int.tmod t151 t149), .int .u64 t152, .int .u64 t149] ?_; (with_reducible refine (bits_Div64.calls kj3 (Int.tmod t151 t149) t152 t149 t153 t154 _ A12.out).mono ?_); rintro e w' ⟨rfl, ⟨nd, rfl⟩⟩; refine ⟨_, rfl, ?_⟩))
     go_ret2
     exact fi_
    ·rw [if_neg c10] at H
     have c10b0 : (t150 == 0) = false := beq_eq_false_iff_ne.mpr c10
     have c10b1 : (t150 != 0) = true := bne_iff_ne.mpr c10
     have H' := Aside0.mk H
     clear H
     replace hc148 := ce3_ BK148
     go_wp2_with (first | ((with_reducible refine gate_callee (f := 42) rfl ?_); (try refine ug_ (by rfl) ?_); refine goesA_ (some 36) Try.func42 #[.int .u64 a0_0, .int .u64 a1] ?_; (with_reducible refine (bits_Mul64.calls a0_0 a1 t151 t152 _ A9.out).mono ?_); rintro e w' ⟨rfl, ⟨nd, rfl⟩⟩; refine ⟨_, rfl, ?_⟩))
     go_loopg [12, 13, 14, 15] kj3 (fun kq v12 v13 v14 v15 w' => ∃ (x12_2 : Int) (x13_2 : Int) (x14_2 : Int) (x15_2 : Int), v12 = .int .u64 x12_2 ∧ v13 = .int .u64 x13_2 ∧ v14 = .int .u64 x14_2 ∧ v15 = .int .i64 x15_2 ∧ Aside0 (tally_Share.l0 kq t149 t150 t151 t152 x12_2 x13_2 x14_2 x15_2 = some (r1, r2)) ∧ Aside0 (kq ≤ kj3) ∧ Aside0 (w'.heap[gb148]? = some (.cells #[.int .u64 a0_0, .int .u64 a0_1, .int .u64 a0_2] 25 (0, 0))) ∧ Aside0 (Below w.heap.size w w'))
     case atStart => exact ⟨(0), (0), (0), (127), rf_, rf_, rf_, rf_, H', ⟨Nat.le_refl _⟩, ⟨bq_ BK148⟩, bw_⟩
     case round =>
      clear H'
      try clear c8
      try clear c10
      try clear c10b0
      try clear c10b1
      obtain ⟨x12_2, x13_2, x14_2, x15_2, rfl, rfl, rfl, rfl, HA, HK2, BK148, HB⟩ := hrel
      cases gk with
      | zero => exact absurd HA.out (by simp [tally_Share.l0])
      | succ k2 =>
       have H := HA.out
       clear HA
       simp only [tally_Share.l0] at H
       by_cases c15 : x15_2 ≥ 0
       ·rw [if_pos c15] at H
        have c15b0 : decide (0 ≤ x15_2) = true := decide_eq_true c15
        clear c15
        by_cases c16 : x15_2 ≥ 64
        ·rw [if_pos c16] at H
         have c16b0 : decide (64 ≤ x15_2) = true := decide_eq_true c16
         clear c16
         obtain ⟨ji17, hji17⟩ : ∃ j_ : Int, (wrap64 (x15_2 - 64)) = j_ := ⟨_, rfl⟩
         replace H : (if 0 ≤ (ji17) then (if (Go.bits .or .u64 (IntKind.u64.wrap (x14_2 * 2)) (x13_2 / 9223372036854775808)) > t150 then ((bits_Sub64.f (Go.bits .or .u64 (IntKind.u64.wrap (x13_2 * 2)) (Go.bits .and .u64 (shr .u64 t151 (ji17)) 1)) t149 0).bind fun bt155 => (tally_Share.l0 k2 t149 t150 t151 t152 (Go.bits .or .u64 (IntKind.u64.wrap (x12_2 * 2)) 1) bt155.1 (IntKind.u64.wrap ((Go.bits .or .u64 (IntKind.u64.wrap (x14_2 * 2)) (x13_2 / 9223372036854775808)) - (IntKind.u64.wrap (t150 + bt155.2)))) (wrap64 (x15_2 - 1)))) else (if (Go.bits .or .u64 (IntKind.u64.wrap (x14_2 * 2)) (x13_2 / 9223372036854775808)) = t150 then (if (Go.bits .or .u64 (IntKind.u64.wrap (x13_2 * 2)) (Go.bits .and .u64 (shr .u64 t151 (ji17)) 1)) ≥ t149 then ((bits_Sub64.f (Go.bits .or .u64 (IntKind.u64.wrap (x13_2 * 2)) (Go.bits .and .u64 (shr .u64 t151 (ji17)) 1)) t149 0).bind fun bt157 => (tally_Share.l0 k2 t149 t150 t151 t152 (Go.bits .or .u64 (IntKind.u64.wrap (x12_2 * 2)) 1) bt157.1 (IntKind.u64.wrap ((Go.bits .or .u64 (IntKind.u64.wrap (x14_2 * 2)) (x13_2 / 9223372036854775808)) - (IntKind.u64.wrap (t150 + bt157.2)))) (wrap64 (x15_2 - 1)))) else (tally_Share.l0 k2 t149 t150 t151 t152 (IntKind.u64.wrap (x12_2 * 2)) (Go.bits .or .u64 (IntKind.u64.wrap (x13_2 * 2)) (Go.bits .and .u64 (shr .u64 t151 (ji17)) 1)) (Go.bits .or .u64 (IntKind.u64.wrap (x14_2 * 2)) (x13_2 / 9223372036854775808)) (wrap64 (x15_2 - 1)))) else (tally_Share.l0 k2 t149 t150 t151 t152 (IntKind.u64.wrap (x12_2 * 2)) (Go.bits .or .u64 (IntKind.u64.wrap (x13_2 * 2)) (Go.bits .and .u64 (shr .u64 t151 (ji17)) 1)) (Go.bits .or .u64 (IntKind.u64.wrap (x14_2 * 2)) (x13_2 / 9223372036854775808)) (wrap64 (x15_2 - 1))))) else (none)) = some (r1, r2) := by first | (rw [hji17] at H; exact H) | (simp only [hji17] at H ⊢; exact H)
         have hji17w : (IntKind.i64.wrap (x15_2 - 64)) = ji17 := (i64_w _).trans hji17
         by_cases c18 : 0 ≤ (ji17)
         rotate_left
         ·rw [if_neg c18] at H; exact absurd H (by simp)
         rw [if_pos c18] at H
         have c18b0 := eq_true c18
         have c18b1 : decide (0 ≤ (ji17)) = true := decide_eq_true c18
         clear c18
         obtain ⟨ji19, hji19⟩ : ∃ j_ : Int, (shr .u64 t151 (ji17)) = j_ := ⟨_, rfl⟩
         replace H : (if (Go.bits .or .u64 (IntKind.u64.wrap (x14_2 * 2)) (x13_2 / 9223372036854775808)) > t150 then ((bits_Sub64.f (Go.bits .or .u64 (IntKind.u64.wrap (x13_2 * 2)) (Go.bits .and .u64 (ji19) 1)) t149 0).bind fun bt155 => (tally_Share.l0 k2 t149 t150 t151 t152 (Go.bits .or .u64 (IntKind.u64.wrap (x12_2 * 2)) 1) bt155.1 (IntKind.u64.wrap ((Go.bits .or .u64 (IntKind.u64.wrap (x14_2 * 2)) (x13_2 / 9223372036854775808)) - (IntKind.u64.wrap (t150 + bt155.2)))) (wrap64 (x15_2 - 1)))) else (if (Go.bits .or .u64 (IntKind.u64.wrap (x14_2 * 2)) (x13_2 / 9223372036854775808)) = t150 then (if (Go.bits .or .u64 (IntKind.u64.wrap (x13_2 * 2)) (Go.bits .and .u64 (ji19) 1)) ≥ t149 then ((bits_Sub64.f (Go.bits .or .u64 (IntKind.u64.wrap (x13_2 * 2)) (Go.bits .and .u64 (ji19) 1)) t149 0).bind fun bt157 => (tally_Share.l0 k2 t149 t150 t151 t152 (Go.bits .or .u64 (IntKind.u64.wrap (x12_2 * 2)) 1) bt157.1 (IntKind.u64.wrap ((Go.bits .or .u64 (IntKind.u64.wrap (x14_2 * 2)) (x13_2 / 9223372036854775808)) - (IntKind.u64.wrap (t150 + bt157.2)))) (wrap64 (x15_2 - 1)))) else (tally_Share.l0 k2 t149 t150 t151 t152 (IntKind.u64.wrap (x12_2 * 2)) (Go.bits .or .u64 (IntKind.u64.wrap (x13_2 * 2)) (Go.bits .and .u64 (ji19) 1)) (Go.bits .or .u64 (IntKind.u64.wrap (x14_2 * 2)) (x13_2 / 9223372036854775808)) (wrap64 (x15_2 - 1)))) else (tally_Share.l0 k2 t149 t150 t151 t152 (IntKind.u64.wrap (x12_2 * 2)) (Go.bits .or .u64 (IntKind.u64.wrap (x13_2 * 2)) (Go.bits .and .u64 (ji19) 1)) (Go.bits .or .u64 (IntKind.u64.wrap (x14_2 * 2)) (x13_2 / 9223372036854775808)) (wrap64 (x15_2 - 1))))) = some (r1, r2) := by first | (rw [hji19] at H; exact H) | (simp only [hji19] at H ⊢; exact H)
         have hji19_ : (t151 / 2 ^ min (ji17).toNat 64) = ji19 := hji19
         have hji19z : (ji17) ≤ 64 → (t151 / 2 ^ (ji17).toNat) = ji19 := shr_small hji19
         by_cases c20 : (Go.bits .or .u64 (IntKind.u64.wrap (x14_2 * 2)) (x13_2 / 9223372036854775808)) > t150
         ·rw [if_pos c20] at H
          have c20b0 : decide (t150 < (Go.bits .or .u64 (IntKind.u64.wrap (x14_2 * 2)) (x13_2 / 9223372036854775808))) = true := decide_eq_true c20
          clear c20
          have H0_ := bo_ H; clear H; obtain ⟨⟨t155, t156⟩, A21, H⟩ := H0_
          try dsimp only at H
          have H' := Aside0.mk H
          clear H
          go_wp2_with (first | ((with_reducible refine gate_callee (f := 44) rfl ?_); (try refine ug_ (by rfl) ?_); refine goesXL_ (some 95) rfl rfl #[.int .u64 (Go.bits .or .u64 (IntKind.u64.wrap (x13_2 * 2)) (Go.bits .and .u64 (ji19) 1)), .int .u64 t149, .int .u64 0] rfl (by (try simp only [List.map_toArray, List.map_cons, List.map_nil]); first | done | (simp only [hji19]; rfl) | rfl | (simp only [List.length_drop, List.length_take]; rfl)) ?_; (with_reducible refine (bits_Sub64.calls (Go.bits .or .u64 (IntKind.u64.wrap (x13_2 * 2)) (Go.bits .and .u64 (ji19) 1)) t149 0 t155 t156 _ A21.out).mono ?_); rintro e w' ⟨rfl, ⟨nd, rfl⟩⟩; refine ⟨_, rfl, ?_⟩))
          go_roundg k2
          case measure => have := HJ3.out; have := HK2.out; omega
          case rel => exact ⟨(Go.bits .or .u64 (IntKind.u64.wrap (x12_2 * 2)) 1), (t155), (IntKind.u64.wrap ((Go.bits .or .u64 (IntKind.u64.wrap (x14_2 * 2)) (x13_2 / 9223372036854775808)) - (IntKind.u64.wrap (t150 + t156)))), (wrap64 (x15_2 - 1)), rf_, rf_, rf_, rf_, H', ⟨by have := HJ3.out; have := HK2.out; omega⟩, ⟨bq_ BK148⟩, bw_⟩
         ·rw [if_neg c20] at H
          have c20b0 : decide (t150 < (Go.bits .or .u64 (IntKind.u64.wrap (x14_2 * 2)) (x13_2 / 9223372036854775808))) = false := decide_eq_false c20
          clear c20
          by_cases c22 : (Go.bits .or .u64 (IntKind.u64.wrap (x14_2 * 2)) (x13_2 / 9223372036854775808)) = t150
          ·rw [if_pos c22] at H
           have c22b0 : ((Go.bits .or .u64 (IntKind.u64.wrap (x14_2 * 2)) (x13_2 / 9223372036854775808)) == t150) = true := beq_iff_eq.mpr c22
           have c22b1 : ((Go.bits .or .u64 (IntKind.u64.wrap (x14_2 * 2)) (x13_2 / 9223372036854775808)) != t150) = false := bne_eq_false_iff_eq.mpr c22
           clear c22
           by_cases c23 : (Go.bits .or .u64 (IntKind.u64.wrap (x13_2 * 2)) (Go.bits .and .u64 (ji19) 1)) ≥ t149
           ·rw [if_pos c23] at H
            have c23b0 : decide (t149 ≤ (Go.bits .or .u64 (IntKind.u64.wrap (x13_2 * 2)) (Go.bits .and .u64 (ji19) 1))) = true := decide_eq_true c23
            clear c23
            have H0_ := bo_ H; clear H; obtain ⟨⟨t157, t158⟩, A24, H⟩ := H0_
            try dsimp only at H
            have H' := Aside0.mk H
            clear H
            go_wp2_with (first | ((with_reducible refine gate_callee (f := 44) rfl ?_); (try refine ug_ (by rfl) ?_); refine goesXL_ (some 95) rfl rfl #[.int .u64 (Go.bits .or .u64 (IntKind.u64.wrap (x13_2 * 2)) (Go.bits .and .u64 (ji19) 1)), .int .u64 t149, .int .u64 0] rfl (by (try simp only [List.map_toArray, List.map_cons, List.map_nil]); first | done | (simp only [hji19]; rfl) | rfl | (simp only [List.length_drop, List.length_take]; rfl)) ?_; (with_reducible refine (bits_Sub64.calls (Go.bits .or .u64 (IntKind.u64.wrap (x13_2 * 2)) (Go.bits .and .u64 (ji19) 1)) t149 0 t157 t158 _ A24.out).mono ?_); rintro e w' ⟨rfl, ⟨nd, rfl⟩⟩; refine ⟨_, rfl, ?_⟩))
            go_roundg k2
            case measure => have := HJ3.out; have := HK2.out; omega
            case rel => exact ⟨(Go.bits .or .u64 (IntKind.u64.wrap (x12_2 * 2)) 1), (t157), (IntKind.u64.wrap ((Go.bits .or .u64 (IntKind.u64.wrap (x14_2 * 2)) (x13_2 / 9223372036854775808)) - (IntKind.u64.wrap (t150 + t158)))), (wrap64 (x15_2 - 1)), rf_, rf_, rf_, rf_, H', ⟨by have := HJ3.out; have := HK2.out; omega⟩, ⟨bq_ BK148⟩, bw_⟩
           ·rw [if_neg c23] at H
            have c23b0 : decide (t149 ≤ (Go.bits .or .u64 (IntKind.u64.wrap (x13_2 * 2)) (Go.bits .and .u64 (ji19) 1))) = false := decide_eq_false c23
            clear c23
            have H' := Aside0.mk H
            clear H
            go_wp2
            go_roundg k2
            case measure => have := HJ3.out; have := HK2.out; omega
            case rel => exact ⟨(IntKind.u64.wrap (x12_2 * 2)), (Go.bits .or .u64 (IntKind.u64.wrap (x13_2 * 2)) (Go.bits .and .u64 (ji19) 1)), (Go.bits .or .u64 (IntKind.u64.wrap (x14_2 * 2)) (x13_2 / 9223372036854775808)), (wrap64 (x15_2 - 1)), rf_, (by first | rfl | (simp; done) | (simp only [← hji19] <;> (first | rfl | simp)) | (simp [*]; done)), rf_, rf_, H', ⟨by have := HJ3.out; have := HK2.out; omega⟩, ⟨bq_ BK148⟩, bw_⟩
          ·rw [if_neg c22] at H
           have c22b0 : ((Go.bits .or .u64 (IntKind.u64.wrap (x14_2 * 2)) (x13_2 / 9223372036854775808)) == t150) = false := beq_eq_false_iff_ne.mpr c22
           have c22b1 : ((Go.bits .or .u64 (IntKind.u64.wrap (x14_2 * 2)) (x13_2 / 9223372036854775808)) != t150) = true := bne_iff_ne.mpr c22
           have H' := Aside0.mk H
           clear H
           go_wp2
           go_roundg k2
           case measure => have := HJ3.out; have := HK2.out; omega
           case rel => exact ⟨(IntKind.u64.wrap (x12_2 * 2)), (Go.bits .or .u64 (IntKind.u64.wrap (x13_2 * 2)) (Go.bits .and .u64 (ji19) 1)), (Go.bits .or .u64 (IntKind.u64.wrap (x14_2 * 2)) (x13_2 / 9223372036854775808)), (wrap64 (x15_2 - 1)), rf_, (by first | rfl | (simp; done) | (simp only [← hji19] <;> (first | rfl | simp)) | (simp [*]; done)), rf_, rf_, H', ⟨by have := HJ3.out; have := HK2.out; omega⟩, ⟨bq_ BK148⟩, bw_⟩
        ·rw [if_neg c16] at H
         have c16b0 : decide (64 ≤ x15_2) = false := decide_eq_false c16
         clear c16
         by_cases c25 : 0 ≤ x15_2
         rotate_left
         ·rw [if_neg c25] at H; exact absurd H (by simp)
         rw [if_pos c25] at H
         have c25b0 := eq_true c25
         have c25b1 : decide (0 ≤ x15_2) = true := decide_eq_true c25
         clear c25
         obtain ⟨ji26, hji26⟩ : ∃ j_ : Int, (shr .u64 t152 x15_2) = j_ := ⟨_, rfl⟩
         replace H : (if (Go.bits .or .u64 (IntKind.u64.wrap (x14_2 * 2)) (x13_2 / 9223372036854775808)) > t150 then ((bits_Sub64.f (Go.bits .or .u64 (IntKind.u64.wrap (x13_2 * 2)) (Go.bits .and .u64 (ji26) 1)) t149 0).bind fun bt159 => (tally_Share.l0 k2 t149 t150 t151 t152 (Go.bits .or .u64 (IntKind.u64.wrap (x12_2 * 2)) 1) bt159.1 (IntKind.u64.wrap ((Go.bits .or .u64 (IntKind.u64.wrap (x14_2 * 2)) (x13_2 / 9223372036854775808)) - (IntKind.u64.wrap (t150 + bt159.2)))) (wrap64 (x15_2 - 1)))) else (if (Go.bits .or .u64 (IntKind.u64.wrap (x14_2 * 2)) (x13_2 / 9223372036854775808)) = t150 then (if (Go.bits .or .u64 (IntKind.u64.wrap (x13_2 * 2)) (Go.bits .and .u64 (ji26) 1)) ≥ t149 then ((bits_Sub64.f (Go.bits .or .u64 (IntKind.u64.wrap (x13_2 * 2)) (Go.bits .and .u64 (ji26) 1)) t149 0).bind fun bt161 => (tally_Share.l0 k2 t149 t150 t151 t152 (Go.bits .or .u64 (IntKind.u64.wrap (x12_2 * 2)) 1) bt161.1 (IntKind.u64.wrap ((Go.bits .or .u64 (IntKind.u64.wrap (x14_2 * 2)) (x13_2 / 9223372036854775808)) - (IntKind.u64.wrap (t150 + bt161.2)))) (wrap64 (x15_2 - 1)))) else (tally_Share.l0 k2 t149 t150 t151 t152 (IntKind.u64.wrap (x12_2 * 2)) (Go.bits .or .u64 (IntKind.u64.wrap (x13_2 * 2)) (Go.bits .and .u64 (ji26) 1)) (Go.bits .or .u64 (IntKind.u64.wrap (x14_2 * 2)) (x13_2 / 9223372036854775808)) (wrap64 (x15_2 - 1)))) else (tally_Share.l0 k2 t149 t150 t151 t152 (IntKind.u64.wrap (x12_2 * 2)) (Go.bits .or .u64 (IntKind.u64.wrap (x13_2 * 2)) (Go.bits .and .u64 (ji26) 1)) (Go.bits .or .u64 (IntKind.u64.wrap (x14_2 * 2)) (x13_2 / 9223372036854775808)) (wrap64 (x15_2 - 1))))) = some (r1, r2) := by first | (rw [hji26] at H; exact H) | (simp only [hji26] at H ⊢; exact H)
         have hji26_ : (t152 / 2 ^ min x15_2.toNat 64) = ji26 := hji26
         have hji26z : x15_2 ≤ 64 → (t152 / 2 ^ x15_2.toNat) = ji26 := shr_small hji26
         by_cases c27 : (Go.bits .or .u64 (IntKind.u64.wrap (x14_2 * 2)) (x13_2 / 9223372036854775808)) > t150
         ·rw [if_pos c27] at H
          have c27b0 : decide (t150 < (Go.bits .or .u64 (IntKind.u64.wrap (x14_2 * 2)) (x13_2 / 9223372036854775808))) = true := decide_eq_true c27
          clear c27
          have H0_ := bo_ H; clear H; obtain ⟨⟨t159, t160⟩, A28, H⟩ := H0_
          try dsimp only at H
          have H' := Aside0.mk H
          clear H
          go_wp2_with (first | ((with_reducible refine gate_callee (f := 44) rfl ?_); (try refine ug_ (by rfl) ?_); refine goesXL_ (some 95) rfl rfl #[.int .u64 (Go.bits .or .u64 (IntKind.u64.wrap (x13_2 * 2)) (Go.bits .and .u64 (ji26) 1)), .int .u64 t149, .int .u64 0] rfl (by (try simp only [List.map_toArray, List.map_cons, List.map_nil]); first | done | (simp only [hji26]; rfl) | rfl | (simp only [List.length_drop, List.length_take]; rfl)) ?_; (with_reducible refine (bits_Sub64.calls (Go.bits .or .u64 (IntKind.u64.wrap (x13_2 * 2)) (Go.bits .and .u64 (ji26) 1)) t149 0 t159 t160 _ A28.out).mono ?_); rintro e w' ⟨rfl, ⟨nd, rfl⟩⟩; refine ⟨_, rfl, ?_⟩))
          go_roundg k2
          case measure => have := HJ3.out; have := HK2.out; omega
          case rel => exact ⟨(Go.bits .or .u64 (IntKind.u64.wrap (x12_2 * 2)) 1), (t159), (IntKind.u64.wrap ((Go.bits .or .u64 (IntKind.u64.wrap (x14_2 * 2)) (x13_2 / 9223372036854775808)) - (IntKind.u64.wrap (t150 + t160)))), (wrap64 (x15_2 - 1)), rf_, rf_, rf_, rf_, H', ⟨by have := HJ3.out; have := HK2.out; omega⟩, ⟨bq_ BK148⟩, bw_⟩
         ·rw [if_neg c27] at H
          have c27b0 : decide (t150 < (Go.bits .or .u64 (IntKind.u64.wrap (x14_2 * 2)) (x13_2 / 9223372036854775808))) = false := decide_eq_false c27
          clear c27
          by_cases c29 : (Go.bits .or .u64 (IntKind.u64.wrap (x14_2 * 2)) (x13_2 / 9223372036854775808)) = t150
          ·rw [if_pos c29] at H
           have c29b0 : ((Go.bits .or .u64 (IntKind.u64.wrap (x14_2 * 2)) (x13_2 / 9223372036854775808)) == t150) = true := beq_iff_eq.mpr c29
           have c29b1 : ((Go.bits .or .u64 (IntKind.u64.wrap (x14_2 * 2)) (x13_2 / 9223372036854775808)) != t150) = false := bne_eq_false_iff_eq.mpr c29
           clear c29
           by_cases c30 : (Go.bits .or .u64 (IntKind.u64.wrap (x13_2 * 2)) (Go.bits .and .u64 (ji26) 1)) ≥ t149
           ·rw [if_pos c30] at H
            have c30b0 : decide (t149 ≤ (Go.bits .or .u64 (IntKind.u64.wrap (x13_2 * 2)) (Go.bits .and .u64 (ji26) 1))) = true := decide_eq_true c30
            clear c30
            have H0_ := bo_ H; clear H; obtain ⟨⟨t161, t162⟩, A31, H⟩ := H0_
            try dsimp only at H
            have H' := Aside0.mk H
            clear H
            go_wp2_with (first | ((with_reducible refine gate_callee (f := 44) rfl ?_); (try refine ug_ (by rfl) ?_); refine goesXL_ (some 95) rfl rfl #[.int .u64 (Go.bits .or .u64 (IntKind.u64.wrap (x13_2 * 2)) (Go.bits .and .u64 (ji26) 1)), .int .u64 t149, .int .u64 0] rfl (by (try simp only [List.map_toArray, List.map_cons, List.map_nil]); first | done | (simp only [hji26]; rfl) | rfl | (simp only [List.length_drop, List.length_take]; rfl)) ?_; (with_reducible refine (bits_Sub64.calls (Go.bits .or .u64 (IntKind.u64.wrap (x13_2 * 2)) (Go.bits .and .u64 (ji26) 1)) t149 0 t161 t162 _ A31.out).mono ?_); rintro e w' ⟨rfl, ⟨nd, rfl⟩⟩; refine ⟨_, rfl, ?_⟩))
            go_roundg k2
            case measure => have := HJ3.out; have := HK2.out; omega
            case rel => exact ⟨(Go.bits .or .u64 (IntKind.u64.wrap (x12_2 * 2)) 1), (t161), (IntKind.u64.wrap ((Go.bits .or .u64 (IntKind.u64.wrap (x14_2 * 2)) (x13_2 / 9223372036854775808)) - (IntKind.u64.wrap (t150 + t162)))), (wrap64 (x15_2 - 1)), rf_, rf_, rf_, rf_, H', ⟨by have := HJ3.out; have := HK2.out; omega⟩, ⟨bq_ BK148⟩, bw_⟩
           ·rw [if_neg c30] at H
            have c30b0 : decide (t149 ≤ (Go.bits .or .u64 (IntKind.u64.wrap (x13_2 * 2)) (Go.bits .and .u64 (ji26) 1))) = false := decide_eq_false c30
            clear c30
            have H' := Aside0.mk H
            clear H
            go_wp2
            go_roundg k2
            case measure => have := HJ3.out; have := HK2.out; omega
            case rel => exact ⟨(IntKind.u64.wrap (x12_2 * 2)), (Go.bits .or .u64 (IntKind.u64.wrap (x13_2 * 2)) (Go.bits .and .u64 (ji26) 1)), (Go.bits .or .u64 (IntKind.u64.wrap (x14_2 * 2)) (x13_2 / 9223372036854775808)), (wrap64 (x15_2 - 1)), rf_, (by first | rfl | (simp; done) | (simp only [← hji26] <;> (first | rfl | simp)) | (simp [*]; done)), rf_, rf_, H', ⟨by have := HJ3.out; have := HK2.out; omega⟩, ⟨bq_ BK148⟩, bw_⟩
          ·rw [if_neg c29] at H
           have c29b0 : ((Go.bits .or .u64 (IntKind.u64.wrap (x14_2 * 2)) (x13_2 / 9223372036854775808)) == t150) = false := beq_eq_false_iff_ne.mpr c29
           have c29b1 : ((Go.bits .or .u64 (IntKind.u64.wrap (x14_2 * 2)) (x13_2 / 9223372036854775808)) != t150) = true := bne_iff_ne.mpr c29
           have H' := Aside0.mk H
           clear H
           go_wp2
           go_roundg k2
           case measure => have := HJ3.out; have := HK2.out; omega
           case rel => exact ⟨(IntKind.u64.wrap (x12_2 * 2)), (Go.bits .or .u64 (IntKind.u64.wrap (x13_2 * 2)) (Go.bits .and .u64 (ji26) 1)), (Go.bits .or .u64 (IntKind.u64.wrap (x14_2 * 2)) (x13_2 / 9223372036854775808)), (wrap64 (x15_2 - 1)), rf_, (by first | rfl | (simp; done) | (simp only [← hji26] <;> (first | rfl | simp)) | (simp [*]; done)), rf_, rf_, H', ⟨by have := HJ3.out; have := HK2.out; omega⟩, ⟨bq_ BK148⟩, bw_⟩
       ·rw [if_neg c15] at H
        have c15b0 : decide (0 ≤ x15_2) = false := decide_eq_false c15
        clear c15
        simp only [Option.some.injEq, Prod.mk.injEq] at H
        obtain ⟨rfl, rfl⟩ := H
        go_wp2
        go_ret2
        exact fi_

end Go.Proofs.Ytcdmjdghmbdikaa.X
