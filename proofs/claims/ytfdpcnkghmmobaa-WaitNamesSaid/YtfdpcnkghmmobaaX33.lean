-- written by xprint.py, a program of this session over the kit's print
import Derived.Test.YtfdpcnkghmmobaaX0
import Derived.Test.YtfdpcnkghmmobaaX11
import Derived.Test.YtfdpcnkghmmobaaX16
import Derived.Test.YtfdpcnkghmmobaaX32
namespace Go.Proofs.Ytfdpcnkghmmobaa.X
open Go.RowKit Go.Proofs.YtfdpcnkghmmobaaW.PrintWords Go.Proofs.YtfdpcnkghmmobaaW.PrintLast Go.Proofs.YtfdpcnkghmmobaaW.PrintMore
attribute [local go_sem] max2_int min2_int max_two min_two max_three min_three max_four min_four   -- for this text's walks alone
set_option linter.unusedVariables false
set_option linter.unusedSimpArgs false

/-! ### wait_First: function 16 -/
def wait_First.l0 : Nat → Int → Int → Int → List (S63) → Int → Int → Option (Int × Int)
  | 0, _, _, _, _, _, _ => none
  | k + 1, x1, x2, x9, x23, x24, x25 => if x25 < x24 then (if 0 ≤ x25 then (if x25 < (x23.length : Int) then ((bucket_Refill.f k ((rd_T63 x23 x25).f0.f0) ((rd_T63 x23 x25).f0.f1) ((rd_T63 x23 x25).f0.f2) ((rd_T63 x23 x25).f1) ((rd_T63 x23 x25).f2) ((rd_T63 x23 x25).f3) x1).bind fun bt344 => (if bt344.2.2.2.2.2.2 = 0 then ((bucket_Wait.f k bt344.1 bt344.2.1 bt344.2.2.1 bt344.2.2.2.1 bt344.2.2.2.2.1 bt344.2.2.2.2.2.1 x2).bind fun bt352 => (if bt352.2 = 0 then (if bt352.1 = 0 then (wait_First.l0 k x1 x2 x9 x23 x24 (wrap64 (x25 + 1))) else (if bt352.1 = 18446744073709551615 then (some (0, 6)) else (wait_First.l0 k x1 x2 (mx x9 (IntKind.u64.wrap (bt344.2.2.2.2.2.1 + bt352.1))) x23 x24 (wrap64 (x25 + 1))))) else (some (0, bt352.2)))) else (some (0, bt344.2.2.2.2.2.2)))) else (none)) else (none)) else (some (x9, 0))
def wait_First.f (k : Nat) (l0 : List (S63)) (a1 : Int) (a2 : Int) : Option (Int × Int) := (wait_both.f k l0 (([a2] : List Int))).bind fun t341 => (if t341 = 0 then (wait_First.l0 k a1 a2 a1 l0 (l0.length : Int) 0) else (some (0, t341)))
theorem wait_First.mono_l : ∀ k, (∀ y0 y1 y2 y3 y4 y5, LeO (wait_First.l0 k y0 y1 y2 y3 y4 y5) (wait_First.l0 (k + 1) y0 y1 y2 y3 y4 y5))
  | 0 => fun _ _ _ _ _ _ r h => by simp [wait_First.l0] at h
  | k + 1 => by
    have ih0 := wait_First.mono_l k
    · intro y0 y1 y2 y3 y4 y5
      unfold wait_First.l0
      repeat' first
      | (with_reducible exact ih0 _ _ _ _ _ _)
      | (with_reducible exact bucket_Refill.mono _ _ _ _ _ _ _ _)
      | (with_reducible exact bucket_Wait.mono _ _ _ _ _ _ _ _)
      | (with_reducible exact wait_both.mono _ _ _)
      | (with_reducible exact LeO.refl _)
      | (with_reducible exact LeO.none _)
      | (with_reducible refine LeO.ite ?_ ?_)
      | (with_reducible refine LeO.bind ?_ (fun _ => ?_))
      | exact ih0 _ _ _ _ _ _
      | exact bucket_Refill.mono _ _ _ _ _ _ _ _
      | exact bucket_Wait.mono _ _ _ _ _ _ _ _
      | exact wait_both.mono _ _ _
      | exact LeO.none _
      | refine LeO.ite ?_ ?_
      | refine LeO.bind ?_ (fun _ => ?_)
theorem wait_First.mono : ∀ a0 a1 a2 k, LeO (wait_First.f k a0 a1 a2) (wait_First.f (k + 1) a0 a1 a2) := by
  intro a0 a1 a2 k
  have ih0 := wait_First.mono_l k
  unfold wait_First.f
  repeat' first
      | (with_reducible exact ih0 _ _ _ _ _ _)
      | (with_reducible exact bucket_Refill.mono _ _ _ _ _ _ _ _)
      | (with_reducible exact bucket_Wait.mono _ _ _ _ _ _ _ _)
      | (with_reducible exact wait_both.mono _ _ _)
      | (with_reducible exact LeO.refl _)
      | (with_reducible exact LeO.none _)
      | (with_reducible refine LeO.ite ?_ ?_)
      | (with_reducible refine LeO.bind ?_ (fun _ => ?_))
      | exact ih0 _ _ _ _ _ _
      | exact bucket_Refill.mono _ _ _ _ _ _ _ _
      | exact bucket_Wait.mono _ _ _ _ _ _ _ _
      | exact wait_both.mono _ _ _
      | exact LeO.none _
      | refine LeO.ite ?_ ?_
      | refine LeO.bind ?_ (fun _ => ?_)
set_option maxHeartbeats 8000000 in
set_option maxRecDepth 100000 in
theorem wait_First.calls (k : Nat) (A0 : Option Addr) (c0 : Nat) (l0 : List (S63)) (a1 : Int) (a2 : Int) (r1 : Int) (r2 : Int) (w : World) (hr0 : Kd.C k63 w A0 l0.length l0) (hc0 : l0.length ≤ c0) (h : wait_First.f k l0 a1 a2 = some (r1, r2)) :
  Calls Try.prog 16 #[.slice A0 l0.length c0, .int .u64 a1, .int .i64 a2] w fun e w' => e = .returned (.tuple #[.int .u64 r1, .int .i64 r2]) ∧ Below w.heap.size w w' := by
 have hu63 := Try.underlying63
 have HR0 := Aside0.mk hr0
 have HC0 := Aside0.mk hc0
 clear hr0 hc0
 have HB := Aside0.mk (Below.refl w.heap.size w)
 have H : ((wait_both.f k l0 (([a2] : List Int))).bind fun t341 => (if t341 = 0 then (wait_First.l0 k a1 a2 a1 l0 (l0.length : Int) 0) else (some (0, t341)))) = some (r1, r2) := h
 clear h
 obtain ⟨y338, hy338⟩ : ∃ y_ : List Int, y_ = (([a2] : List Int)) := ⟨_, rfl⟩
 replace H : ((wait_both.f k l0 y338).bind fun t341 => (if t341 = 0 then (wait_First.l0 k a1 a2 a1 l0 (l0.length : Int) 0) else (some (0, t341)))) = some (r1, r2) := by first | (rw [hy338]; with_reducible exact H) | (have H2_ := (Option.bind_some _ _).symm.trans H; rw [hy338]; with_reducible exact H2_) | (have H2_ := (Option.bind_some _ _).symm.trans H; with_reducible exact H2_) | with_reducible exact H | (rw [hy338]; exact H) | exact H
 have Ny338 := Aside0.mk hy338
 clear hy338
 have H0_ := bo_ H; clear H; obtain ⟨t341, A4, H⟩ := H0_
 replace H : (if t341 = 0 then (wait_First.l0 k a1 a2 a1 l0 (l0.length : Int) 0) else (some (0, t341))) = some (r1, r2) := H
 by_cases c5 : t341 = 0
 ·rw [if_pos c5] at H
  have c5b0 : (t341 == 0) = true := beq_iff_eq.mpr c5
  have c5b1 : (t341 != 0) = false := bne_eq_false_iff_eq.mpr c5
  clear c5
  have H' := Aside0.mk H
  clear H
  go_enter Try.func16, Try.ntmps16
  go_wp2_with (first | ((with_reducible refine gate_dst (N := 17) rfl ?_); refine Kd.R_lit (Kd.int .i64) _ 2 ?hg (N := 17) ?hd (xs := ([a2] : List Int)) (inner := [.int .i64 a2]) (ok := fun _ => True) (okp := fun _ => True) ?hr ?hp (fun _ hk => hk) trivial (Below.refl _ _) (Nat.le_refl _) (by simp) ?_; (case hd => rfl); (case hg => rfl); (case hr => first | (go_simp; done) | (go_simp; rfl)); (case hp => exact (Reps.one (show Kd.M (Kd.int .i64) _ _ _ a2 [.int .i64 a2] from rfl) (Reps.none _ _))); intro v339 w6 ho7 hb hg_ hnew_; clear hg_ hnew_; (first | rw [← Ny338.out] at ho7 | (simp only [Int.reduceToNat] at ho7; rw [← Ny338.out] at ho7)); have HO340 := Aside0.mk (Kd.R_lower ho7 (below_size (hq_ HB))); replace HB := bs_ w hb; clear hb ho7; obtain ⟨Ao8, co8, eo8⟩ := Kd.R_slice HO340.out; subst eo8) | ((with_reducible refine gate_callee (f := 30) rfl ?_); refine goesA_ (some 18) Try.func30 #[.slice A0 l0.length c0, .slice Ao8 y338.length co8] ?_; (with_reducible refine (wait_both.calls k _ _ l0 _ _ y338 t341 _ ?side1 ?side2 ?side3 ?side4 A4.out).mono ?_); (case side1 => exact cs_ HR0 HB); (case side2 => exact HC0.out); (case side3 => exact cr_ HO340); (case side4 => exact (Kd.R_reads' HO340.out).2.1); rintro e w9 ⟨rfl, hb⟩; refine ⟨_, rfl, ?_⟩; replace HO340 := rb_ HO340 hb; replace HB := bs_ w hb; clear hb))
  go_loopg [9, 25] k (fun kq v9 v25 w' => ∃ (x9_1 : Int) (x25_1 : Int), v9 = .int .u64 x9_1 ∧ v25 = .int .i64 x25_1 ∧ Aside0 (wait_First.l0 kq a1 a2 x9_1 l0 (l0.length : Int) x25_1 = some (r1, r2)) ∧ Aside0 (kq ≤ k) ∧ Aside0 (Below w.heap.size w w'))
  case atStart => exact ⟨(a1), (0), rf_, rf_, H', ⟨Nat.le_refl _⟩, bw_⟩
  case round =>
   clear H'
   try clear c5
   try clear c5b0
   try clear c5b1
   obtain ⟨x9_1, x25_1, rfl, rfl, HA, HK1, HB⟩ := hrel
   cases gk with
   | zero => exact absurd HA.out (by simp [wait_First.l0])
   | succ k1 =>
    have H := HA.out
    clear HA
    simp only [wait_First.l0] at H
    by_cases c10 : x25_1 < (l0.length : Int)
    ·rw [if_pos c10] at H
     have c10b0 : decide (x25_1 < (l0.length : Int)) = true := decide_eq_true c10
     clear c10
     by_cases c11 : 0 ≤ x25_1
     rotate_left
     ·rw [if_neg c11] at H; exact absurd H (by simp)
     rw [if_pos c11] at H
     have c11b0 : decide (0 ≤ x25_1) = true := decide_eq_true c11
     clear c11
     by_cases c12 : x25_1 < (l0.length : Int)
     rotate_left
     ·rw [if_neg c12] at H; exact absurd H (by simp)
     rw [if_pos c12] at H
     have c12b0 : decide (x25_1 < (l0.length : Int)) = true := decide_eq_true c12
     clear c12
     have H0_ := bo_ H; clear H; obtain ⟨⟨t344, t345, t346, t347, t348, t349, t350⟩, A13, H⟩ := H0_
     try dsimp only at H
     by_cases c14 : t350 = 0
     ·rw [if_pos c14] at H
      have c14b0 : (t350 == 0) = true := beq_iff_eq.mpr c14
      have c14b1 : (t350 != 0) = false := bne_eq_false_iff_eq.mpr c14
      clear c14
      have H0_ := bo_ H; clear H; obtain ⟨⟨t352, t353⟩, A15, H⟩ := H0_
      try dsimp only at H
      by_cases c16 : t353 = 0
      ·rw [if_pos c16] at H
       have c16b0 : (t353 == 0) = true := beq_iff_eq.mpr c16
       have c16b1 : (t353 != 0) = false := bne_eq_false_iff_eq.mpr c16
       clear c16
       by_cases c17 : t352 = 0
       ·rw [if_pos c17] at H
        have c17b0 : (t352 == 0) = true := beq_iff_eq.mpr c17
        have c17b1 : (t352 != 0) = false := bne_eq_false_iff_eq.mpr c17
        clear c17
        have H' := Aside0.mk H
        clear H
        have p342 : 0 ≤ (x25_1 : Int) := of_decide_eq_true (by first | (with_reducible assumption) | assumption)
        have q342 : x25_1 < (l0.length : Int) := of_decide_eq_true (by first | (with_reducible assumption) | assumption)
        obtain ⟨ad342, e342, hx342_0, hx342_1, hx342_2, hx342_3, hx342_4, hx342_5⟩ := at_T63 HR0.out x25_1 p342 q342
        cases e342
        replace hx342_0 := (HB.out.cell (World.block_lt_of_cell? w _ hx342_0)).trans hx342_0
        replace hx342_1 := (HB.out.cell (World.block_lt_of_cell? w _ hx342_1)).trans hx342_1
        replace hx342_2 := (HB.out.cell (World.block_lt_of_cell? w _ hx342_2)).trans hx342_2
        replace hx342_3 := (HB.out.cell (World.block_lt_of_cell? w _ hx342_3)).trans hx342_3
        replace hx342_4 := (HB.out.cell (World.block_lt_of_cell? w _ hx342_4)).trans hx342_4
        replace hx342_5 := (HB.out.cell (World.block_lt_of_cell? w _ hx342_5)).trans hx342_5
        replace p342 := eq_true p342
        replace q342 := eq_true q342
        go_wp2_with (first | ((with_reducible refine gate_dst (N := 11) rfl ?_); refine bx_ #[.int .i64 0, .int .i64 0, .int .i64 0, .int .i64 0, .int .i64 0, .int .u64 0] 63 ?_; intro gb343 hg w18 BK343 hb; have GW343 := bz_ w hg; have GE343 := GW343; replace HB := bs_ w hb; clear hb hg; replace hc343 := ce6_ BK343) | ((with_reducible refine gate_callee (f := 36) rfl ?_); refine goesA_ (some 32) Try.func36 #[.agg #[.int .i64 ((rd_T63 l0 x25_1).f0.f0), .int .i64 ((rd_T63 l0 x25_1).f0.f1), .int .i64 ((rd_T63 l0 x25_1).f0.f2), .int .i64 ((rd_T63 l0 x25_1).f1), .int .i64 ((rd_T63 l0 x25_1).f2), .int .u64 ((rd_T63 l0 x25_1).f3)], .int .u64 a1] ?_; (with_reducible refine (bucket_Refill.calls k1 ((rd_T63 l0 x25_1).f0.f0) ((rd_T63 l0 x25_1).f0.f1) ((rd_T63 l0 x25_1).f0.f2) ((rd_T63 l0 x25_1).f1) ((rd_T63 l0 x25_1).f2) ((rd_T63 l0 x25_1).f3) a1 t344 t345 t346 t347 t348 t349 t350 _ A13.out).mono ?_); rintro e w20 ⟨rfl, hb⟩; refine ⟨_, rfl, ?_⟩; replace BK343 := Aside0.mk (blk_below (g := gb343) (o := .cells #[.int .i64 ((rd_T63 l0 x25_1).f0.f0), .int .i64 ((rd_T63 l0 x25_1).f0.f1), .int .i64 ((rd_T63 l0 x25_1).f0.f2), .int .i64 ((rd_T63 l0 x25_1).f1), .int .i64 ((rd_T63 l0 x25_1).f2), .int .u64 ((rd_T63 l0 x25_1).f3)] 63 (0, 0)) (bp6_ (bq_ BK343)) hb); replace HB := bs_ w hb; clear hb) | ((with_reducible refine gate_dst (N := 12) rfl ?_); refine bx_ #[.int .i64 0, .int .i64 0, .int .i64 0, .int .i64 0, .int .i64 0, .int .u64 0] 63 ?_; intro gb351 hg w21 BK351 hb; have GW351 := bz_ w hg; have GE351 := GW351; have NB343_351 := bn_ BK343 hg; have NB351_343 := bm_ BK343 hg; replace BK343 := bb_ BK343 hb; replace HB := bs_ w hb; clear hb hg; replace hn351_343 := NB351_343.out; replace hn343_351 := NB343_351.out; replace hc351 := ce6_ BK351) | ((with_reducible refine gate_callee (f := 37) rfl ?_); refine goesA_ (some 41) Try.func37 #[.agg #[.int .i64 t344, .int .i64 t345, .int .i64 t346, .int .i64 t347, .int .i64 t348, .int .u64 t349], .int .i64 a2] ?_; (with_reducible refine (bucket_Wait.calls k1 t344 t345 t346 t347 t348 t349 a2 t352 t353 _ A15.out).mono ?_); rintro e w24 ⟨rfl, hb⟩; refine ⟨_, rfl, ?_⟩; replace BK343 := bf_ BK343 hb; replace BK351 := Aside0.mk (blk_below (g := gb351) (o := .cells #[.int .i64 t344, .int .i64 t345, .int .i64 t346, .int .i64 t347, .int .i64 t348, .int .u64 t349] 63 (0, 0)) (bp6_ (bq_ BK351)) hb); replace HB := bs_ w hb; clear hb))
        go_roundg k1
        case measure => have := HK1.out; omega
        case rel => exact ⟨(x9_1), (wrap64 (x25_1 + 1)), rf_, rf_, H', ⟨by have := HK1.out; omega⟩, bw_⟩
       ·rw [if_neg c17] at H
        have c17b0 : (t352 == 0) = false := beq_eq_false_iff_ne.mpr c17
        have c17b1 : (t352 != 0) = true := bne_iff_ne.mpr c17
        by_cases c25 : t352 = 18446744073709551615
        ·rw [if_pos c25] at H
         have c25b0 : (t352 == 18446744073709551615) = true := beq_iff_eq.mpr c25
         have c25b1 : (t352 != 18446744073709551615) = false := bne_eq_false_iff_eq.mpr c25
         clear c25
         simp only [Option.some.injEq, Prod.mk.injEq] at H
         obtain ⟨rfl, rfl⟩ := H
         have p342 : 0 ≤ (x25_1 : Int) := of_decide_eq_true (by first | (with_reducible assumption) | assumption)
         have q342 : x25_1 < (l0.length : Int) := of_decide_eq_true (by first | (with_reducible assumption) | assumption)
         obtain ⟨ad342, e342, hx342_0, hx342_1, hx342_2, hx342_3, hx342_4, hx342_5⟩ := at_T63 HR0.out x25_1 p342 q342
         cases e342
         replace hx342_0 := (HB.out.cell (World.block_lt_of_cell? w _ hx342_0)).trans hx342_0
         replace hx342_1 := (HB.out.cell (World.block_lt_of_cell? w _ hx342_1)).trans hx342_1
         replace hx342_2 := (HB.out.cell (World.block_lt_of_cell? w _ hx342_2)).trans hx342_2
         replace hx342_3 := (HB.out.cell (World.block_lt_of_cell? w _ hx342_3)).trans hx342_3
         replace hx342_4 := (HB.out.cell (World.block_lt_of_cell? w _ hx342_4)).trans hx342_4
         replace hx342_5 := (HB.out.cell (World.block_lt_of_cell? w _ hx342_5)).trans hx342_5
         replace p342 := eq_true p342
         replace q342 := eq_true q342
         go_wp2_with (first | ((with_reducible refine gate_dst (N := 11) rfl ?_); refine bx_ #[.int .i64 0, .int .i64 0, .int .i64 0, .int .i64 0, .int .i64 0, .int .u64 0] 63 ?_; intro gb343 hg w26 BK343 hb; have GW343 := bz_ w hg; have GE343 := GW343; replace HB := bs_ w hb; clear hb hg; replace hc343 := ce6_ BK343) | ((with_reducible refine gate_callee (f := 36) rfl ?_); refine goesA_ (some 32) Try.func36 #[.agg #[.int .i64 ((rd_T63 l0 x25_1).f0.f0), .int .i64 ((rd_T63 l0 x25_1).f0.f1), .int .i64 ((rd_T63 l0 x25_1).f0.f2), .int .i64 ((rd_T63 l0 x25_1).f1), .int .i64 ((rd_T63 l0 x25_1).f2), .int .u64 ((rd_T63 l0 x25_1).f3)], .int .u64 a1] ?_; (with_reducible refine (bucket_Refill.calls k1 ((rd_T63 l0 x25_1).f0.f0) ((rd_T63 l0 x25_1).f0.f1) ((rd_T63 l0 x25_1).f0.f2) ((rd_T63 l0 x25_1).f1) ((rd_T63 l0 x25_1).f2) ((rd_T63 l0 x25_1).f3) a1 t344 t345 t346 t347 t348 t349 t350 _ A13.out).mono ?_); rintro e w28 ⟨rfl, hb⟩; refine ⟨_, rfl, ?_⟩; replace BK343 := Aside0.mk (blk_below (g := gb343) (o := .cells #[.int .i64 ((rd_T63 l0 x25_1).f0.f0), .int .i64 ((rd_T63 l0 x25_1).f0.f1), .int .i64 ((rd_T63 l0 x25_1).f0.f2), .int .i64 ((rd_T63 l0 x25_1).f1), .int .i64 ((rd_T63 l0 x25_1).f2), .int .u64 ((rd_T63 l0 x25_1).f3)] 63 (0, 0)) (bp6_ (bq_ BK343)) hb); replace HB := bs_ w hb; clear hb) | ((with_reducible refine gate_dst (N := 12) rfl ?_); refine bx_ #[.int .i64 0, .int .i64 0, .int .i64 0, .int .i64 0, .int .i64 0, .int .u64 0] 63 ?_; intro gb351 hg w29 BK351 hb; have GW351 := bz_ w hg; have GE351 := GW351; have NB343_351 := bn_ BK343 hg; have NB351_343 := bm_ BK343 hg; replace BK343 := bb_ BK343 hb; replace HB := bs_ w hb; clear hb hg; replace hn351_343 := NB351_343.out; replace hn343_351 := NB343_351.out; replace hc351 := ce6_ BK351) | ((with_reducible refine gate_callee (f := 37) rfl ?_); refine goesA_ (some 41) Try.func37 #[.agg #[.int .i64 t344, .int .i64 t345, .int .i64 t346, .int .i64 t347, .int .i64 t348, .int .u64 t349], .int .i64 a2] ?_; (with_reducible refine (bucket_Wait.calls k1 t344 t345 t346 t347 t348 t349 a2 t352 t353 _ A15.out).mono ?_); rintro e w32 ⟨rfl, hb⟩; refine ⟨_, rfl, ?_⟩; replace BK343 := bf_ BK343 hb; replace BK351 := Aside0.mk (blk_below (g := gb351) (o := .cells #[.int .i64 t344, .int .i64 t345, .int .i64 t346, .int .i64 t347, .int .i64 t348, .int .u64 t349] 63 (0, 0)) (bp6_ (bq_ BK351)) hb); replace HB := bs_ w hb; clear hb))
         go_ret2
         exact fi_
        ·rw [if_neg c25] at H
         have c25b0 : (t352 == 18446744073709551615) = false := beq_eq_false_iff_ne.mpr c25
         have c25b1 : (t352 != 18446744073709551615) = true := bne_iff_ne.mpr c25
         obtain ⟨ji33, hji33⟩ : ∃ j_ : Int, (mx x9_1 (IntKind.u64.wrap (t349 + t352))) = j_ := ⟨_, rfl⟩
         replace H : (wait_First.l0 k1 a1 a2 ji33 l0 (l0.length : Int) (wrap64 (x25_1 + 1))) = some (r1, r2) := by first | (rw [hji33] at H; exact H) | (simp only [hji33] at H ⊢; exact H)
         (try rw [hji33] at A13)
         (try rw [hji33] at A15)
         have hji33_ : (if x9_1 < (IntKind.u64.wrap (t349 + t352)) then (IntKind.u64.wrap (t349 + t352)) else x9_1) = ji33 := hji33
         have H' := Aside0.mk H
         clear H
         have p342 : 0 ≤ (x25_1 : Int) := of_decide_eq_true (by first | (with_reducible assumption) | assumption)
         have q342 : x25_1 < (l0.length : Int) := of_decide_eq_true (by first | (with_reducible assumption) | assumption)
         obtain ⟨ad342, e342, hx342_0, hx342_1, hx342_2, hx342_3, hx342_4, hx342_5⟩ := at_T63 HR0.out x25_1 p342 q342
         cases e342
         replace hx342_0 := (HB.out.cell (World.block_lt_of_cell? w _ hx342_0)).trans hx342_0
         replace hx342_1 := (HB.out.cell (World.block_lt_of_cell? w _ hx342_1)).trans hx342_1
         replace hx342_2 := (HB.out.cell (World.block_lt_of_cell? w _ hx342_2)).trans hx342_2
         replace hx342_3 := (HB.out.cell (World.block_lt_of_cell? w _ hx342_3)).trans hx342_3
         replace hx342_4 := (HB.out.cell (World.block_lt_of_cell? w _ hx342_4)).trans hx342_4
         replace hx342_5 := (HB.out.cell (World.block_lt_of_cell? w _ hx342_5)).trans hx342_5
         replace p342 := eq_true p342
         replace q342 := eq_true q342
         go_wp2_with (first | ((with_reducible refine gate_dst (N := 11) rfl ?_); refine bx_ #[.int .i64 0, .int .i64 0, .int .i64 0, .int .i64 0, .int .i64 0, .int .u64 0] 63 ?_; intro gb343 hg w34 BK343 hb; have GW343 := bz_ w hg; have GE343 := GW343; replace HB := bs_ w hb; clear hb hg; replace hc343 := ce6_ BK343) | ((with_reducible refine gate_callee (f := 36) rfl ?_); refine goesA_ (some 32) Try.func36 #[.agg #[.int .i64 ((rd_T63 l0 x25_1).f0.f0), .int .i64 ((rd_T63 l0 x25_1).f0.f1), .int .i64 ((rd_T63 l0 x25_1).f0.f2), .int .i64 ((rd_T63 l0 x25_1).f1), .int .i64 ((rd_T63 l0 x25_1).f2), .int .u64 ((rd_T63 l0 x25_1).f3)], .int .u64 a1] ?_; (with_reducible refine (bucket_Refill.calls k1 ((rd_T63 l0 x25_1).f0.f0) ((rd_T63 l0 x25_1).f0.f1) ((rd_T63 l0 x25_1).f0.f2) ((rd_T63 l0 x25_1).f1) ((rd_T63 l0 x25_1).f2) ((rd_T63 l0 x25_1).f3) a1 t344 t345 t346 t347 t348 t349 t350 _ A13.out).mono ?_); rintro e w36 ⟨rfl, hb⟩; refine ⟨_, rfl, ?_⟩; replace BK343 := Aside0.mk (blk_below (g := gb343) (o := .cells #[.int .i64 ((rd_T63 l0 x25_1).f0.f0), .int .i64 ((rd_T63 l0 x25_1).f0.f1), .int .i64 ((rd_T63 l0 x25_1).f0.f2), .int .i64 ((rd_T63 l0 x25_1).f1), .int .i64 ((rd_T63 l0 x25_1).f2), .int .u64 ((rd_T63 l0 x25_1).f3)] 63 (0, 0)) (bp6_ (bq_ BK343)) hb); replace HB := bs_ w hb; clear hb) | ((with_reducible refine gate_dst (N := 12) rfl ?_); refine bx_ #[.int .i64 0, .int .i64 0, .int .i64 0, .int .i64 0, .int .i64 0, .int .u64 0] 63 ?_; intro gb351 hg w37 BK351 hb; have GW351 := bz_ w hg; have GE351 := GW351; have NB343_351 := bn_ BK343 hg; have NB351_343 := bm_ BK343 hg; replace BK343 := bb_ BK343 hb; replace HB := bs_ w hb; clear hb hg; replace hn351_343 := NB351_343.out; replace hn343_351 := NB343_351.out; replace hc351 := ce6_ BK351) | ((with_reducible refine gate_callee (f := 37) rfl ?_); refine goesA_ (some 41) Try.func37 #[.agg #[.int .i64 t344, .int .i64 t345, .int .i64 t346, .int .i64 t347, .int .i64 t348, .int .u64 t349], .int .i64 a2] ?_; (with_reducible refine (bucket_Wait.calls k1 t344 t345 t346 t347 t348 t349 a2 t352 t353 _ A15.out).mono ?_); rintro e w40 ⟨rfl, hb⟩; refine ⟨_, rfl, ?_⟩; replace BK343 := bf_ BK343 hb; replace BK351 := Aside0.mk (blk_below (g := gb351) (o := .cells #[.int .i64 t344, .int .i64 t345, .int .i64 t346, .int .i64 t347, .int .i64 t348, .int .u64 t349] 63 (0, 0)) (bp6_ (bq_ BK351)) hb); replace HB := bs_ w hb; clear hb; replace hc351 := ce6_ BK351))
         go_roundg k1
         case measure => have := HK1.out; omega
         case rel => exact ⟨(ji33), (wrap64 (x25_1 + 1)), (by first | rfl | (simp; done) | (simp only [← hji33] <;> (first | rfl | simp)) | (simp [*]; done)), rf_, H', ⟨by have := HK1.out; omega⟩, bw_⟩
      ·rw [if_neg c16] at H
       have c16b0 : (t353 == 0) = false := beq_eq_false_iff_ne.mpr c16
       have c16b1 : (t353 != 0) = true := bne_iff_ne.mpr c16
       simp only [Option.some.injEq, Prod.mk.injEq] at H
       obtain ⟨rfl, rfl⟩ := H
       have p342 : 0 ≤ (x25_1 : Int) := of_decide_eq_true (by first | (with_reducible assumption) | assumption)
       have q342 : x25_1 < (l0.length : Int) := of_decide_eq_true (by first | (with_reducible assumption) | assumption)
       obtain ⟨ad342, e342, hx342_0, hx342_1, hx342_2, hx342_3, hx342_4, hx342_5⟩ := at_T63 HR0.out x25_1 p342 q342
       cases e342
       replace hx342_0 := (HB.out.cell (World.block_lt_of_cell? w _ hx342_0)).trans hx342_0
       replace hx342_1 := (HB.out.cell (World.block_lt_of_cell? w _ hx342_1)).trans hx342_1
       replace hx342_2 := (HB.out.cell (World.block_lt_of_cell? w _ hx342_2)).trans hx342_2
       replace hx342_3 := (HB.out.cell (World.block_lt_of_cell? w _ hx342_3)).trans hx342_3
       replace hx342_4 := (HB.out.cell (World.block_lt_of_cell? w _ hx342_4)).trans hx342_4
       replace hx342_5 := (HB.out.cell (World.block_lt_of_cell? w _ hx342_5)).trans hx342_5
       replace p342 := eq_true p342
       replace q342 := eq_true q342
       go_wp2_with (first | ((with_reducible refine gate_dst (N := 11) rfl ?_); refine bx_ #[.int .i64 0, .int .i64 0, .int .i64 0, .int .i64 0, .int .i64 0, .int .u64 0] 63 ?_; intro gb343 hg w42 BK343 hb; have GW343 := bz_ w hg; have GE343 := GW343; replace HB := bs_ w hb; clear hb hg; replace hc343 := ce6_ BK343) | ((with_reducible refine gate_callee (f := 36) rfl ?_); refine goesA_ (some 32) Try.func36 #[.agg #[.int .i64 ((rd_T63 l0 x25_1).f0.f0), .int .i64 ((rd_T63 l0 x25_1).f0.f1), .int .i64 ((rd_T63 l0 x25_1).f0.f2), .int .i64 ((rd_T63 l0 x25_1).f1), .int .i64 ((rd_T63 l0 x25_1).f2), .int .u64 ((rd_T63 l0 x25_1).f3)], .int .u64 a1] ?_; (with_reducible refine (bucket_Refill.calls k1 ((rd_T63 l0 x25_1).f0.f0) ((rd_T63 l0 x25_1).f0.f1) ((rd_T63 l0 x25_1).f0.f2) ((rd_T63 l0 x25_1).f1) ((rd_T63 l0 x25_1).f2) ((rd_T63 l0 x25_1).f3) a1 t344 t345 t346 t347 t348 t349 t350 _ A13.out).mono ?_); rintro e w44 ⟨rfl, hb⟩; refine ⟨_, rfl, ?_⟩; replace BK343 := Aside0.mk (blk_below (g := gb343) (o := .cells #[.int .i64 ((rd_T63 l0 x25_1).f0.f0), .int .i64 ((rd_T63 l0 x25_1).f0.f1), .int .i64 ((rd_T63 l0 x25_1).f0.f2), .int .i64 ((rd_T63 l0 x25_1).f1), .int .i64 ((rd_T63 l0 x25_1).f2), .int .u64 ((rd_T63 l0 x25_1).f3)] 63 (0, 0)) (bp6_ (bq_ BK343)) hb); replace HB := bs_ w hb; clear hb) | ((with_reducible refine gate_dst (N := 12) rfl ?_); refine bx_ #[.int .i64 0, .int .i64 0, .int .i64 0, .int .i64 0, .int .i64 0, .int .u64 0] 63 ?_; intro gb351 hg w45 BK351 hb; have GW351 := bz_ w hg; have GE351 := GW351; have NB343_351 := bn_ BK343 hg; have NB351_343 := bm_ BK343 hg; replace BK343 := bb_ BK343 hb; replace HB := bs_ w hb; clear hb hg; replace hn351_343 := NB351_343.out; replace hn343_351 := NB343_351.out; replace hc351 := ce6_ BK351) | ((with_reducible refine gate_callee (f := 37) rfl ?_); refine goesA_ (some 41) Try.func37 #[.agg #[.int .i64 t344, .int .i64 t345, .int .i64 t346, .int .i64 t347, .int .i64 t348, .int .u64 t349], .int .i64 a2] ?_; (with_reducible refine (bucket_Wait.calls k1 t344 t345 t346 t347 t348 t349 a2 t352 t353 _ A15.out).mono ?_); rintro e w48 ⟨rfl, hb⟩; refine ⟨_, rfl, ?_⟩; replace BK343 := bf_ BK343 hb; replace BK351 := Aside0.mk (blk_below (g := gb351) (o := .cells #[.int .i64 t344, .int .i64 t345, .int .i64 t346, .int .i64 t347, .int .i64 t348, .int .u64 t349] 63 (0, 0)) (bp6_ (bq_ BK351)) hb); replace HB := bs_ w hb; clear hb))
       go_ret2
       exact fi_
     ·rw [if_neg c14] at H
      have c14b0 : (t350 == 0) = false := beq_eq_false_iff_ne.mpr c14
      have c14b1 : (t350 != 0) = true := bne_iff_ne.mpr c14
      simp only [Option.some.injEq, Prod.mk.injEq] at H
      obtain ⟨rfl, rfl⟩ := H
      have p342 : 0 ≤ (x25_1 : Int) := of_decide_eq_true (by first | (with_reducible assumption) | assumption)
      have q342 : x25_1 < (l0.length : Int) := of_decide_eq_true (by first | (with_reducible assumption) | assumption)
      obtain ⟨ad342, e342, hx342_0, hx342_1, hx342_2, hx342_3, hx342_4, hx342_5⟩ := at_T63 HR0.out x25_1 p342 q342
      cases e342
      replace hx342_0 := (HB.out.cell (World.block_lt_of_cell? w _ hx342_0)).trans hx342_0
      replace hx342_1 := (HB.out.cell (World.block_lt_of_cell? w _ hx342_1)).trans hx342_1
      replace hx342_2 := (HB.out.cell (World.block_lt_of_cell? w _ hx342_2)).trans hx342_2
      replace hx342_3 := (HB.out.cell (World.block_lt_of_cell? w _ hx342_3)).trans hx342_3
      replace hx342_4 := (HB.out.cell (World.block_lt_of_cell? w _ hx342_4)).trans hx342_4
      replace hx342_5 := (HB.out.cell (World.block_lt_of_cell? w _ hx342_5)).trans hx342_5
      replace p342 := eq_true p342
      replace q342 := eq_true q342
      go_wp2_with (first | ((with_reducible refine gate_dst (N := 11) rfl ?_); refine bx_ #[.int .i64 0, .int .i64 0, .int .i64 0, .int .i64 0, .int .i64 0, .int .u64 0] 63 ?_; intro gb343 hg w49 BK343 hb; have GW343 := bz_ w hg; have GE343 := GW343; replace HB := bs_ w hb; clear hb hg; replace hc343 := ce6_ BK343) | ((with_reducible refine gate_callee (f := 36) rfl ?_); refine goesA_ (some 32) Try.func36 #[.agg #[.int .i64 ((rd_T63 l0 x25_1).f0.f0), .int .i64 ((rd_T63 l0 x25_1).f0.f1), .int .i64 ((rd_T63 l0 x25_1).f0.f2), .int .i64 ((rd_T63 l0 x25_1).f1), .int .i64 ((rd_T63 l0 x25_1).f2), .int .u64 ((rd_T63 l0 x25_1).f3)], .int .u64 a1] ?_; (with_reducible refine (bucket_Refill.calls k1 ((rd_T63 l0 x25_1).f0.f0) ((rd_T63 l0 x25_1).f0.f1) ((rd_T63 l0 x25_1).f0.f2) ((rd_T63 l0 x25_1).f1) ((rd_T63 l0 x25_1).f2) ((rd_T63 l0 x25_1).f3) a1 t344 t345 t346 t347 t348 t349 t350 _ A13.out).mono ?_); rintro e w51 ⟨rfl, hb⟩; refine ⟨_, rfl, ?_⟩; replace BK343 := Aside0.mk (blk_below (g := gb343) (o := .cells #[.int .i64 ((rd_T63 l0 x25_1).f0.f0), .int .i64 ((rd_T63 l0 x25_1).f0.f1), .int .i64 ((rd_T63 l0 x25_1).f0.f2), .int .i64 ((rd_T63 l0 x25_1).f1), .int .i64 ((rd_T63 l0 x25_1).f2), .int .u64 ((rd_T63 l0 x25_1).f3)] 63 (0, 0)) (bp6_ (bq_ BK343)) hb); replace HB := bs_ w hb; clear hb) | ((with_reducible refine gate_dst (N := 12) rfl ?_); refine bx_ #[.int .i64 0, .int .i64 0, .int .i64 0, .int .i64 0, .int .i64 0, .int .u64 0] 63 ?_; intro gb351 hg w52 BK351 hb; have GW351 := bz_ w hg; have GE351 := GW351; have NB343_351 := bn_ BK343 hg; have NB351_343 := bm_ BK343 hg; replace BK343 := bb_ BK343 hb; replace HB := bs_ w hb; clear hb hg; replace hn351_343 := NB351_343.out; replace hn343_351 := NB343_351.out; replace hc351 := ce6_ BK351))
      go_ret2
      exact fi_
    ·rw [if_neg c10] at H
     have c10b0 : decide (x25_1 < (l0.length : Int)) = false := decide_eq_false c10
     clear c10
     simp only [Option.some.injEq, Prod.mk.injEq] at H
     obtain ⟨rfl, rfl⟩ := H
     go_wp2
     go_ret2
     exact fi_
 ·rw [if_neg c5] at H
  have c5b0 : (t341 == 0) = false := beq_eq_false_iff_ne.mpr c5
  have c5b1 : (t341 != 0) = true := bne_iff_ne.mpr c5
  simp only [Option.some.injEq, Prod.mk.injEq] at H
  obtain ⟨rfl, rfl⟩ := H
  go_enter Try.func16, Try.ntmps16
  go_wp2_with (first | ((with_reducible refine gate_dst (N := 17) rfl ?_); refine Kd.R_lit (Kd.int .i64) _ 2 ?hg (N := 17) ?hd (xs := ([a2] : List Int)) (inner := [.int .i64 a2]) (ok := fun _ => True) (okp := fun _ => True) ?hr ?hp (fun _ hk => hk) trivial (Below.refl _ _) (Nat.le_refl _) (by simp) ?_; (case hd => rfl); (case hg => rfl); (case hr => first | (go_simp; done) | (go_simp; rfl)); (case hp => exact (Reps.one (show Kd.M (Kd.int .i64) _ _ _ a2 [.int .i64 a2] from rfl) (Reps.none _ _))); intro v339 w55 ho56 hb hg_ hnew_; clear hg_ hnew_; (first | rw [← Ny338.out] at ho56 | (simp only [Int.reduceToNat] at ho56; rw [← Ny338.out] at ho56)); have HO340 := Aside0.mk (Kd.R_lower ho56 (below_size (hq_ HB))); replace HB := bs_ w hb; clear hb ho56; obtain ⟨Ao57, co57, eo57⟩ := Kd.R_slice HO340.out; subst eo57) | ((with_reducible refine gate_callee (f := 30) rfl ?_); refine goesA_ (some 18) Try.func30 #[.slice A0 l0.length c0, .slice Ao57 y338.length co57] ?_; (with_reducible refine (wait_both.calls k _ _ l0 _ _ y338 t341 _ ?side1 ?side2 ?side3 ?side4 A4.out).mono ?_); (case side1 => exact cs_ HR0 HB); (case side2 => exact HC0.out); (case side3 => exact cr_ HO340); (case side4 => exact (Kd.R_reads' HO340.out).2.1); rintro e w58 ⟨rfl, hb⟩; refine ⟨_, rfl, ?_⟩; replace HO340 := rb_ HO340 hb; replace HB := bs_ w hb; clear hb))
  go_ret2
  exact fi_

end Go.Proofs.Ytfdpcnkghmmobaa.X
