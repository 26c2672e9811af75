-- written by xprint.py, a program of this session over the kit's print
import Derived.Test.YtfdpcnkghmmobaaX0
import Derived.Test.YtfdpcnkghmmobaaX22
import Derived.Test.YtfdpcnkghmmobaaX25
import Derived.Test.YtfdpcnkghmmobaaX40
namespace Go.Proofs.Ytfdpcnkghmmobaa.X
open Go.RowKit Go.Proofs.YtfdpcnkghmmobaaW.PrintWords Go.Proofs.YtfdpcnkghmmobaaW.PrintLast Go.Proofs.YtfdpcnkghmmobaaW.PrintMore
attribute [local go_sem] max2_int min2_int max_two min_two max_three min_three max_four min_four   -- for this text's walks alone
set_option linter.unusedVariables false
set_option linter.unusedSimpArgs false

/-! ### spigotref39_first: function 38 -/
def spigotref39_first.l0 : Nat → List (S63) → Int → Int → Int → Int → Option (Int × Bool)
  | 0, _, _, _, _, _ => none
  | k + 1, x0, x1, x2, x8, x9 => if x9 < (x0.length : Int) then (if 0 ≤ x9 then ((spigotref03_Filled.f k ((rd_T63 x0 x9).f0.f0) ((rd_T63 x0 x9).f0.f1) ((rd_T63 x0 x9).f0.f2) ((rd_T63 x0 x9).f1) ((rd_T63 x0 x9).f2) ((rd_T63 x0 x9).f3) x1).bind fun bt511 => ((spigotref03_Waited.f k bt511.1 bt511.2.1 bt511.2.2.1 bt511.2.2.2.1 bt511.2.2.2.2.1 bt511.2.2.2.2.2 x2).bind fun t518 => (if t518 = 0 then (spigotref39_first.l0 k x0 x1 x2 x8 (wrap64 (x9 + 1))) else (if t518 = 18446744073709551615 then (some (0, false)) else (spigotref39_first.l0 k x0 x1 x2 (mx x8 (IntKind.u64.wrap (bt511.2.2.2.2.2 + t518))) (wrap64 (x9 + 1))))))) else (none)) else (some (x8, true))
def spigotref39_first.f (k : Nat) (l0 : List (S63)) (a1 : Int) (a2 : Int) : Option (Int × Bool) := spigotref39_first.l0 k l0 a1 a2 a1 0
theorem spigotref39_first.mono_l : ∀ k, (∀ y0 y1 y2 y3 y4, LeO (spigotref39_first.l0 k y0 y1 y2 y3 y4) (spigotref39_first.l0 (k + 1) y0 y1 y2 y3 y4))
  | 0 => fun _ _ _ _ _ r h => by simp [spigotref39_first.l0] at h
  | k + 1 => by
    have ih0 := spigotref39_first.mono_l k
    · intro y0 y1 y2 y3 y4
      unfold spigotref39_first.l0
      repeat' first
      | (with_reducible exact ih0 _ _ _ _ _)
      | (with_reducible exact spigotref03_Filled.mono _ _ _ _ _ _ _ _)
      | (with_reducible exact spigotref03_Waited.mono _ _ _ _ _ _ _ _)
      | (with_reducible exact LeO.refl _)
      | (with_reducible exact LeO.none _)
      | (with_reducible refine LeO.ite ?_ ?_)
      | (with_reducible refine LeO.bind ?_ (fun _ => ?_))
      | exact ih0 _ _ _ _ _
      | exact spigotref03_Filled.mono _ _ _ _ _ _ _ _
      | exact spigotref03_Waited.mono _ _ _ _ _ _ _ _
      | exact LeO.none _
      | refine LeO.ite ?_ ?_
      | refine LeO.bind ?_ (fun _ => ?_)
theorem spigotref39_first.mono : ∀ a0 a1 a2 k, LeO (spigotref39_first.f k a0 a1 a2) (spigotref39_first.f (k + 1) a0 a1 a2) := by
  intro a0 a1 a2 k
  have ih0 := spigotref39_first.mono_l k
  unfold spigotref39_first.f
  repeat' first
      | (with_reducible exact ih0 _ _ _ _ _)
      | (with_reducible exact spigotref03_Filled.mono _ _ _ _ _ _ _ _)
      | (with_reducible exact spigotref03_Waited.mono _ _ _ _ _ _ _ _)
      | (with_reducible exact LeO.refl _)
      | (with_reducible exact LeO.none _)
      | (with_reducible refine LeO.ite ?_ ?_)
      | (with_reducible refine LeO.bind ?_ (fun _ => ?_))
      | exact ih0 _ _ _ _ _
      | exact spigotref03_Filled.mono _ _ _ _ _ _ _ _
      | exact spigotref03_Waited.mono _ _ _ _ _ _ _ _
      | exact LeO.none _
      | refine LeO.ite ?_ ?_
      | refine LeO.bind ?_ (fun _ => ?_)
set_option maxHeartbeats 8000000 in
set_option maxRecDepth 100000 in
theorem spigotref39_first.calls (k : Nat) (A0 : Option Addr) (c0 : Nat) (l0 : List (S63)) (a1 : Int) (a2 : Int) (r1 : Int) (r2 : Bool) (w : World) (hr0 : Kd.C k63 w A0 l0.length l0) (hc0 : l0.length ≤ c0) (h : spigotref39_first.f k l0 a1 a2 = some (r1, r2)) :
  Calls Try.prog 38 #[.slice A0 l0.length c0, .int .u64 a1, .int .i64 a2] w fun e w' => e = .returned (.tuple #[.int .u64 r1, .bool r2]) ∧ Below w.heap.size w w' := by
 have hu63 := Try.underlying63
 have HR0 := Aside0.mk hr0
 have HC0 := Aside0.mk hc0
 clear hr0 hc0
 have HB := Aside0.mk (Below.refl w.heap.size w)
 have H : (spigotref39_first.l0 k l0 a1 a2 a1 0) = some (r1, r2) := h
 clear h
 have H' := Aside0.mk H
 clear H
 go_enter Try.func38, Try.ntmps38
 go_wp2
 go_loopg [8, 9] k (fun kq v8 v9 w' => ∃ (x8_1 : Int) (x9_1 : Int), v8 = .int .u64 x8_1 ∧ v9 = .int .i64 x9_1 ∧ Aside0 (spigotref39_first.l0 kq l0 a1 a2 x8_1 x9_1 = some (r1, r2)) ∧ Aside0 (kq ≤ k) ∧ Aside0 (Below w.heap.size w w'))
 case atStart => exact ⟨(a1), (0), rf_, rf_, H', ⟨Nat.le_refl _⟩, bw_⟩
 case round =>
  clear H'
  obtain ⟨x8_1, x9_1, rfl, rfl, HA, HK1, HB⟩ := hrel
  cases gk with
  | zero => exact absurd HA.out (by simp [spigotref39_first.l0])
  | succ k1 =>
   have H := HA.out
   clear HA
   simp only [spigotref39_first.l0] at H
   by_cases c4 : x9_1 < (l0.length : Int)
   ·rw [if_pos c4] at H
    have c4b0 : decide (x9_1 < (l0.length : Int)) = true := decide_eq_true c4
    clear c4
    by_cases c5 : 0 ≤ x9_1
    rotate_left
    ·rw [if_neg c5] at H; exact absurd H (by simp)
    rw [if_pos c5] at H
    have c5b0 : decide (0 ≤ x9_1) = true := decide_eq_true c5
    clear c5
    have H0_ := bo_ H; clear H; obtain ⟨⟨t511, t512, t513, t514, t515, t516⟩, A6, H⟩ := H0_
    try dsimp only at H
    have H0_ := bo_ H; clear H; obtain ⟨t518, A7, H⟩ := H0_
    try dsimp only at H
    by_cases c8 : t518 = 0
    ·rw [if_pos c8] at H
     have c8b0 : (t518 == 0) = true := beq_iff_eq.mpr c8
     have c8b1 : (t518 != 0) = false := bne_eq_false_iff_eq.mpr c8
     clear c8
     have H' := Aside0.mk H
     clear H
     have p510 : 0 ≤ (x9_1 : Int) := of_decide_eq_true (by first | (with_reducible assumption) | assumption)
     have q510 : x9_1 < (l0.length : Int) := of_decide_eq_true (by first | (with_reducible assumption) | assumption)
     obtain ⟨ad510, e510, hx510_0, hx510_1, hx510_2, hx510_3, hx510_4, hx510_5⟩ := at_T63 HR0.out x9_1 p510 q510
     cases e510
     replace hx510_0 := (HB.out.cell (World.block_lt_of_cell? w _ hx510_0)).trans hx510_0
     replace hx510_1 := (HB.out.cell (World.block_lt_of_cell? w _ hx510_1)).trans hx510_1
     replace hx510_2 := (HB.out.cell (World.block_lt_of_cell? w _ hx510_2)).trans hx510_2
     replace hx510_3 := (HB.out.cell (World.block_lt_of_cell? w _ hx510_3)).trans hx510_3
     replace hx510_4 := (HB.out.cell (World.block_lt_of_cell? w _ hx510_4)).trans hx510_4
     replace hx510_5 := (HB.out.cell (World.block_lt_of_cell? w _ hx510_5)).trans hx510_5
     replace p510 := eq_true p510
     replace q510 := eq_true q510
     go_wp2_with (first | ((with_reducible refine gate_callee (f := 61) rfl ?_); refine goesA_ (some 24) Try.func61 #[.agg #[.int .i64 ((rd_T63 l0 x9_1).f0.f0), .int .i64 ((rd_T63 l0 x9_1).f0.f1), .int .i64 ((rd_T63 l0 x9_1).f0.f2), .int .i64 ((rd_T63 l0 x9_1).f1), .int .i64 ((rd_T63 l0 x9_1).f2), .int .u64 ((rd_T63 l0 x9_1).f3)], .int .u64 a1] ?_; (with_reducible refine (spigotref03_Filled.calls k1 ((rd_T63 l0 x9_1).f0.f0) ((rd_T63 l0 x9_1).f0.f1) ((rd_T63 l0 x9_1).f0.f2) ((rd_T63 l0 x9_1).f1) ((rd_T63 l0 x9_1).f2) ((rd_T63 l0 x9_1).f3) a1 t511 t512 t513 t514 t515 t516 _ A6.out).mono ?_); rintro e w9 ⟨rfl, hb⟩; refine ⟨_, rfl, ?_⟩; replace HB := bs_ w hb; clear hb) | ((with_reducible refine gate_dst (N := 10) rfl ?_); refine bx_ #[.int .i64 0, .int .i64 0, .int .i64 0, .int .i64 0, .int .i64 0, .int .u64 0] 63 ?_; intro gb517 hg w10 BK517 hb; have GW517 := bz_ w hg; have GE517 := GW517; replace HB := bs_ w hb; clear hb hg; replace hc517 := ce6_ BK517) | ((with_reducible refine gate_callee (f := 62) rfl ?_); refine goesA_ (some 27) Try.func62 #[.agg #[.int .i64 t511, .int .i64 t512, .int .i64 t513, .int .i64 t514, .int .i64 t515, .int .u64 t516], .int .i64 a2] ?_; (with_reducible refine (spigotref03_Waited.calls k1 t511 t512 t513 t514 t515 t516 a2 t518 _ A7.out).mono ?_); rintro e w12 ⟨rfl, hb⟩; refine ⟨_, rfl, ?_⟩; replace BK517 := Aside0.mk (blk_below (g := gb517) (o := .cells #[.int .i64 t511, .int .i64 t512, .int .i64 t513, .int .i64 t514, .int .i64 t515, .int .u64 t516] 63 (0, 0)) (bp6_ (bq_ BK517)) hb); replace HB := bs_ w hb; clear hb))
     go_roundg k1
     case measure => have := HK1.out; omega
     case rel => exact ⟨(x8_1), (wrap64 (x9_1 + 1)), rf_, rf_, H', ⟨by have := HK1.out; omega⟩, bw_⟩
    ·rw [if_neg c8] at H
     have c8b0 : (t518 == 0) = false := beq_eq_false_iff_ne.mpr c8
     have c8b1 : (t518 != 0) = true := bne_iff_ne.mpr c8
     by_cases c13 : t518 = 18446744073709551615
     ·rw [if_pos c13] at H
      have c13b0 : (t518 == 18446744073709551615) = true := beq_iff_eq.mpr c13
      have c13b1 : (t518 != 18446744073709551615) = false := bne_eq_false_iff_eq.mpr c13
      clear c13
      simp only [Option.some.injEq, Prod.mk.injEq] at H
      obtain ⟨rfl, rfl⟩ := H
      have p510 : 0 ≤ (x9_1 : Int) := of_decide_eq_true (by first | (with_reducible assumption) | assumption)
      have q510 : x9_1 < (l0.length : Int) := of_decide_eq_true (by first | (with_reducible assumption) | assumption)
      obtain ⟨ad510, e510, hx510_0, hx510_1, hx510_2, hx510_3, hx510_4, hx510_5⟩ := at_T63 HR0.out x9_1 p510 q510
      cases e510
      replace hx510_0 := (HB.out.cell (World.block_lt_of_cell? w _ hx510_0)).trans hx510_0
      replace hx510_1 := (HB.out.cell (World.block_lt_of_cell? w _ hx510_1)).trans hx510_1
      replace hx510_2 := (HB.out.cell (World.block_lt_of_cell? w _ hx510_2)).trans hx510_2
      replace hx510_3 := (HB.out.cell (World.block_lt_of_cell? w _ hx510_3)).trans hx510_3
      replace hx510_4 := (HB.out.cell (World.block_lt_of_cell? w _ hx510_4)).trans hx510_4
      replace hx510_5 := (HB.out.cell (World.block_lt_of_cell? w _ hx510_5)).trans hx510_5
      replace p510 := eq_true p510
      replace q510 := eq_true q510
      go_wp2_with (first | ((with_reducible refine gate_callee (f := 61) rfl ?_); refine goesA_ (some 24) Try.func61 #[.agg #[.int .i64 ((rd_T63 l0 x9_1).f0.f0), .int .i64 ((rd_T63 l0 x9_1).f0.f1), .int .i64 ((rd_T63 l0 x9_1).f0.f2), .int .i64 ((rd_T63 l0 x9_1).f1), .int .i64 ((rd_T63 l0 x9_1).f2), .int .u64 ((rd_T63 l0 x9_1).f3)], .int .u64 a1] ?_; (with_reducible refine (spigotref03_Filled.calls k1 ((rd_T63 l0 x9_1).f0.f0) ((rd_T63 l0 x9_1).f0.f1) ((rd_T63 l0 x9_1).f0.f2) ((rd_T63 l0 x9_1).f1) ((rd_T63 l0 x9_1).f2) ((rd_T63 l0 x9_1).f3) a1 t511 t512 t513 t514 t515 t516 _ A6.out).mono ?_); rintro e w14 ⟨rfl, hb⟩; refine ⟨_, rfl, ?_⟩; replace HB := bs_ w hb; clear hb) | ((with_reducible refine gate_dst (N := 10) rfl ?_); refine bx_ #[.int .i64 0, .int .i64 0, .int .i64 0, .int .i64 0, .int .i64 0, .int .u64 0] 63 ?_; intro gb517 hg w15 BK517 hb; have GW517 := bz_ w hg; have GE517 := GW517; replace HB := bs_ w hb; clear hb hg; replace hc517 := ce6_ BK517) | ((with_reducible refine gate_callee (f := 62) rfl ?_); refine goesA_ (some 27) Try.func62 #[.agg #[.int .i64 t511, .int .i64 t512, .int .i64 t513, .int .i64 t514, .int .i64 t515, .int .u64 t516], .int .i64 a2] ?_; (with_reducible refine (spigotref03_Waited.calls k1 t511 t512 t513 t514 t515 t516 a2 t518 _ A7.out).mono ?_); rintro e w17 ⟨rfl, hb⟩; refine ⟨_, rfl, ?_⟩; replace BK517 := Aside0.mk (blk_below (g := gb517) (o := .cells #[.int .i64 t511, .int .i64 t512, .int .i64 t513, .int .i64 t514, .int .i64 t515, .int .u64 t516] 63 (0, 0)) (bp6_ (bq_ BK517)) hb); replace HB := bs_ w hb; clear hb))
      go_ret2
      exact fi_
     ·rw [if_neg c13] at H
      have c13b0 : (t518 == 18446744073709551615) = false := beq_eq_false_iff_ne.mpr c13
      have c13b1 : (t518 != 18446744073709551615) = true := bne_iff_ne.mpr c13
      obtain ⟨ji18, hji18⟩ : ∃ j_ : Int, (mx x8_1 (IntKind.u64.wrap (t516 + t518))) = j_ := ⟨_, rfl⟩
      replace H : (spigotref39_first.l0 k1 l0 a1 a2 ji18 (wrap64 (x9_1 + 1))) = some (r1, r2) := by first | (rw [hji18] at H; exact H) | (simp only [hji18] at H ⊢; exact H)
      (try rw [hji18] at A6)
      (try rw [hji18] at A7)
      have hji18_ : (if x8_1 < (IntKind.u64.wrap (t516 + t518)) then (IntKind.u64.wrap (t516 + t518)) else x8_1) = ji18 := hji18
      have H' := Aside0.mk H
      clear H
      have p510 : 0 ≤ (x9_1 : Int) := of_decide_eq_true (by first | (with_reducible assumption) | assumption)
      have q510 : x9_1 < (l0.length : Int) := of_decide_eq_true (by first | (with_reducible assumption) | assumption)
      obtain ⟨ad510, e510, hx510_0, hx510_1, hx510_2, hx510_3, hx510_4, hx510_5⟩ := at_T63 HR0.out x9_1 p510 q510
      cases e510
      replace hx510_0 := (HB.out.cell (World.block_lt_of_cell? w _ hx510_0)).trans hx510_0
      replace hx510_1 := (HB.out.cell (World.block_lt_of_cell? w _ hx510_1)).trans hx510_1
      replace hx510_2 := (HB.out.cell (World.block_lt_of_cell? w _ hx510_2)).trans hx510_2
      replace hx510_3 := (HB.out.cell (World.block_lt_of_cell? w _ hx510_3)).trans hx510_3
      replace hx510_4 := (HB.out.cell (World.block_lt_of_cell? w _ hx510_4)).trans hx510_4
      replace hx510_5 := (HB.out.cell (World.block_lt_of_cell? w _ hx510_5)).trans hx510_5
      replace p510 := eq_true p510
      replace q510 := eq_true q510
      go_wp2_with (first | ((with_reducible refine gate_callee (f := 61) rfl ?_); refine goesA_ (some 24) Try.func61 #[.agg #[.int .i64 ((rd_T63 l0 x9_1).f0.f0), .int .i64 ((rd_T63 l0 x9_1).f0.f1), .int .i64 ((rd_T63 l0 x9_1).f0.f2), .int .i64 ((rd_T63 l0 x9_1).f1), .int .i64 ((rd_T63 l0 x9_1).f2), .int .u64 ((rd_T63 l0 x9_1).f3)], .int .u64 a1] ?_; (with_reducible refine (spigotref03_Filled.calls k1 ((rd_T63 l0 x9_1).f0.f0) ((rd_T63 l0 x9_1).f0.f1) ((rd_T63 l0 x9_1).f0.f2) ((rd_T63 l0 x9_1).f1) ((rd_T63 l0 x9_1).f2) ((rd_T63 l0 x9_1).f3) a1 t511 t512 t513 t514 t515 t516 _ A6.out).mono ?_); rintro e w19 ⟨rfl, hb⟩; refine ⟨_, rfl, ?_⟩; replace HB := bs_ w hb; clear hb) | ((with_reducible refine gate_dst (N := 10) rfl ?_); refine bx_ #[.int .i64 0, .int .i64 0, .int .i64 0, .int .i64 0, .int .i64 0, .int .u64 0] 63 ?_; intro gb517 hg w20 BK517 hb; have GW517 := bz_ w hg; have GE517 := GW517; replace HB := bs_ w hb; clear hb hg; replace hc517 := ce6_ BK517) | ((with_reducible refine gate_callee (f := 62) rfl ?_); refine goesA_ (some 27) Try.func62 #[.agg #[.int .i64 t511, .int .i64 t512, .int .i64 t513, .int .i64 t514, .int .i64 t515, .int .u64 t516], .int .i64 a2] ?_; (with_reducible refine (spigotref03_Waited.calls k1 t511 t512 t513 t514 t515 t516 a2 t518 _ A7.out).mono ?_); rintro e w22 ⟨rfl, hb⟩; refine ⟨_, rfl, ?_⟩; replace BK517 := Aside0.mk (blk_below (g := gb517) (o := .cells #[.int .i64 t511, .int .i64 t512, .int .i64 t513, .int .i64 t514, .int .i64 t515, .int .u64 t516] 63 (0, 0)) (bp6_ (bq_ BK517)) hb); replace HB := bs_ w hb; clear hb; replace hc517 := ce6_ BK517))
      go_roundg k1
      case measure => have := HK1.out; omega
      case rel => exact ⟨(ji18), (wrap64 (x9_1 + 1)), (by first | rfl | (simp; done) | (simp only [← hji18] <;> (first | rfl | simp)) | (simp [*]; done)), rf_, H', ⟨by have := HK1.out; omega⟩, bw_⟩
   ·rw [if_neg c4] at H
    have c4b0 : decide (x9_1 < (l0.length : Int)) = false := decide_eq_false c4
    clear c4
    simp only [Option.some.injEq, Prod.mk.injEq] at H
    obtain ⟨rfl, rfl⟩ := H
    go_wp2
    go_ret2
    exact fi_

/-! ### spigotref39_First: function 17 -/
def spigotref39_First.f (k : Nat) (l0 : List (S63)) (a1 : Int) (a2 : Int) : Option (Int × Int) := (spigotref39_Both.f k l0 (([a2] : List Int))).bind fun t522 => (if t522 = 0 then ((spigotref39_first.f k l0 a1 a2).bind fun bt523 => (if bt523.2 = true then (some (bt523.1, 0)) else (some (0, 6)))) else (some (0, t522)))
theorem spigotref39_First.mono : ∀ a0 a1 a2 k, LeO (spigotref39_First.f k a0 a1 a2) (spigotref39_First.f (k + 1) a0 a1 a2) := by
  intro a0 a1 a2 k
  unfold spigotref39_First.f
  repeat' first
      | (with_reducible exact spigotref39_Both.mono _ _ _)
      | (with_reducible exact spigotref39_first.mono _ _ _ _)
      | (with_reducible exact LeO.refl _)
      | (with_reducible exact LeO.none _)
      | (with_reducible refine LeO.ite ?_ ?_)
      | (with_reducible refine LeO.bind ?_ (fun _ => ?_))
      | exact spigotref39_Both.mono _ _ _
      | exact spigotref39_first.mono _ _ _ _
      | exact LeO.none _
      | refine LeO.ite ?_ ?_
      | refine LeO.bind ?_ (fun _ => ?_)
set_option maxHeartbeats 8000000 in
set_option maxRecDepth 100000 in
theorem spigotref39_First.calls (k : Nat) (A0 : Option Addr) (c0 : Nat) (l0 : List (S63)) (a1 : Int) (a2 : Int) (r1 : Int) (r2 : Int) (w : World) (hr0 : Kd.C k63 w A0 l0.length l0) (hc0 : l0.length ≤ c0) (h : spigotref39_First.f k l0 a1 a2 = some (r1, r2)) :
  Calls Try.prog 17 #[.slice A0 l0.length c0, .int .u64 a1, .int .i64 a2] w fun e w' => e = .returned (.tuple #[.int .u64 r1, .int .i64 r2]) ∧ Below w.heap.size w w' := by
 have HR0 := Aside0.mk hr0
 have HC0 := Aside0.mk hc0
 clear hr0 hc0
 have HB := Aside0.mk (Below.refl w.heap.size w)
 have H : ((spigotref39_Both.f k l0 (([a2] : List Int))).bind fun t522 => (if t522 = 0 then ((spigotref39_first.f k l0 a1 a2).bind fun bt523 => (if bt523.2 = true then (some (bt523.1, 0)) else (some (0, 6)))) else (some (0, t522)))) = some (r1, r2) := h
 clear h
 obtain ⟨y519, hy519⟩ : ∃ y_ : List Int, y_ = (([a2] : List Int)) := ⟨_, rfl⟩
 replace H : ((spigotref39_Both.f k l0 y519).bind fun t522 => (if t522 = 0 then ((spigotref39_first.f k l0 a1 a2).bind fun bt523 => (if bt523.2 = true then (some (bt523.1, 0)) else (some (0, 6)))) else (some (0, t522)))) = some (r1, r2) := by first | (rw [hy519]; with_reducible exact H) | (have H2_ := (Option.bind_some _ _).symm.trans H; rw [hy519]; with_reducible exact H2_) | (have H2_ := (Option.bind_some _ _).symm.trans H; with_reducible exact H2_) | with_reducible exact H | (rw [hy519]; exact H) | exact H
 have Ny519 := Aside0.mk hy519
 clear hy519
 have H0_ := bo_ H; clear H; obtain ⟨t522, A4, H⟩ := H0_
 try dsimp only at H
 by_cases c5 : t522 = 0
 ·rw [if_pos c5] at H
  have c5b0 : (t522 == 0) = true := beq_iff_eq.mpr c5
  have c5b1 : (t522 != 0) = false := bne_eq_false_iff_eq.mpr c5
  clear c5
  have H0_ := bo_ H; clear H; obtain ⟨⟨t523, t524⟩, A6, H⟩ := H0_
  replace H : (if t524 = true then (some (t523, 0)) else (some (0, 6))) = some (r1, r2) := H
  by_cases c7 : t524 = true
  ·subst c7
   replace H : (some (t523, 0)) = some (r1, r2) := by rw [if_pos rfl] at H; exact H
   simp only [Option.some.injEq, Prod.mk.injEq] at H
   obtain ⟨rfl, rfl⟩ := H
   go_enter Try.func17, Try.ntmps17
   go_wp2_with (first | ((with_reducible refine gate_dst (N := 13) rfl ?_); refine Kd.R_lit (Kd.int .i64) _ 2 ?hg (N := 13) ?hd (xs := ([a2] : List Int)) (inner := [.int .i64 a2]) (ok := fun _ => True) (okp := fun _ => True) ?hr ?hp (fun _ hk => hk) trivial (Below.refl _ _) (Nat.le_refl _) (by simp) ?_; (case hd => rfl); (case hg => rfl); (case hr => first | (go_simp; done) | (go_simp; rfl)); (case hp => exact (Reps.one (show Kd.M (Kd.int .i64) _ _ _ a2 [.int .i64 a2] from rfl) (Reps.none _ _))); intro v520 w8 ho9 hb hg_ hnew_; clear hg_ hnew_; (first | rw [← Ny519.out] at ho9 | (simp only [Int.reduceToNat] at ho9; rw [← Ny519.out] at ho9)); have HO521 := Aside0.mk (Kd.R_lower ho9 (below_size (hq_ HB))); replace HB := bs_ w hb; clear hb ho9; obtain ⟨Ao10, co10, eo10⟩ := Kd.R_slice HO521.out; subst eo10) | ((with_reducible refine gate_callee (f := 33) rfl ?_); refine goesA_ (some 14) Try.func33 #[.slice A0 l0.length c0, .slice Ao10 y519.length co10] ?_; (with_reducible refine (spigotref39_Both.calls k _ _ l0 _ _ y519 t522 _ ?side1 ?side2 ?side3 ?side4 A4.out).mono ?_); (case side1 => exact cs_ HR0 HB); (case side2 => exact HC0.out); (case side3 => exact cr_ HO521); (case side4 => exact (Kd.R_reads' HO521.out).2.1); rintro e w11 ⟨rfl, hb⟩; refine ⟨_, rfl, ?_⟩; replace HO521 := rb_ HO521 hb; replace HB := bs_ w hb; clear hb) | ((with_reducible refine gate_callee (f := 38) rfl ?_); refine goesA_ (some 22) Try.func38 #[.slice A0 l0.length c0, .int .u64 a1, .int .i64 a2] ?_; (with_reducible refine (spigotref39_first.calls k _ _ l0 a1 a2 t523 true _ ?side1 ?side2 A6.out).mono ?_); (case side1 => exact cs_ HR0 HB); (case side2 => exact HC0.out); rintro e w12 ⟨rfl, hb⟩; refine ⟨_, rfl, ?_⟩; replace HO521 := rb_ HO521 hb; replace HB := bs_ w hb; clear hb))
   go_ret2
   exact fi_
  ·replace c7 := Bool.eq_false_iff.mpr c7
   subst c7
   replace H : (some (0, 6)) = some (r1, r2) := by rw [if_neg (show ¬ (false = true) by decide)] at H; exact H
   simp only [Option.some.injEq, Prod.mk.injEq] at H
   obtain ⟨rfl, rfl⟩ := H
   go_enter Try.func17, Try.ntmps17
   go_wp2_with (first | ((with_reducible refine gate_dst (N := 13) rfl ?_); refine Kd.R_lit (Kd.int .i64) _ 2 ?hg (N := 13) ?hd (xs := ([a2] : List Int)) (inner := [.int .i64 a2]) (ok := fun _ => True) (okp := fun _ => True) ?hr ?hp (fun _ hk => hk) trivial (Below.refl _ _) (Nat.le_refl _) (by simp) ?_; (case hd => rfl); (case hg => rfl); (case hr => first | (go_simp; done) | (go_simp; rfl)); (case hp => exact (Reps.one (show Kd.M (Kd.int .i64) _ _ _ a2 [.int .i64 a2] from rfl) (Reps.none _ _))); intro v520 w13 ho14 hb hg_ hnew_; clear hg_ hnew_; (first | rw [← Ny519.out] at ho14 | (simp only [Int.reduceToNat] at ho14; rw [← Ny519.out] at ho14)); have HO521 := Aside0.mk (Kd.R_lower ho14 (below_size (hq_ HB))); replace HB := bs_ w hb; clear hb ho14; obtain ⟨Ao15, co15, eo15⟩ := Kd.R_slice HO521.out; subst eo15) | ((with_reducible refine gate_callee (f := 33) rfl ?_); refine goesA_ (some 14) Try.func33 #[.slice A0 l0.length c0, .slice Ao15 y519.length co15] ?_; (with_reducible refine (spigotref39_Both.calls k _ _ l0 _ _ y519 t522 _ ?side1 ?side2 ?side3 ?side4 A4.out).mono ?_); (case side1 => exact cs_ HR0 HB); (case side2 => exact HC0.out); (case side3 => exact cr_ HO521); (case side4 => exact (Kd.R_reads' HO521.out).2.1); rintro e w16 ⟨rfl, hb⟩; refine ⟨_, rfl, ?_⟩; replace HO521 := rb_ HO521 hb; replace HB := bs_ w hb; clear hb) | ((with_reducible refine gate_callee (f := 38) rfl ?_); refine goesA_ (some 22) Try.func38 #[.slice A0 l0.length c0, .int .u64 a1, .int .i64 a2] ?_; (with_reducible refine (spigotref39_first.calls k _ _ l0 a1 a2 t523 false _ ?side1 ?side2 A6.out).mono ?_); (case side1 => exact cs_ HR0 HB); (case side2 => exact HC0.out); rintro e w17 ⟨rfl, hb⟩; refine ⟨_, rfl, ?_⟩; replace HO521 := rb_ HO521 hb; replace HB := bs_ w hb; clear hb))
   go_ret2
   exact fi_
 ·rw [if_neg c5] at H
  have c5b0 : (t522 == 0) = false := beq_eq_false_iff_ne.mpr c5
  have c5b1 : (t522 != 0) = true := bne_iff_ne.mpr c5
  simp only [Option.some.injEq, Prod.mk.injEq] at H
  obtain ⟨rfl, rfl⟩ := H
  go_enter Try.func17, Try.ntmps17
  go_wp2_with (first | ((with_reducible refine gate_dst (N := 13) rfl ?_); refine Kd.R_lit (Kd.int .i64) _ 2 ?hg (N := 13) ?hd (xs := ([a2] : List Int)) (inner := [.int .i64 a2]) (ok := fun _ => True) (okp := fun _ => True) ?hr ?hp (fun _ hk => hk) trivial (Below.refl _ _) (Nat.le_refl _) (by simp) ?_; (case hd => rfl); (case hg => rfl); (case hr => first | (go_simp; done) | (go_simp; rfl)); (case hp => exact (Reps.one (show Kd.M (Kd.int .i64) _ _ _ a2 [.int .i64 a2] from rfl) (Reps.none _ _))); intro v520 w18 ho19 hb hg_ hnew_; clear hg_ hnew_; (first | rw [← Ny519.out] at ho19 | (simp only [Int.reduceToNat] at ho19; rw [← Ny519.out] at ho19)); have HO521 := Aside0.mk (Kd.R_lower ho19 (below_size (hq_ HB))); replace HB := bs_ w hb; clear hb ho19; obtain ⟨Ao20, co20, eo20⟩ := Kd.R_slice HO521.out; subst eo20) | ((with_reducible refine gate_callee (f := 33) rfl ?_); refine goesA_ (some 14) Try.func33 #[.slice A0 l0.length c0, .slice Ao20 y519.length co20] ?_; (with_reducible refine (spigotref39_Both.calls k _ _ l0 _ _ y519 t522 _ ?side1 ?side2 ?side3 ?side4 A4.out).mono ?_); (case side1 => exact cs_ HR0 HB); (case side2 => exact HC0.out); (case side3 => exact cr_ HO521); (case side4 => exact (Kd.R_reads' HO521.out).2.1); rintro e w21 ⟨rfl, hb⟩; refine ⟨_, rfl, ?_⟩; replace HO521 := rb_ HO521 hb; replace HB := bs_ w hb; clear hb))
  go_ret2
  exact fi_

end Go.Proofs.Ytfdpcnkghmmobaa.X
