-- written by xprint.py, a program of this session over the kit's print
import Derived.Test.YtimhghmfhfggoaaX0
import Derived.Test.YtimhghmfhfggoaaX3
namespace Go.Proofs.Ytimhghmfhfggoaa.X
open Go.RowKit Go.Proofs.YtimhghmfhfggoaaW.PrintWords Go.Proofs.YtimhghmfhfggoaaW.PrintLast Go.Proofs.YtimhghmfhfggoaaW.PrintMore
attribute [local go_sem] max2_int min2_int max_two min_two max_three min_three max_four min_four   -- for this text's walks alone
set_option linter.unusedVariables false
set_option linter.unusedSimpArgs false

def curve_Check.l0 : Nat → List (S49) → Int → Int → Option (Int)
  | 0, _, _, _ => none
  | k + 1, x12, x13, x14 => if x14 < x13 then (if 0 ≤ x14 then (if x14 < (x12.length : Int) then ((bucket_CheckLimit.f ((rd_T49 x12 x14).f0) ((rd_T49 x12 x14).f1) ((rd_T49 x12 x14).f2)).bind fun t104 => (if t104 = 0 then (curve_Check.l0 k x12 x13 (wrap64 (x14 + 1))) else (some t104))) else (none)) else (none)) else (some 0)
def curve_Check.f (k : Nat) (l0 : List (S49)) : Option (Int) := if (l0.length : Int) > 6 then (some 4) else (if (l0.length : Int) = 0 then (some 2) else (curve_Check.l0 k l0 (l0.length : Int) 0))
set_option maxHeartbeats 8000000 in
set_option maxRecDepth 100000 in
theorem curve_Check.calls (k : Nat) (A0 : Option Addr) (c0 : Nat) (l0 : List (S49)) (r : Int) (w : World) (hr0 : Kd.C k49 w A0 l0.length l0) (hc0 : l0.length ≤ c0) (h : curve_Check.f k l0 = some r) :
  Calls Try.prog 16 #[.slice A0 l0.length c0] w fun e w' => e = .returned (.int .i64 r) ∧ Below w.heap.size w w' := by
 have hu49 := Try.underlying49
 have HR0 := Aside0.mk hr0
 have HC0 := Aside0.mk hc0
 clear hr0 hc0
 have HB := Aside0.mk (Below.refl w.heap.size w)
 have H : (if (l0.length : Int) > 6 then (some 4) else (if (l0.length : Int) = 0 then (some 2) else (curve_Check.l0 k l0 (l0.length : Int) 0))) = some r := h
 clear h
 by_cases c2 : (l0.length : Int) > 6
 ·rw [if_pos c2] at H
  have c2b0 : decide (6 < (l0.length : Int)) = true := decide_eq_true c2
  have c2b1 : decide (6 < l0.length) = true := decide_eq_true (by omega)
  clear c2
  obtain rfl := Option.some.inj H
  go_enter Try.func16, Try.ntmps16
  go_wp2
  go_ret
  exact fi_
 ·rw [if_neg c2] at H
  have c2b0 : decide (6 < (l0.length : Int)) = false := decide_eq_false c2
  have c2b1 : decide (6 < l0.length) = false := decide_eq_false (by omega)
  clear c2
  by_cases c3 : (l0.length : Int) = 0
  ·rw [if_pos c3] at H
   have c3b0 : ((l0.length : Int) == 0) = true := beq_iff_eq.mpr c3
   have c3b1 : ((l0.length : Int) != 0) = false := bne_eq_false_iff_eq.mpr c3
   clear c3
   obtain rfl := Option.some.inj H
   go_enter Try.func16, Try.ntmps16
   go_wp2
   go_ret
   exact fi_
  ·rw [if_neg c3] at H
   have c3b0 : ((l0.length : Int) == 0) = false := beq_eq_false_iff_ne.mpr c3
   have c3b1 : ((l0.length : Int) != 0) = true := bne_iff_ne.mpr c3
   have c3b2 : ¬ (l0 = []) := fun h_ => c3 (by rw [h_]; rfl)
   have H' := Aside0.mk H
   clear H
   go_enter Try.func16, Try.ntmps16
   go_wp2
   go_loopg [14] k (fun kq v14 w' => ∃ (x14_1 : Int), v14 = .int .i64 x14_1 ∧ Aside0 (curve_Check.l0 kq l0 (l0.length : Int) x14_1 = some r) ∧ Aside0 (kq ≤ k) ∧ Aside0 (Below w.heap.size w w'))
   case atStart => exact ⟨(0), rf_, H', ⟨Nat.le_refl _⟩, bw_⟩
   case round =>
    clear H'
    try clear c2
    try clear c2b0
    try clear c2b1
    try clear c3
    try clear c3b0
    try clear c3b1
    try clear c3b2
    obtain ⟨x14_1, rfl, HA, HK1, HB⟩ := hrel
    cases gk with
    | zero => exact absurd HA.out (by simp [curve_Check.l0])
    | succ k1 =>
     have H := HA.out
     clear HA
     simp only [curve_Check.l0] at H
     by_cases c4 : x14_1 < (l0.length : Int)
     ·rw [if_pos c4] at H
      have c4b0 : decide (x14_1 < (l0.length : Int)) = true := decide_eq_true c4
      clear c4
      by_cases c5 : 0 ≤ x14_1
      rotate_left
      ·rw [if_neg c5] at H; exact absurd H (by simp)
      rw [if_pos c5] at H
      have c5b0 : decide (0 ≤ x14_1) = true := decide_eq_true c5
      clear c5
      by_cases c6 : x14_1 < (l0.length : Int)
      rotate_left
      ·rw [if_neg c6] at H; exact absurd H (by simp)
      rw [if_pos c6] at H
      have c6b0 : decide (x14_1 < (l0.length : Int)) = true := decide_eq_true c6
      clear c6
      have H0_ := bo_ H; clear H; obtain ⟨t104, A7, H⟩ := H0_
      replace H : (if t104 = 0 then (curve_Check.l0 k1 l0 (l0.length : Int) (wrap64 (x14_1 + 1))) else (some t104)) = some r := H
      by_cases c8 : t104 = 0
      ·rw [if_pos c8] at H
       have c8b0 : (t104 == 0) = true := beq_iff_eq.mpr c8
       have c8b1 : (t104 != 0) = false := bne_eq_false_iff_eq.mpr c8
       clear c8
       have H' := Aside0.mk H
       clear H
       have p102 : 0 ≤ (x14_1 : Int) := of_decide_eq_true (by first | (with_reducible assumption) | assumption)
       have q102 : x14_1 < (l0.length : Int) := of_decide_eq_true (by first | (with_reducible assumption) | assumption)
       obtain ⟨ad102, e102, hx102_0, hx102_1, hx102_2⟩ := at_T49 HR0.out x14_1 p102 q102
       cases e102
       replace hx102_0 := (HB.out.cell (World.block_lt_of_cell? w _ hx102_0)).trans hx102_0
       replace hx102_1 := (HB.out.cell (World.block_lt_of_cell? w _ hx102_1)).trans hx102_1
       replace hx102_2 := (HB.out.cell (World.block_lt_of_cell? w _ hx102_2)).trans hx102_2
       replace p102 := eq_true p102
       replace q102 := eq_true q102
       go_wp2_with (first | ((with_reducible refine gate_dst (N := 4) rfl ?_); refine bx_ #[.int .i64 0, .int .i64 0, .int .i64 0] 49 ?_; intro gb103 hg w9 BK103 hb; have GW103 := bz_ w hg; have GE103 := GW103; replace HB := bs_ w hb; clear hb hg; replace hc103 := ce3_ BK103) | ((with_reducible refine gate_callee (f := 33) rfl ?_); refine goesA_ (some 19) Try.func33 #[.agg #[.int .i64 ((rd_T49 l0 x14_1).f0), .int .i64 ((rd_T49 l0 x14_1).f1), .int .i64 ((rd_T49 l0 x14_1).f2)]] ?_; (with_reducible refine (bucket_CheckLimit.calls ((rd_T49 l0 x14_1).f0) ((rd_T49 l0 x14_1).f1) ((rd_T49 l0 x14_1).f2) t104 _ A7.out).mono ?_); rintro e w11 ⟨rfl, hb⟩; refine ⟨_, rfl, ?_⟩; replace BK103 := Aside0.mk (blk_below (g := gb103) (o := .cells #[.int .i64 ((rd_T49 l0 x14_1).f0), .int .i64 ((rd_T49 l0 x14_1).f1), .int .i64 ((rd_T49 l0 x14_1).f2)] 49 (0, 0)) (bp3_ (bq_ BK103)) hb); replace HB := bs_ w hb; clear hb))
       go_roundg k1
       case measure => have := HK1.out; omega
       case rel => exact ⟨(wrap64 (x14_1 + 1)), rf_, H', ⟨by have := HK1.out; omega⟩, bw_⟩
      ·rw [if_neg c8] at H
       have c8b0 : (t104 == 0) = false := beq_eq_false_iff_ne.mpr c8
       have c8b1 : (t104 != 0) = true := bne_iff_ne.mpr c8
       obtain rfl := Option.some.inj H
       have p102 : 0 ≤ (x14_1 : Int) := of_decide_eq_true (by first | (with_reducible assumption) | assumption)
       have q102 : x14_1 < (l0.length : Int) := of_decide_eq_true (by first | (with_reducible assumption) | assumption)
       obtain ⟨ad102, e102, hx102_0, hx102_1, hx102_2⟩ := at_T49 HR0.out x14_1 p102 q102
       cases e102
       replace hx102_0 := (HB.out.cell (World.block_lt_of_cell? w _ hx102_0)).trans hx102_0
       replace hx102_1 := (HB.out.cell (World.block_lt_of_cell? w _ hx102_1)).trans hx102_1
       replace hx102_2 := (HB.out.cell (World.block_lt_of_cell? w _ hx102_2)).trans hx102_2
       replace p102 := eq_true p102
       replace q102 := eq_true q102
       go_wp2_with (first | ((with_reducible refine gate_dst (N := 4) rfl ?_); refine bx_ #[.int .i64 0, .int .i64 0, .int .i64 0] 49 ?_; intro gb103 hg w12 BK103 hb; have GW103 := bz_ w hg; have GE103 := GW103; replace HB := bs_ w hb; clear hb hg; replace hc103 := ce3_ BK103) | ((with_reducible refine gate_callee (f := 33) rfl ?_); refine goesA_ (some 19) Try.func33 #[.agg #[.int .i64 ((rd_T49 l0 x14_1).f0), .int .i64 ((rd_T49 l0 x14_1).f1), .int .i64 ((rd_T49 l0 x14_1).f2)]] ?_; (with_reducible refine (bucket_CheckLimit.calls ((rd_T49 l0 x14_1).f0) ((rd_T49 l0 x14_1).f1) ((rd_T49 l0 x14_1).f2) t104 _ A7.out).mono ?_); rintro e w14 ⟨rfl, hb⟩; refine ⟨_, rfl, ?_⟩; replace BK103 := Aside0.mk (blk_below (g := gb103) (o := .cells #[.int .i64 ((rd_T49 l0 x14_1).f0), .int .i64 ((rd_T49 l0 x14_1).f1), .int .i64 ((rd_T49 l0 x14_1).f2)] 49 (0, 0)) (bp3_ (bq_ BK103)) hb); replace HB := bs_ w hb; clear hb))
       go_ret
       exact fi_
     ·rw [if_neg c4] at H
      have c4b0 : decide (x14_1 < (l0.length : Int)) = false := decide_eq_false c4
      clear c4
      obtain rfl := Option.some.inj H
      go_wp2
      go_ret
      exact fi_

end Go.Proofs.Ytimhghmfhfggoaa.X
