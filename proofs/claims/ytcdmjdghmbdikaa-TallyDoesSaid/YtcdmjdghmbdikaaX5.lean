-- written by xprint.py, a program of this session over the kit's print
import Derived.Test.YtcdmjdghmbdikaaX0
import Derived.Test.YtcdmjdghmbdikaaX4
namespace Go.Proofs.Ytcdmjdghmbdikaa.X
open Go.RowKit Go.Proofs.YtcdmjdghmbdikaaW.PrintWords Go.Proofs.YtcdmjdghmbdikaaW.PrintLast Go.Proofs.YtcdmjdghmbdikaaW.PrintMore
attribute [local go_sem] max2_int min2_int max_two min_two max_three min_three max_four min_four   -- for this text's walks alone
set_option linter.unusedVariables false
set_option linter.unusedSimpArgs false

/-! ### tally_Sum: function 15 -/
def tally_Sum.l0 : Nat → List (S25) → Int → Int → Int → Int → Int → Option (Int × Int × Int × Int)
  | 0, _, _, _, _, _, _ => none
  | k + 1, x11, x12, x13, x111000, x111001, x111002 => if x13 < x12 then (if 0 ≤ x13 then (if x13 < (x11.length : Int) then ((tally_Add.f x111000 x111001 x111002 ((rd_T25 x11 x13).f0) ((rd_T25 x11 x13).f1) ((rd_T25 x11 x13).f2)).bind fun bt113 => (tally_Sum.l0 k x11 x12 (wrap64 (x13 + 1)) bt113.1 bt113.2.1 bt113.2.2)) else (none)) else (none)) else (some (x111000, x111001, x111002, 0))
def tally_Sum.f (k : Nat) (l0 : List (S25)) : Option (Int × Int × Int × Int) := if (l0.length : Int) > 60 then (some (0, 0, 0, 4)) else (tally_Sum.l0 k l0 (l0.length : Int) 0 0 0 0)
theorem tally_Sum.mono_l : ∀ k, (∀ y0 y1 y2 y3 y4 y5, LeO (tally_Sum.l0 k y0 y1 y2 y3 y4 y5) (tally_Sum.l0 (k + 1) y0 y1 y2 y3 y4 y5))
  | 0 => fun _ _ _ _ _ _ r h => by simp [tally_Sum.l0] at h
  | k + 1 => by
    have ih0 := tally_Sum.mono_l k
    · intro y0 y1 y2 y3 y4 y5
      unfold tally_Sum.l0
      repeat' first
      | (with_reducible exact ih0 _ _ _ _ _ _)
      | (with_reducible exact LeO.refl _)
      | (with_reducible exact LeO.none _)
      | (with_reducible refine LeO.ite ?_ ?_)
      | (with_reducible refine LeO.bind ?_ (fun _ => ?_))
      | exact ih0 _ _ _ _ _ _
      | exact LeO.none _
      | refine LeO.ite ?_ ?_
      | refine LeO.bind ?_ (fun _ => ?_)
theorem tally_Sum.mono : ∀ a0 k, LeO (tally_Sum.f k a0) (tally_Sum.f (k + 1) a0) := by
  intro a0 k
  have ih0 := tally_Sum.mono_l k
  unfold tally_Sum.f
  repeat' first
      | (with_reducible exact ih0 _ _ _ _ _ _)
      | (with_reducible exact LeO.refl _)
      | (with_reducible exact LeO.none _)
      | (with_reducible refine LeO.ite ?_ ?_)
      | (with_reducible refine LeO.bind ?_ (fun _ => ?_))
      | exact ih0 _ _ _ _ _ _
      | exact LeO.none _
      | refine LeO.ite ?_ ?_
      | refine LeO.bind ?_ (fun _ => ?_)
set_option maxHeartbeats 8000000 in
set_option maxRecDepth 100000 in
theorem tally_Sum.calls (k : Nat) (A0 : Option Addr) (c0 : Nat) (l0 : List (S25)) (r1 : Int) (r2 : Int) (r3 : Int) (r4 : Int) (w : World) (hr0 : Kd.C k25 w A0 l0.length l0) (hc0 : l0.length ≤ c0) (h : tally_Sum.f k l0 = some (r1, r2, r3, r4)) :
  Calls Try.prog 15 #[.slice A0 l0.length c0] w fun e w' => e = .returned (.tuple #[.agg #[.int .u64 r1, .int .u64 r2, .int .u64 r3], .int .i64 r4]) ∧ Below w.heap.size w w' := by
 have hu25 := Try.underlying25
 have HR0 := Aside0.mk hr0
 have HC0 := Aside0.mk hc0
 clear hr0 hc0
 have HB := Aside0.mk (Below.refl w.heap.size w)
 have H : (if (l0.length : Int) > 60 then (some (0, 0, 0, 4)) else (tally_Sum.l0 k l0 (l0.length : Int) 0 0 0 0)) = some (r1, r2, r3, r4) := h
 clear h
 by_cases c2 : (l0.length : Int) > 60
 ·rw [if_pos c2] at H
  have c2b0 : decide (60 < (l0.length : Int)) = true := decide_eq_true c2
  have c2b1 : decide (60 < l0.length) = true := decide_eq_true (by omega)
  clear c2
  simp only [Option.some.injEq, Prod.mk.injEq] at H
  obtain ⟨rfl, rfl, rfl, rfl⟩ := H
  go_enter Try.func15, Try.ntmps15
  go_wp2_with (first | ((with_reducible refine gate_dst (N := 2) rfl ?_); refine bx_ #[.int .u64 0, .int .u64 0, .int .u64 0] 25 ?_; intro gb109 hg w3 BK109 hb; have GW109 := bz_ w hg; have GE109 := GW109; replace HB := bs_ w hb; clear hb hg; replace hc109 := ce3_ BK109))
  refine bodyPost_ret (results_ct rfl _ _ gb109 25 #[.int .u64 0, .int .u64 0, .int .u64 0] (0, 0) _ rfl (bp3_ (bq_ BK109)) Try.underlying25 rfl (by kernel_rfl)) rfl ?_
  exact fi_
 ·rw [if_neg c2] at H
  have c2b0 : decide (60 < (l0.length : Int)) = false := decide_eq_false c2
  have c2b1 : decide (60 < l0.length) = false := decide_eq_false (by omega)
  clear c2
  have H' := Aside0.mk H
  clear H
  go_enter Try.func15, Try.ntmps15
  go_wp2_with (first | ((with_reducible refine gate_dst (N := 2) rfl ?_); refine bx_ #[.int .u64 0, .int .u64 0, .int .u64 0] 25 ?_; intro gb109 hg w5 BK109 hb; have GW109 := bz_ w hg; have GE109 := GW109; replace HB := bs_ w hb; clear hb hg) | ((with_reducible refine gate_dst (N := 4) rfl ?_); refine bx_ #[.int .u64 0, .int .u64 0, .int .u64 0] 25 ?_; intro gb110 hg w6 BK110 hb; have GW110 := bz_ w hg; have NB109_110 := bn_ BK109 hg; have NB110_109 := bm_ BK109 hg; replace BK109 := bb_ BK109 hb; replace HB := bs_ w hb; clear hb hg))
  go_loopg [13] k (fun kq v13 w' => ∃ (x13_1 : Int) (x111000_1 : Int) (x111001_1 : Int) (x111002_1 : Int), v13 = .int .i64 x13_1 ∧ Aside0 (tally_Sum.l0 kq l0 (l0.length : Int) x13_1 x111000_1 x111001_1 x111002_1 = some (r1, r2, r3, r4)) ∧ Aside0 (kq ≤ k) ∧ Aside0 (w'.heap[gb109]? = some (.cells #[.int .u64 0, .int .u64 0, .int .u64 0] 25 (0, 0))) ∧ Aside0 (w'.heap[gb110]? = some (.cells #[.int .u64 x111000_1, .int .u64 x111001_1, .int .u64 x111002_1] 25 (0, 0))) ∧ Aside0 (Below w.heap.size w w'))
  case atStart => exact ⟨(0), (0), (0), (0), rf_, H', ⟨Nat.le_refl _⟩, ⟨bq_ BK109⟩, ⟨bq_ BK110⟩, bw_⟩
  case round =>
   clear H'
   try clear c2
   try clear c2b0
   try clear c2b1
   obtain ⟨x13_1, x111000_1, x111001_1, x111002_1, rfl, HA, HK1, BK109, BK110, HB⟩ := hrel
   cases gk with
   | zero => exact absurd HA.out (by simp [tally_Sum.l0])
   | succ k1 =>
    have H := HA.out
    clear HA
    simp only [tally_Sum.l0] at H
    by_cases c7 : x13_1 < (l0.length : Int)
    ·rw [if_pos c7] at H
     have c7b0 : decide (x13_1 < (l0.length : Int)) = true := decide_eq_true c7
     clear c7
     by_cases c8 : 0 ≤ x13_1
     rotate_left
     ·rw [if_neg c8] at H; exact absurd H (by simp)
     rw [if_pos c8] at H
     have c8b0 : decide (0 ≤ x13_1) = true := decide_eq_true c8
     clear c8
     by_cases c9 : x13_1 < (l0.length : Int)
     rotate_left
     ·rw [if_neg c9] at H; exact absurd H (by simp)
     rw [if_pos c9] at H
     have c9b0 : decide (x13_1 < (l0.length : Int)) = true := decide_eq_true c9
     clear c9
     have H0_ := bo_ H; clear H; obtain ⟨⟨t113, t114, t115⟩, A10, H⟩ := H0_
     replace H : (tally_Sum.l0 k1 l0 (l0.length : Int) (wrap64 (x13_1 + 1)) t113 t114 t115) = some (r1, r2, r3, r4) := H
     have H' := Aside0.mk H
     clear H
     have p111 : 0 ≤ (x13_1 : Int) := of_decide_eq_true (by first | (with_reducible assumption) | assumption)
     have q111 : x13_1 < (l0.length : Int) := of_decide_eq_true (by first | (with_reducible assumption) | assumption)
     obtain ⟨ad111, e111, hx111_0, hx111_1, hx111_2⟩ := at_T25 HR0.out x13_1 p111 q111
     cases e111
     replace hx111_0 := (HB.out.cell (World.block_lt_of_cell? w _ hx111_0)).trans hx111_0
     replace hx111_1 := (HB.out.cell (World.block_lt_of_cell? w _ hx111_1)).trans hx111_1
     replace hx111_2 := (HB.out.cell (World.block_lt_of_cell? w _ hx111_2)).trans hx111_2
     replace p111 := eq_true p111
     replace q111 := eq_true q111
     go_wp2_with (first | ((with_reducible refine gate_dst (N := 6) rfl ?_); refine bx_ #[.int .u64 0, .int .u64 0, .int .u64 0] 25 ?_; intro gb112 hg w11 BK112 hb; have GW112 := bz_ w hg; have NB109_112 := bn_ BK109 hg; have NB112_109 := bm_ BK109 hg; have NB110_112 := bn_ BK110 hg; have NB112_110 := bm_ BK110 hg; replace BK109 := bb_ BK109 hb; replace BK110 := bb_ BK110 hb; replace HB := bs_ w hb; clear hb hg; replace hn112_109 := NB112_109.out; replace hn109_112 := NB109_112.out; replace hn112_110 := NB112_110.out; replace hn110_112 := NB110_112.out; replace hc112 := ce3_ BK112; replace hn110_109 := NB110_109.out; replace hn109_110 := NB109_110.out; replace hc110 := ce3_ BK110) | ((with_reducible refine gate_callee (f := 22) rfl ?_); refine goesA_ (some 19) Try.func22 #[.agg #[.int .u64 x111000_1, .int .u64 x111001_1, .int .u64 x111002_1], .agg #[.int .u64 ((rd_T25 l0 x13_1).f0), .int .u64 ((rd_T25 l0 x13_1).f1), .int .u64 ((rd_T25 l0 x13_1).f2)]] ?_; (with_reducible refine (tally_Add.calls x111000_1 x111001_1 x111002_1 ((rd_T25 l0 x13_1).f0) ((rd_T25 l0 x13_1).f1) ((rd_T25 l0 x13_1).f2) t113 t114 t115 _ A10.out).mono ?_); rintro e w17 ⟨rfl, hb⟩; refine ⟨_, rfl, ?_⟩; replace BK109 := bf_ BK109 hb; replace BK110 := bf_ BK110 hb; replace BK112 := Aside0.mk (blk_below (g := gb112) (o := .cells #[.int .u64 ((rd_T25 l0 x13_1).f0), .int .u64 ((rd_T25 l0 x13_1).f1), .int .u64 ((rd_T25 l0 x13_1).f2)] 25 (0, 0)) (bp3_ (bq_ BK112)) hb); replace HB := bs_ w hb; clear hb; replace hc110 := ce3_ BK110))
     go_roundg k1
     case measure => have := HK1.out; omega
     case rel => exact ⟨(wrap64 (x13_1 + 1)), (t113), (t114), (t115), rf_, H', ⟨by have := HK1.out; omega⟩, ⟨(bt_ BK109)⟩, ⟨(bp3_ (bq_ BK110))⟩, bw_⟩
    ·rw [if_neg c7] at H
     have c7b0 : decide (x13_1 < (l0.length : Int)) = false := decide_eq_false c7
     clear c7
     simp only [Option.some.injEq, Prod.mk.injEq] at H
     obtain ⟨rfl, rfl, rfl, rfl⟩ := H
     replace hn110_109 := NB110_109.out
     replace hn109_110 := NB109_110.out
     replace hc110 := ce3_ BK110
     replace hc109 := ce3_ BK109
     go_wp2
     refine bodyPost_ret (results_ct rfl _ _ gb109 25 #[.int .u64 x111000_1, .int .u64 x111001_1, .int .u64 x111002_1] (0, 0) _ rfl (bp3_ (bq_ BK109)) Try.underlying25 rfl (by kernel_rfl)) rfl ?_
     exact fi_

/-! ### spigotref21_plus: function 51 -/
def spigotref21_plus.f (a0 : Int) (a1 : Int) : Option (Int) := if a1 > (IntKind.u64.wrap (18446744073709551615 - a0)) then (some 18446744073709551615) else (some (IntKind.u64.wrap (a0 + a1)))
set_option maxHeartbeats 8000000 in
set_option maxRecDepth 100000 in
theorem spigotref21_plus.calls (a0 : Int) (a1 : Int) (r : Int) (w : World) (h : spigotref21_plus.f a0 a1 = some r) :
  Calls Try.prog 51 #[.int .u64 a0, .int .u64 a1] w fun e w' => e = .returned (.int .u64 r) ∧ Drawn0 w w' := by
 have H : (if a1 > (IntKind.u64.wrap (18446744073709551615 - a0)) then (some 18446744073709551615) else (some (IntKind.u64.wrap (a0 + a1)))) = some r := h
 clear h
 by_cases c3 : a1 > (IntKind.u64.wrap (18446744073709551615 - a0))
 ·rw [if_pos c3] at H
  have c3b0 : decide ((IntKind.u64.wrap (18446744073709551615 - a0)) < a1) = true := decide_eq_true c3
  clear c3
  obtain rfl := Option.some.inj H
  go_enter Try.func51, Try.ntmps51
  go_wp2
  go_ret
  exact ⟨by first | rfl | (simp; done) | (simp [*]; done), by repeat (first | exact Drawn0.refl _ | apply Drawn0.step)⟩
 ·rw [if_neg c3] at H
  have c3b0 : decide ((IntKind.u64.wrap (18446744073709551615 - a0)) < a1) = false := decide_eq_false c3
  clear c3
  obtain rfl := Option.some.inj H
  go_enter Try.func51, Try.ntmps51
  go_wp2
  go_ret
  exact ⟨by first | rfl | (simp; done) | (simp [*]; done), by repeat (first | exact Drawn0.refl _ | apply Drawn0.step)⟩

/-! ### spigotref21_Add: function 23 -/
def spigotref21_Add.f (a0_0 : Int) (a0_1 : Int) (a0_2 : Int) (a1_0 : Int) (a1_1 : Int) (a1_2 : Int) : Option (Int × Int × Int) := (spigotref21_plus.f a0_0 a1_0).bind fun t119 => ((spigotref21_plus.f a0_1 a1_1).bind fun t120 => ((spigotref21_plus.f a0_2 a1_2).bind fun t121 => (some (t119, t120, t121))))
def spigotref21_Add.T1 : Bool × List (List Nat × List Nat) := (true, [([], []), ([0], [0]), ([], []), ([2], [2]), ([1, 3], [1, 3]), ([], []), ([5], [5]), ([], []), ([7], [7]), ([6, 8, 4], [6, 8]), ([], []), ([10], [10]), ([], []), ([12], [12]), ([11, 13, 9], [11, 13]), ([4, 9, 14], [4, 9, 14]), ([15, 14, 0, 1, 2, 3, 4, 5, 6, 7, 8, 9, 10, 11, 12, 13, 14, 15], [15])])
def spigotref21_Add.B1 : List Nat := [0, 1, 0, 4, 15, 0, 32, 0, 128, 511, 0, 1024, 0, 4096, 16383, 32767, 65535]
theorem spigotref21_Add.tab1 : rtab .any (opsOf Try.f23 1) = spigotref21_Add.T1 := by kernel_rfl
theorem spigotref21_Add.bits1 : waitsOk spigotref21_Add.T1.2 spigotref21_Add.B1 = true := by kernel_rfl
set_option maxHeartbeats 8000000 in
set_option maxRecDepth 100000 in
theorem spigotref21_Add.calls (a0_0 : Int) (a0_1 : Int) (a0_2 : Int) (a1_0 : Int) (a1_1 : Int) (a1_2 : Int) (r1 : Int) (r2 : Int) (r3 : Int) (w : World) (h : spigotref21_Add.f a0_0 a0_1 a0_2 a1_0 a1_1 a1_2 = some (r1, r2, r3)) :
  Calls Try.prog 23 #[.agg #[.int .u64 a0_0, .int .u64 a0_1, .int .u64 a0_2], .agg #[.int .u64 a1_0, .int .u64 a1_1, .int .u64 a1_2]] w fun e w' => e = .returned (.agg #[.int .u64 r1, .int .u64 r2, .int .u64 r3]) ∧ Below w.heap.size w w' := by
 have hu25 := Try.underlying25
 have HB := Aside0.mk (Below.refl w.heap.size w)
 have H : ((spigotref21_plus.f a0_0 a1_0).bind fun t119 => ((spigotref21_plus.f a0_1 a1_1).bind fun t120 => ((spigotref21_plus.f a0_2 a1_2).bind fun t121 => (some (t119, t120, t121))))) = some (r1, r2, r3) := h
 clear h
 have H0_ := bo_ H; clear H; obtain ⟨t119, A3, H⟩ := H0_
 replace H : ((spigotref21_plus.f a0_1 a1_1).bind fun t120 => ((spigotref21_plus.f a0_2 a1_2).bind fun t121 => (some (t119, t120, t121)))) = some (r1, r2, r3) := H
 have H0_ := bo_ H; clear H; obtain ⟨t120, A4, H⟩ := H0_
 replace H : ((spigotref21_plus.f a0_2 a1_2).bind fun t121 => (some (t119, t120, t121))) = some (r1, r2, r3) := H
 have H0_ := bo_ H; clear H; obtain ⟨t121, A5, H⟩ := H0_
 replace H : (some (t119, t120, t121)) = some (r1, r2, r3) := H
 simp only [Option.some.injEq, Prod.mk.injEq] at H
 obtain ⟨rfl, rfl, rfl⟩ := H
 go_enter Try.func23, Try.ntmps23
 try go_wp2_with (first | ((with_reducible refine gate_dst (N := 2) rfl ?_); refine bx_ #[.int .u64 a0_0, .int .u64 a0_1, .int .u64 a0_2] 25 ?_; intro gb116 hg w6 BK116 hb; have GW116 := bz_ w hg; replace HB := bs_ w hb; clear hb hg) | ((with_reducible refine gate_dst (N := 3) rfl ?_); refine bx_ #[.int .u64 a1_0, .int .u64 a1_1, .int .u64 a1_2] 25 ?_; intro gb117 hg w7 BK117 hb; have GW117 := bz_ w hg; have NB116_117 := bn_ BK116 hg; have NB117_116 := bm_ BK116 hg; replace BK116 := bb_ BK116 hb; replace HB := bs_ w hb; clear hb hg) | ((with_reducible refine gate_dst (N := 4) rfl ?_); refine bx_ #[.int .u64 0, .int .u64 0, .int .u64 0] 25 ?_; intro gb118 hg w8 BK118 hb; have GW118 := bz_ w hg; have NB116_118 := bn_ BK116 hg; have NB118_116 := bm_ BK116 hg; have NB117_118 := bn_ BK117 hg; have NB118_117 := bm_ BK117 hg; replace BK116 := bb_ BK116 hb; replace BK117 := bb_ BK117 hb; replace HB := bs_ w hb; clear hb hg))
 replace BK116 := Aside0.mk (blk_drew BK116.out)
 replace BK117 := Aside0.mk (blk_drew BK117.out)
 replace BK118 := Aside0.mk (blk_drew BK118.out)
 replace HB := Aside0.mk (below_drew1 HB.out)
 refine start_ (n := 17) (S := fun w' => w'.cell? ⟨gb116, 0, none⟩ = some (.int .u64 a0_0) ∧ w'.cell? ⟨gb116, 1, none⟩ = some (.int .u64 a0_1) ∧ w'.cell? ⟨gb116, 2, none⟩ = some (.int .u64 a0_2) ∧ w'.cell? ⟨gb117, 0, none⟩ = some (.int .u64 a1_0) ∧ w'.cell? ⟨gb117, 1, none⟩ = some (.int .u64 a1_1) ∧ w'.cell? ⟨gb117, 2, none⟩ = some (.int .u64 a1_2)) (ds := []) (bl_ 17 0) (by kernel_rfl) rfl (by kernel_rfl) ⟨(blk_cell BK116.out 0).trans rfl, (blk_cell BK116.out 1).trans rfl, (blk_cell BK116.out 2).trans rfl, (blk_cell BK117.out 0).trans rfl, (blk_cell BK117.out 1).trans rfl, (blk_cell BK117.out 2).trans rfl⟩ (fun hHeld => ?_); refine with_tabW spigotref21_Add.tab1 spigotref21_Add.bits1 (fun HT_ HW_ => ?_)
 generalize w8.drew = w9 at BK116 BK117 BK118 HB hHeld ⊢
 refine pa_ 0 (some 5) (bl_ 17 1) HT_ ?_
 refine pa_ 2 (some 7) (bl_ 17 5) HT_ ?_
 refine pa_ 5 (some 10) (bl_ 17 37) HT_ ?_
 refine pa_ 7 (some 12) (bl_ 17 165) HT_ ?_
 refine pa_ 10 (some 15) (bl_ 17 1189) HT_ ?_
 refine pa_ 12 (some 17) (bl_ 17 5285) HT_ ?_
 refine ta_ 1 (some 6) (bl_ 17 5287) HT_ HW_ hHeld ?_
 refine ta_ 3 (some 8) (bl_ 17 5295) HT_ HW_ hHeld ?_
 refine ta_ 6 (some 11) (bl_ 17 5359) HT_ HW_ hHeld ?_
 refine ta_ 8 (some 13) (bl_ 17 5615) HT_ HW_ hHeld ?_
 refine ta_ 11 (some 16) (bl_ 17 7663) HT_ HW_ hHeld ?_
 refine ta_ 13 (some 18) (bl_ 17 15855) HT_ HW_ hHeld ?_
 refine oa_ 4 (some 9) (bl_ 17 15871) HT_ fun K hK => ?_
 refine goesB_ Try.func51 #[.int .u64 a0_0, .int .u64 a1_0] ?_
 with_reducible refine (spigotref21_plus.calls a0_0 a1_0 t119 _ A3.out).mono ?_
 rintro e w' ⟨rfl, ⟨nd, rfl⟩⟩
 refine ⟨_, rfl, ?_⟩
 refine hK.out _ _ ⟨(blk_cell BK116.out 0).trans rfl, (blk_cell BK116.out 1).trans rfl, (blk_cell BK116.out 2).trans rfl, (blk_cell BK117.out 0).trans rfl, (blk_cell BK117.out 1).trans rfl, (blk_cell BK117.out 2).trans rfl⟩ (fun hHeld => ?_)
 clear hK K
 refine nm_ (some 9) ?_
 refine oa_ 9 (some 14) (bl_ 17 16383) HT_ fun K hK => ?_
 refine goesB_ Try.func51 #[.int .u64 a0_1, .int .u64 a1_1] ?_
 with_reducible refine (spigotref21_plus.calls a0_1 a1_1 t120 _ A4.out).mono ?_
 rintro e w' ⟨rfl, ⟨nd, rfl⟩⟩
 refine ⟨_, rfl, ?_⟩
 refine hK.out _ _ ⟨(blk_cell BK116.out 0).trans rfl, (blk_cell BK116.out 1).trans rfl, (blk_cell BK116.out 2).trans rfl, (blk_cell BK117.out 0).trans rfl, (blk_cell BK117.out 1).trans rfl, (blk_cell BK117.out 2).trans rfl⟩ (fun hHeld => ?_)
 clear hK K
 refine nm_ (some 14) ?_
 refine oa_ 14 (some 19) (bl_ 17 32767) HT_ fun K hK => ?_
 refine goesB_ Try.func51 #[.int .u64 a0_2, .int .u64 a1_2] ?_
 with_reducible refine (spigotref21_plus.calls a0_2 a1_2 t121 _ A5.out).mono ?_
 rintro e w' ⟨rfl, ⟨nd, rfl⟩⟩
 refine ⟨_, rfl, ?_⟩
 refine hK.out _ _ ⟨(blk_cell BK116.out 0).trans rfl, (blk_cell BK116.out 1).trans rfl, (blk_cell BK116.out 2).trans rfl, (blk_cell BK117.out 0).trans rfl, (blk_cell BK117.out 1).trans rfl, (blk_cell BK117.out 2).trans rfl⟩ (fun hHeld => ?_)
 clear hK K
 refine nm_ (some 19) ?_
 refine pa_ 15 (some 20) (bl_ 17 65535) HT_ ?_
 refine oa_ 16 none (bl_ 17 131071) HT_ fun K hK => ?_
 have hs10 : w9.cell? ⟨gb118, 0, none⟩ = some (.int .u64 0) := (blk_cell BK118.out 0).trans rfl
 have hfs10 := blk_frozen BK118.out 0
 have hns10_0 := NB116_118.out
 have hns10_1 := NB117_118.out
 have hms10_0 := NB118_116.out
 have hms10_1 := NB118_117.out
 have hs11 : w9.cell? ⟨gb118, 1, none⟩ = some (.int .u64 0) := (blk_cell BK118.out 1).trans rfl
 have hfs11 := blk_frozen BK118.out 1
 have hns11_0 := NB116_118.out
 have hns11_1 := NB117_118.out
 have hms11_0 := NB118_116.out
 have hms11_1 := NB118_117.out
 have hs12 : w9.cell? ⟨gb118, 2, none⟩ = some (.int .u64 0) := (blk_cell BK118.out 2).trans rfl
 have hfs12 := blk_frozen BK118.out 2
 have hns12_0 := NB116_118.out
 have hns12_1 := NB117_118.out
 have hms12_0 := NB118_116.out
 have hms12_1 := NB118_117.out
 refine sk_ ?_
 refine hK.out _ _ ⟨((cell_far (p := ⟨gb118, _, none⟩) NB116_118.out _).trans (((cell_far (p := ⟨gb118, _, none⟩) NB116_118.out _).trans (((cell_far (p := ⟨gb118, _, none⟩) NB116_118.out _).trans (hHeld.1)))))), ((cell_far (p := ⟨gb118, _, none⟩) NB116_118.out _).trans (((cell_far (p := ⟨gb118, _, none⟩) NB116_118.out _).trans (((cell_far (p := ⟨gb118, _, none⟩) NB116_118.out _).trans (hHeld.2.1)))))), ((cell_far (p := ⟨gb118, _, none⟩) NB116_118.out _).trans (((cell_far (p := ⟨gb118, _, none⟩) NB116_118.out _).trans (((cell_far (p := ⟨gb118, _, none⟩) NB116_118.out _).trans (hHeld.2.2.1)))))), ((cell_far (p := ⟨gb118, _, none⟩) NB117_118.out _).trans (((cell_far (p := ⟨gb118, _, none⟩) NB117_118.out _).trans (((cell_far (p := ⟨gb118, _, none⟩) NB117_118.out _).trans (hHeld.2.2.2.1)))))), ((cell_far (p := ⟨gb118, _, none⟩) NB117_118.out _).trans (((cell_far (p := ⟨gb118, _, none⟩) NB117_118.out _).trans (((cell_far (p := ⟨gb118, _, none⟩) NB117_118.out _).trans (hHeld.2.2.2.2.1)))))), ((cell_far (p := ⟨gb118, _, none⟩) NB117_118.out _).trans (((cell_far (p := ⟨gb118, _, none⟩) NB117_118.out _).trans (((cell_far (p := ⟨gb118, _, none⟩) NB117_118.out _).trans (hHeld.2.2.2.2.2))))))⟩ (fun hHeld => ?_)
 clear hK K
 refine done_ (done_of HT_.out (by kernel_rfl)) ?_
 try go_wp2
 refine bodyPost_ret (results_cell_row rfl _ _ gb118 25 #[.int .u64 t119, .int .u64 t120, .int .u64 t121] (0, 0) _ rfl (bp3_ (bq_ BK118)) Try.underlying25 rfl (by kernel_rfl)) rfl ?_
 exact fi_

end Go.Proofs.Ytcdmjdghmbdikaa.X
