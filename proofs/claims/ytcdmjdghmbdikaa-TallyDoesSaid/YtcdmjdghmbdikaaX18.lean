-- written by xprint.py, a program of this session over the kit's print
import Derived.Test.YtcdmjdghmbdikaaX0
namespace Go.Proofs.Ytcdmjdghmbdikaa.X
open Go.RowKit Go.Proofs.YtcdmjdghmbdikaaW.PrintWords Go.Proofs.YtcdmjdghmbdikaaW.PrintLast Go.Proofs.YtcdmjdghmbdikaaW.PrintMore
attribute [local go_sem] max2_int min2_int max_two min_two max_three min_three max_four min_four   -- for this text's walks alone
set_option linter.unusedVariables false
set_option linter.unusedSimpArgs false

/-! ### spigotref21_AtMost: function 48 -/
def spigotref21_AtMost.T4 : Bool × List (List Nat × List Nat) := (true, [([], []), ([0], [0]), ([1], [1]), ([], []), ([3], [3]), ([4], [4]), ([2, 5], [2, 5])])
def spigotref21_AtMost.B4 : List Nat := [0, 1, 3, 0, 8, 24, 63]
theorem spigotref21_AtMost.tab4 : rtab .any (opsOf Try.f48 4) = spigotref21_AtMost.T4 := by kernel_rfl
theorem spigotref21_AtMost.bits4 : waitsOk spigotref21_AtMost.T4.2 spigotref21_AtMost.B4 = true := by kernel_rfl
def spigotref21_AtMost.T5 : Bool × List (List Nat × List Nat) := (true, [([], []), ([0], [0]), ([1], [1]), ([], []), ([3], [3]), ([4], [4]), ([2, 5], [2, 5]), ([6, 0, 1, 2, 3, 4, 5, 6], [6])])
def spigotref21_AtMost.B5 : List Nat := [0, 1, 3, 0, 8, 24, 63, 127]
theorem spigotref21_AtMost.tab5 : rtab .any (opsOf Try.f48 5) = spigotref21_AtMost.T5 := by kernel_rfl
theorem spigotref21_AtMost.bits5 : waitsOk spigotref21_AtMost.T5.2 spigotref21_AtMost.B5 = true := by kernel_rfl
def spigotref21_AtMost.f (a0 : Int) (a1 : Int) (a2 : Int) (a3 : Int) (a4 : Int) (a5 : Int) (b0 : Int) (b1 : Int) (b2 : Int) (b3 : Int) (b4 : Int) (b5 : Int) : Option Bool := if a5 = b5 then (if a4 = b4 then (if a3 = b3 then (if a2 = b2 then (if a1 = b1 then (if a0 = b0 then (some true) else some (decide (a0 < b0))) else some (decide (a1 < b1))) else some (decide (a2 < b2))) else some (decide (a3 < b3))) else some (decide (a4 < b4))) else some (decide (a5 < b5))
set_option maxHeartbeats 8000000 in
set_option maxRecDepth 100000 in
theorem spigotref21_AtMost.calls (a0 : Int) (a1 : Int) (a2 : Int) (a3 : Int) (a4 : Int) (a5 : Int) (b0 : Int) (b1 : Int) (b2 : Int) (b3 : Int) (b4 : Int) (b5 : Int) (r : Bool) (w : World) (h : spigotref21_AtMost.f a0 a1 a2 a3 a4 a5 b0 b1 b2 b3 b4 b5 = some r) :
  Calls Try.prog 48 #[.agg #[.int .u64 a0, .int .u64 a1, .int .u64 a2, .int .u64 a3, .int .u64 a4, .int .u64 a5], .agg #[.int .u64 b0, .int .u64 b1, .int .u64 b2, .int .u64 b3, .int .u64 b4, .int .u64 b5]] w fun e w' => e = .returned (.bool r) ∧ Below w.heap.size w w' := by
 unfold spigotref21_AtMost.f at h
 have hu74 := Try.underlying74
 have HB := Aside0.mk (Below.refl w.heap.size w)
 have ew0 : wrap64 (0 : Int) = 0 := by unfold wrap64; omega
 have ew1 : wrap64 (1 : Int) = 1 := by unfold wrap64; omega
 have ew2 : wrap64 (2 : Int) = 2 := by unfold wrap64; omega
 have ew3 : wrap64 (3 : Int) = 3 := by unfold wrap64; omega
 have ew4 : wrap64 (4 : Int) = 4 := by unfold wrap64; omega
 have ew5 : wrap64 (5 : Int) = 5 := by unfold wrap64; omega
 have ew6 : wrap64 (6 : Int) = 6 := by unfold wrap64; omega
 have ew7 : wrap64 (7 : Int) = 7 := by unfold wrap64; omega
 have ewm : wrap64 (-1 : Int) = -1 := by unfold wrap64; omega
 go_enter Try.func48, Try.ntmps48
 go_wp2_with (first | ((with_reducible refine gate_dst (N := 2) rfl ?_); refine bx_ #[.int .u64 a0, .int .u64 a1, .int .u64 a2, .int .u64 a3, .int .u64 a4, .int .u64 a5] 74 ?_; intro gb2 hg w2 BK2 hb; have GW2 := bz_ w hg; replace HB := bs_ w hb; clear hb hg) | ((with_reducible refine gate_dst (N := 3) rfl ?_); refine bx_ #[.int .u64 b0, .int .u64 b1, .int .u64 b2, .int .u64 b3, .int .u64 b4, .int .u64 b5] 74 ?_; intro gb3 hg w3 BK3 hb; have GW3 := bz_ w hg; have NB2_3 := bn_ BK2 hg; have NB3_2 := bm_ BK2 hg; replace BK2 := bb_ BK2 hb; replace HB := bs_ w hb; clear hb hg))
 have hn2_3 := NB2_3.out
 have hn3_2 := NB3_2.out
 refine wp_loop_rounds 7 ?_
 rw [rounds_succ]
 by_cases c5 : a5 = b5
 rotate_left
 ·rw [if_neg c5] at h
  have e5 : (a5 != b5) = true := bne_iff_ne.mpr c5
  clear c5
  go_wp2
  refine start_ (n := 7) (S := fun w' => w'.cell? ⟨gb2, 5, none⟩ = some (.int .u64 a5) ∧ w'.cell? ⟨gb3, 5, none⟩ = some (.int .u64 b5)) (ds := []) (bl_ 7 0) (by kernel_rfl) rfl (by kernel_rfl) ⟨(blk_cell BK2.out 5).trans rfl, (blk_cell BK3.out 5).trans rfl⟩ (fun hHeld => ?_); refine with_tabW spigotref21_AtMost.tab4 spigotref21_AtMost.bits4 (fun HT_ HW_ => ?_)
  replace BK2 := Aside0.mk (blk_drew BK2.out)
  replace BK3 := Aside0.mk (blk_drew BK3.out)
  replace HB := Aside0.mk (below_drew1 HB.out)
  generalize w3.drew = w4 at BK2 BK3 HB hHeld ⊢
  refine pa_ 0 (some 10) (bl_ 7 1) HT_ ?_
  refine pa_ 1 (some 11) (bl_ 7 3) HT_ ?_
  refine pa_ 3 (some 13) (bl_ 7 11) HT_ ?_
  refine pa_ 4 (some 14) (bl_ 7 27) HT_ ?_
  refine ta_ 2 (some 12) (bl_ 7 31) HT_ HW_ hHeld ?_
  refine ta_ 5 (some 15) (bl_ 7 63) HT_ HW_ hHeld ?_
  refine pa_ 6 (some 16) (bl_ 7 127) HT_ ?_
  have hc2 := ce6_ BK2
  have hc3 := ce6_ BK3
  refine done_ (done_of HT_.out (by kernel_rfl)) ?_
  go_wp2
  clear hc2 hc3
  refine start_ (n := 8) (S := fun w' => w'.cell? ⟨gb2, 5, none⟩ = some (.int .u64 a5) ∧ w'.cell? ⟨gb3, 5, none⟩ = some (.int .u64 b5)) (ds := []) (bl_ 8 0) (by kernel_rfl) rfl (by kernel_rfl) ⟨(blk_cell BK2.out 5).trans rfl, (blk_cell BK3.out 5).trans rfl⟩ (fun hHeld => ?_); refine with_tabW spigotref21_AtMost.tab5 spigotref21_AtMost.bits5 (fun HT_ HW_ => ?_)
  replace BK2 := Aside0.mk (blk_drew BK2.out)
  replace BK3 := Aside0.mk (blk_drew BK3.out)
  replace HB := Aside0.mk (below_drew1 HB.out)
  generalize w4.drew = w5 at BK2 BK3 HB hHeld ⊢
  refine pa_ 0 (some 17) (bl_ 8 1) HT_ ?_
  refine pa_ 1 (some 18) (bl_ 8 3) HT_ ?_
  refine pa_ 3 (some 20) (bl_ 8 11) HT_ ?_
  refine pa_ 4 (some 21) (bl_ 8 27) HT_ ?_
  refine ta_ 2 (some 19) (bl_ 8 31) HT_ HW_ hHeld ?_
  refine ta_ 5 (some 22) (bl_ 8 63) HT_ HW_ hHeld ?_
  refine pa_ 6 (some 23) (bl_ 8 127) HT_ ?_
  refine pa_ 7 (some 4) (bl_ 8 255) HT_ ?_
  have hc2 := ce6_ BK2
  have hc3 := ce6_ BK3
  refine done_ (done_of HT_.out (by kernel_rfl)) ?_
  go_wp2
  obtain rfl := Option.some.inj h
  go_ret
  exact fi_
 rw [if_pos c5] at h
 have e5 : (a5 != b5) = false := bne_eq_false_iff_eq.mpr c5
 clear c5
 go_wp2
 refine start_ (n := 7) (S := fun w' => w'.cell? ⟨gb2, 5, none⟩ = some (.int .u64 a5) ∧ w'.cell? ⟨gb3, 5, none⟩ = some (.int .u64 b5)) (ds := []) (bl_ 7 0) (by kernel_rfl) rfl (by kernel_rfl) ⟨(blk_cell BK2.out 5).trans rfl, (blk_cell BK3.out 5).trans rfl⟩ (fun hHeld => ?_); refine with_tabW spigotref21_AtMost.tab4 spigotref21_AtMost.bits4 (fun HT_ HW_ => ?_)
 replace BK2 := Aside0.mk (blk_drew BK2.out)
 replace BK3 := Aside0.mk (blk_drew BK3.out)
 replace HB := Aside0.mk (below_drew1 HB.out)
 generalize w3.drew = w4 at BK2 BK3 HB hHeld ⊢
 refine pa_ 0 (some 10) (bl_ 7 1) HT_ ?_
 refine pa_ 1 (some 11) (bl_ 7 3) HT_ ?_
 refine pa_ 3 (some 13) (bl_ 7 11) HT_ ?_
 refine pa_ 4 (some 14) (bl_ 7 27) HT_ ?_
 refine ta_ 2 (some 12) (bl_ 7 31) HT_ HW_ hHeld ?_
 refine ta_ 5 (some 15) (bl_ 7 63) HT_ HW_ hHeld ?_
 refine pa_ 6 (some 16) (bl_ 7 127) HT_ ?_
 have hc2 := ce6_ BK2
 have hc3 := ce6_ BK3
 refine done_ (done_of HT_.out (by kernel_rfl)) ?_
 go_wp2
 clear hc2 hc3
 rw [rounds_succ]
 by_cases c4 : a4 = b4
 rotate_left
 ·rw [if_neg c4] at h
  have e4 : (a4 != b4) = true := bne_iff_ne.mpr c4
  clear c4
  go_wp2
  refine start_ (n := 7) (S := fun w' => w'.cell? ⟨gb2, 4, none⟩ = some (.int .u64 a4) ∧ w'.cell? ⟨gb3, 4, none⟩ = some (.int .u64 b4)) (ds := []) (bl_ 7 0) (by kernel_rfl) rfl (by kernel_rfl) ⟨(blk_cell BK2.out 4).trans rfl, (blk_cell BK3.out 4).trans rfl⟩ (fun hHeld => ?_); refine with_tabW spigotref21_AtMost.tab4 spigotref21_AtMost.bits4 (fun HT_ HW_ => ?_)
  replace BK2 := Aside0.mk (blk_drew BK2.out)
  replace BK3 := Aside0.mk (blk_drew BK3.out)
  replace HB := Aside0.mk (below_drew1 HB.out)
  generalize w4.drew = w5 at BK2 BK3 HB hHeld ⊢
  refine pa_ 0 (some 10) (bl_ 7 1) HT_ ?_
  refine pa_ 1 (some 11) (bl_ 7 3) HT_ ?_
  refine pa_ 3 (some 13) (bl_ 7 11) HT_ ?_
  refine pa_ 4 (some 14) (bl_ 7 27) HT_ ?_
  refine ta_ 2 (some 12) (bl_ 7 31) HT_ HW_ hHeld ?_
  refine ta_ 5 (some 15) (bl_ 7 63) HT_ HW_ hHeld ?_
  refine pa_ 6 (some 16) (bl_ 7 127) HT_ ?_
  have hc2 := ce6_ BK2
  have hc3 := ce6_ BK3
  refine done_ (done_of HT_.out (by kernel_rfl)) ?_
  go_wp2
  clear hc2 hc3
  refine start_ (n := 8) (S := fun w' => w'.cell? ⟨gb2, 4, none⟩ = some (.int .u64 a4) ∧ w'.cell? ⟨gb3, 4, none⟩ = some (.int .u64 b4)) (ds := []) (bl_ 8 0) (by kernel_rfl) rfl (by kernel_rfl) ⟨(blk_cell BK2.out 4).trans rfl, (blk_cell BK3.out 4).trans rfl⟩ (fun hHeld => ?_); refine with_tabW spigotref21_AtMost.tab5 spigotref21_AtMost.bits5 (fun HT_ HW_ => ?_)
  replace BK2 := Aside0.mk (blk_drew BK2.out)
  replace BK3 := Aside0.mk (blk_drew BK3.out)
  replace HB := Aside0.mk (below_drew1 HB.out)
  generalize w5.drew = w6 at BK2 BK3 HB hHeld ⊢
  refine pa_ 0 (some 17) (bl_ 8 1) HT_ ?_
  refine pa_ 1 (some 18) (bl_ 8 3) HT_ ?_
  refine pa_ 3 (some 20) (bl_ 8 11) HT_ ?_
  refine pa_ 4 (some 21) (bl_ 8 27) HT_ ?_
  refine ta_ 2 (some 19) (bl_ 8 31) HT_ HW_ hHeld ?_
  refine ta_ 5 (some 22) (bl_ 8 63) HT_ HW_ hHeld ?_
  refine pa_ 6 (some 23) (bl_ 8 127) HT_ ?_
  refine pa_ 7 (some 4) (bl_ 8 255) HT_ ?_
  have hc2 := ce6_ BK2
  have hc3 := ce6_ BK3
  refine done_ (done_of HT_.out (by kernel_rfl)) ?_
  go_wp2
  obtain rfl := Option.some.inj h
  go_ret
  exact fi_
 rw [if_pos c4] at h
 have e4 : (a4 != b4) = false := bne_eq_false_iff_eq.mpr c4
 clear c4
 go_wp2
 refine start_ (n := 7) (S := fun w' => w'.cell? ⟨gb2, 4, none⟩ = some (.int .u64 a4) ∧ w'.cell? ⟨gb3, 4, none⟩ = some (.int .u64 b4)) (ds := []) (bl_ 7 0) (by kernel_rfl) rfl (by kernel_rfl) ⟨(blk_cell BK2.out 4).trans rfl, (blk_cell BK3.out 4).trans rfl⟩ (fun hHeld => ?_); refine with_tabW spigotref21_AtMost.tab4 spigotref21_AtMost.bits4 (fun HT_ HW_ => ?_)
 replace BK2 := Aside0.mk (blk_drew BK2.out)
 replace BK3 := Aside0.mk (blk_drew BK3.out)
 replace HB := Aside0.mk (below_drew1 HB.out)
 generalize w4.drew = w5 at BK2 BK3 HB hHeld ⊢
 refine pa_ 0 (some 10) (bl_ 7 1) HT_ ?_
 refine pa_ 1 (some 11) (bl_ 7 3) HT_ ?_
 refine pa_ 3 (some 13) (bl_ 7 11) HT_ ?_
 refine pa_ 4 (some 14) (bl_ 7 27) HT_ ?_
 refine ta_ 2 (some 12) (bl_ 7 31) HT_ HW_ hHeld ?_
 refine ta_ 5 (some 15) (bl_ 7 63) HT_ HW_ hHeld ?_
 refine pa_ 6 (some 16) (bl_ 7 127) HT_ ?_
 have hc2 := ce6_ BK2
 have hc3 := ce6_ BK3
 refine done_ (done_of HT_.out (by kernel_rfl)) ?_
 go_wp2
 clear hc2 hc3
 rw [rounds_succ]
 by_cases c3 : a3 = b3
 rotate_left
 ·rw [if_neg c3] at h
  have e3 : (a3 != b3) = true := bne_iff_ne.mpr c3
  clear c3
  go_wp2
  refine start_ (n := 7) (S := fun w' => w'.cell? ⟨gb2, 3, none⟩ = some (.int .u64 a3) ∧ w'.cell? ⟨gb3, 3, none⟩ = some (.int .u64 b3)) (ds := []) (bl_ 7 0) (by kernel_rfl) rfl (by kernel_rfl) ⟨(blk_cell BK2.out 3).trans rfl, (blk_cell BK3.out 3).trans rfl⟩ (fun hHeld => ?_); refine with_tabW spigotref21_AtMost.tab4 spigotref21_AtMost.bits4 (fun HT_ HW_ => ?_)
  replace BK2 := Aside0.mk (blk_drew BK2.out)
  replace BK3 := Aside0.mk (blk_drew BK3.out)
  replace HB := Aside0.mk (below_drew1 HB.out)
  generalize w5.drew = w6 at BK2 BK3 HB hHeld ⊢
  refine pa_ 0 (some 10) (bl_ 7 1) HT_ ?_
  refine pa_ 1 (some 11) (bl_ 7 3) HT_ ?_
  refine pa_ 3 (some 13) (bl_ 7 11) HT_ ?_
  refine pa_ 4 (some 14) (bl_ 7 27) HT_ ?_
  refine ta_ 2 (some 12) (bl_ 7 31) HT_ HW_ hHeld ?_
  refine ta_ 5 (some 15) (bl_ 7 63) HT_ HW_ hHeld ?_
  refine pa_ 6 (some 16) (bl_ 7 127) HT_ ?_
  have hc2 := ce6_ BK2
  have hc3 := ce6_ BK3
  refine done_ (done_of HT_.out (by kernel_rfl)) ?_
  go_wp2
  clear hc2 hc3
  refine start_ (n := 8) (S := fun w' => w'.cell? ⟨gb2, 3, none⟩ = some (.int .u64 a3) ∧ w'.cell? ⟨gb3, 3, none⟩ = some (.int .u64 b3)) (ds := []) (bl_ 8 0) (by kernel_rfl) rfl (by kernel_rfl) ⟨(blk_cell BK2.out 3).trans rfl, (blk_cell BK3.out 3).trans rfl⟩ (fun hHeld => ?_); refine with_tabW spigotref21_AtMost.tab5 spigotref21_AtMost.bits5 (fun HT_ HW_ => ?_)
  replace BK2 := Aside0.mk (blk_drew BK2.out)
  replace BK3 := Aside0.mk (blk_drew BK3.out)
  replace HB := Aside0.mk (below_drew1 HB.out)
  generalize w6.drew = w7 at BK2 BK3 HB hHeld ⊢
  refine pa_ 0 (some 17) (bl_ 8 1) HT_ ?_
  refine pa_ 1 (some 18) (bl_ 8 3) HT_ ?_
  refine pa_ 3 (some 20) (bl_ 8 11) HT_ ?_
  refine pa_ 4 (some 21) (bl_ 8 27) HT_ ?_
  refine ta_ 2 (some 19) (bl_ 8 31) HT_ HW_ hHeld ?_
  refine ta_ 5 (some 22) (bl_ 8 63) HT_ HW_ hHeld ?_
  refine pa_ 6 (some 23) (bl_ 8 127) HT_ ?_
  refine pa_ 7 (some 4) (bl_ 8 255) HT_ ?_
  have hc2 := ce6_ BK2
  have hc3 := ce6_ BK3
  refine done_ (done_of HT_.out (by kernel_rfl)) ?_
  go_wp2
  obtain rfl := Option.some.inj h
  go_ret
  exact fi_
 rw [if_pos c3] at h
 have e3 : (a3 != b3) = false := bne_eq_false_iff_eq.mpr c3
 clear c3
 go_wp2
 refine start_ (n := 7) (S := fun w' => w'.cell? ⟨gb2, 3, none⟩ = some (.int .u64 a3) ∧ w'.cell? ⟨gb3, 3, none⟩ = some (.int .u64 b3)) (ds := []) (bl_ 7 0) (by kernel_rfl) rfl (by kernel_rfl) ⟨(blk_cell BK2.out 3).trans rfl, (blk_cell BK3.out 3).trans rfl⟩ (fun hHeld => ?_); refine with_tabW spigotref21_AtMost.tab4 spigotref21_AtMost.bits4 (fun HT_ HW_ => ?_)
 replace BK2 := Aside0.mk (blk_drew BK2.out)
 replace BK3 := Aside0.mk (blk_drew BK3.out)
 replace HB := Aside0.mk (below_drew1 HB.out)
 generalize w5.drew = w6 at BK2 BK3 HB hHeld ⊢
 refine pa_ 0 (some 10) (bl_ 7 1) HT_ ?_
 refine pa_ 1 (some 11) (bl_ 7 3) HT_ ?_
 refine pa_ 3 (some 13) (bl_ 7 11) HT_ ?_
 refine pa_ 4 (some 14) (bl_ 7 27) HT_ ?_
 refine ta_ 2 (some 12) (bl_ 7 31) HT_ HW_ hHeld ?_
 refine ta_ 5 (some 15) (bl_ 7 63) HT_ HW_ hHeld ?_
 refine pa_ 6 (some 16) (bl_ 7 127) HT_ ?_
 have hc2 := ce6_ BK2
 have hc3 := ce6_ BK3
 refine done_ (done_of HT_.out (by kernel_rfl)) ?_
 go_wp2
 clear hc2 hc3
 rw [rounds_succ]
 by_cases c2 : a2 = b2
 rotate_left
 ·rw [if_neg c2] at h
  have e2 : (a2 != b2) = true := bne_iff_ne.mpr c2
  clear c2
  go_wp2
  refine start_ (n := 7) (S := fun w' => w'.cell? ⟨gb2, 2, none⟩ = some (.int .u64 a2) ∧ w'.cell? ⟨gb3, 2, none⟩ = some (.int .u64 b2)) (ds := []) (bl_ 7 0) (by kernel_rfl) rfl (by kernel_rfl) ⟨(blk_cell BK2.out 2).trans rfl, (blk_cell BK3.out 2).trans rfl⟩ (fun hHeld => ?_); refine with_tabW spigotref21_AtMost.tab4 spigotref21_AtMost.bits4 (fun HT_ HW_ => ?_)
  replace BK2 := Aside0.mk (blk_drew BK2.out)
  replace BK3 := Aside0.mk (blk_drew BK3.out)
  replace HB := Aside0.mk (below_drew1 HB.out)
  generalize w6.drew = w7 at BK2 BK3 HB hHeld ⊢
  refine pa_ 0 (some 10) (bl_ 7 1) HT_ ?_
  refine pa_ 1 (some 11) (bl_ 7 3) HT_ ?_
  refine pa_ 3 (some 13) (bl_ 7 11) HT_ ?_
  refine pa_ 4 (some 14) (bl_ 7 27) HT_ ?_
  refine ta_ 2 (some 12) (bl_ 7 31) HT_ HW_ hHeld ?_
  refine ta_ 5 (some 15) (bl_ 7 63) HT_ HW_ hHeld ?_
  refine pa_ 6 (some 16) (bl_ 7 127) HT_ ?_
  have hc2 := ce6_ BK2
  have hc3 := ce6_ BK3
  refine done_ (done_of HT_.out (by kernel_rfl)) ?_
  go_wp2
  clear hc2 hc3
  refine start_ (n := 8) (S := fun w' => w'.cell? ⟨gb2, 2, none⟩ = some (.int .u64 a2) ∧ w'.cell? ⟨gb3, 2, none⟩ = some (.int .u64 b2)) (ds := []) (bl_ 8 0) (by kernel_rfl) rfl (by kernel_rfl) ⟨(blk_cell BK2.out 2).trans rfl, (blk_cell BK3.out 2).trans rfl⟩ (fun hHeld => ?_); refine with_tabW spigotref21_AtMost.tab5 spigotref21_AtMost.bits5 (fun HT_ HW_ => ?_)
  replace BK2 := Aside0.mk (blk_drew BK2.out)
  replace BK3 := Aside0.mk (blk_drew BK3.out)
  replace HB := Aside0.mk (below_drew1 HB.out)
  generalize w7.drew = w8 at BK2 BK3 HB hHeld ⊢
  refine pa_ 0 (some 17) (bl_ 8 1) HT_ ?_
  refine pa_ 1 (some 18) (bl_ 8 3) HT_ ?_
  refine pa_ 3 (some 20) (bl_ 8 11) HT_ ?_
  refine pa_ 4 (some 21) (bl_ 8 27) HT_ ?_
  refine ta_ 2 (some 19) (bl_ 8 31) HT_ HW_ hHeld ?_
  refine ta_ 5 (some 22) (bl_ 8 63) HT_ HW_ hHeld ?_
  refine pa_ 6 (some 23) (bl_ 8 127) HT_ ?_
  refine pa_ 7 (some 4) (bl_ 8 255) HT_ ?_
  have hc2 := ce6_ BK2
  have hc3 := ce6_ BK3
  refine done_ (done_of HT_.out (by kernel_rfl)) ?_
  go_wp2
  obtain rfl := Option.some.inj h
  go_ret
  exact fi_
 rw [if_pos c2] at h
 have e2 : (a2 != b2) = false := bne_eq_false_iff_eq.mpr c2
 clear c2
 go_wp2
 refine start_ (n := 7) (S := fun w' => w'.cell? ⟨gb2, 2, none⟩ = some (.int .u64 a2) ∧ w'.cell? ⟨gb3, 2, none⟩ = some (.int .u64 b2)) (ds := []) (bl_ 7 0) (by kernel_rfl) rfl (by kernel_rfl) ⟨(blk_cell BK2.out 2).trans rfl, (blk_cell BK3.out 2).trans rfl⟩ (fun hHeld => ?_); refine with_tabW spigotref21_AtMost.tab4 spigotref21_AtMost.bits4 (fun HT_ HW_ => ?_)
 replace BK2 := Aside0.mk (blk_drew BK2.out)
 replace BK3 := Aside0.mk (blk_drew BK3.out)
 replace HB := Aside0.mk (below_drew1 HB.out)
 generalize w6.drew = w7 at BK2 BK3 HB hHeld ⊢
 refine pa_ 0 (some 10) (bl_ 7 1) HT_ ?_
 refine pa_ 1 (some 11) (bl_ 7 3) HT_ ?_
 refine pa_ 3 (some 13) (bl_ 7 11) HT_ ?_
 refine pa_ 4 (some 14) (bl_ 7 27) HT_ ?_
 refine ta_ 2 (some 12) (bl_ 7 31) HT_ HW_ hHeld ?_
 refine ta_ 5 (some 15) (bl_ 7 63) HT_ HW_ hHeld ?_
 refine pa_ 6 (some 16) (bl_ 7 127) HT_ ?_
 have hc2 := ce6_ BK2
 have hc3 := ce6_ BK3
 refine done_ (done_of HT_.out (by kernel_rfl)) ?_
 go_wp2
 clear hc2 hc3
 rw [rounds_succ]
 by_cases c1 : a1 = b1
 rotate_left
 ·rw [if_neg c1] at h
  have e1 : (a1 != b1) = true := bne_iff_ne.mpr c1
  clear c1
  go_wp2
  refine start_ (n := 7) (S := fun w' => w'.cell? ⟨gb2, 1, none⟩ = some (.int .u64 a1) ∧ w'.cell? ⟨gb3, 1, none⟩ = some (.int .u64 b1)) (ds := []) (bl_ 7 0) (by kernel_rfl) rfl (by kernel_rfl) ⟨(blk_cell BK2.out 1).trans rfl, (blk_cell BK3.out 1).trans rfl⟩ (fun hHeld => ?_); refine with_tabW spigotref21_AtMost.tab4 spigotref21_AtMost.bits4 (fun HT_ HW_ => ?_)
  replace BK2 := Aside0.mk (blk_drew BK2.out)
  replace BK3 := Aside0.mk (blk_drew BK3.out)
  replace HB := Aside0.mk (below_drew1 HB.out)
  generalize w7.drew = w8 at BK2 BK3 HB hHeld ⊢
  refine pa_ 0 (some 10) (bl_ 7 1) HT_ ?_
  refine pa_ 1 (some 11) (bl_ 7 3) HT_ ?_
  refine pa_ 3 (some 13) (bl_ 7 11) HT_ ?_
  refine pa_ 4 (some 14) (bl_ 7 27) HT_ ?_
  refine ta_ 2 (some 12) (bl_ 7 31) HT_ HW_ hHeld ?_
  refine ta_ 5 (some 15) (bl_ 7 63) HT_ HW_ hHeld ?_
  refine pa_ 6 (some 16) (bl_ 7 127) HT_ ?_
  have hc2 := ce6_ BK2
  have hc3 := ce6_ BK3
  refine done_ (done_of HT_.out (by kernel_rfl)) ?_
  go_wp2
  clear hc2 hc3
  refine start_ (n := 8) (S := fun w' => w'.cell? ⟨gb2, 1, none⟩ = some (.int .u64 a1) ∧ w'.cell? ⟨gb3, 1, none⟩ = some (.int .u64 b1)) (ds := []) (bl_ 8 0) (by kernel_rfl) rfl (by kernel_rfl) ⟨(blk_cell BK2.out 1).trans rfl, (blk_cell BK3.out 1).trans rfl⟩ (fun hHeld => ?_); refine with_tabW spigotref21_AtMost.tab5 spigotref21_AtMost.bits5 (fun HT_ HW_ => ?_)
  replace BK2 := Aside0.mk (blk_drew BK2.out)
  replace BK3 := Aside0.mk (blk_drew BK3.out)
  replace HB := Aside0.mk (below_drew1 HB.out)
  generalize w8.drew = w9 at BK2 BK3 HB hHeld ⊢
  refine pa_ 0 (some 17) (bl_ 8 1) HT_ ?_
  refine pa_ 1 (some 18) (bl_ 8 3) HT_ ?_
  refine pa_ 3 (some 20) (bl_ 8 11) HT_ ?_
  refine pa_ 4 (some 21) (bl_ 8 27) HT_ ?_
  refine ta_ 2 (some 19) (bl_ 8 31) HT_ HW_ hHeld ?_
  refine ta_ 5 (some 22) (bl_ 8 63) HT_ HW_ hHeld ?_
  refine pa_ 6 (some 23) (bl_ 8 127) HT_ ?_
  refine pa_ 7 (some 4) (bl_ 8 255) HT_ ?_
  have hc2 := ce6_ BK2
  have hc3 := ce6_ BK3
  refine done_ (done_of HT_.out (by kernel_rfl)) ?_
  go_wp2
  obtain rfl := Option.some.inj h
  go_ret
  exact fi_
 rw [if_pos c1] at h
 have e1 : (a1 != b1) = false := bne_eq_false_iff_eq.mpr c1
 clear c1
 go_wp2
 refine start_ (n := 7) (S := fun w' => w'.cell? ⟨gb2, 1, none⟩ = some (.int .u64 a1) ∧ w'.cell? ⟨gb3, 1, none⟩ = some (.int .u64 b1)) (ds := []) (bl_ 7 0) (by kernel_rfl) rfl (by kernel_rfl) ⟨(blk_cell BK2.out 1).trans rfl, (blk_cell BK3.out 1).trans rfl⟩ (fun hHeld => ?_); refine with_tabW spigotref21_AtMost.tab4 spigotref21_AtMost.bits4 (fun HT_ HW_ => ?_)
 replace BK2 := Aside0.mk (blk_drew BK2.out)
 replace BK3 := Aside0.mk (blk_drew BK3.out)
 replace HB := Aside0.mk (below_drew1 HB.out)
 generalize w7.drew = w8 at BK2 BK3 HB hHeld ⊢
 refine pa_ 0 (some 10) (bl_ 7 1) HT_ ?_
 refine pa_ 1 (some 11) (bl_ 7 3) HT_ ?_
 refine pa_ 3 (some 13) (bl_ 7 11) HT_ ?_
 refine pa_ 4 (some 14) (bl_ 7 27) HT_ ?_
 refine ta_ 2 (some 12) (bl_ 7 31) HT_ HW_ hHeld ?_
 refine ta_ 5 (some 15) (bl_ 7 63) HT_ HW_ hHeld ?_
 refine pa_ 6 (some 16) (bl_ 7 127) HT_ ?_
 have hc2 := ce6_ BK2
 have hc3 := ce6_ BK3
 refine done_ (done_of HT_.out (by kernel_rfl)) ?_
 go_wp2
 clear hc2 hc3
 rw [rounds_succ]
 by_cases c0 : a0 = b0
 rotate_left
 ·rw [if_neg c0] at h
  have e0 : (a0 != b0) = true := bne_iff_ne.mpr c0
  clear c0
  go_wp2
  refine start_ (n := 7) (S := fun w' => w'.cell? ⟨gb2, 0, none⟩ = some (.int .u64 a0) ∧ w'.cell? ⟨gb3, 0, none⟩ = some (.int .u64 b0)) (ds := []) (bl_ 7 0) (by kernel_rfl) rfl (by kernel_rfl) ⟨(blk_cell BK2.out 0).trans rfl, (blk_cell BK3.out 0).trans rfl⟩ (fun hHeld => ?_); refine with_tabW spigotref21_AtMost.tab4 spigotref21_AtMost.bits4 (fun HT_ HW_ => ?_)
  replace BK2 := Aside0.mk (blk_drew BK2.out)
  replace BK3 := Aside0.mk (blk_drew BK3.out)
  replace HB := Aside0.mk (below_drew1 HB.out)
  generalize w8.drew = w9 at BK2 BK3 HB hHeld ⊢
  refine pa_ 0 (some 10) (bl_ 7 1) HT_ ?_
  refine pa_ 1 (some 11) (bl_ 7 3) HT_ ?_
  refine pa_ 3 (some 13) (bl_ 7 11) HT_ ?_
  refine pa_ 4 (some 14) (bl_ 7 27) HT_ ?_
  refine ta_ 2 (some 12) (bl_ 7 31) HT_ HW_ hHeld ?_
  refine ta_ 5 (some 15) (bl_ 7 63) HT_ HW_ hHeld ?_
  refine pa_ 6 (some 16) (bl_ 7 127) HT_ ?_
  have hc2 := ce6_ BK2
  have hc3 := ce6_ BK3
  refine done_ (done_of HT_.out (by kernel_rfl)) ?_
  go_wp2
  clear hc2 hc3
  refine start_ (n := 8) (S := fun w' => w'.cell? ⟨gb2, 0, none⟩ = some (.int .u64 a0) ∧ w'.cell? ⟨gb3, 0, none⟩ = some (.int .u64 b0)) (ds := []) (bl_ 8 0) (by kernel_rfl) rfl (by kernel_rfl) ⟨(blk_cell BK2.out 0).trans rfl, (blk_cell BK3.out 0).trans rfl⟩ (fun hHeld => ?_); refine with_tabW spigotref21_AtMost.tab5 spigotref21_AtMost.bits5 (fun HT_ HW_ => ?_)
  replace BK2 := Aside0.mk (blk_drew BK2.out)
  replace BK3 := Aside0.mk (blk_drew BK3.out)
  replace HB := Aside0.mk (below_drew1 HB.out)
  generalize w9.drew = w10 at BK2 BK3 HB hHeld ⊢
  refine pa_ 0 (some 17) (bl_ 8 1) HT_ ?_
  refine pa_ 1 (some 18) (bl_ 8 3) HT_ ?_
  refine pa_ 3 (some 20) (bl_ 8 11) HT_ ?_
  refine pa_ 4 (some 21) (bl_ 8 27) HT_ ?_
  refine ta_ 2 (some 19) (bl_ 8 31) HT_ HW_ hHeld ?_
  refine ta_ 5 (some 22) (bl_ 8 63) HT_ HW_ hHeld ?_
  refine pa_ 6 (some 23) (bl_ 8 127) HT_ ?_
  refine pa_ 7 (some 4) (bl_ 8 255) HT_ ?_
  have hc2 := ce6_ BK2
  have hc3 := ce6_ BK3
  refine done_ (done_of HT_.out (by kernel_rfl)) ?_
  go_wp2
  obtain rfl := Option.some.inj h
  go_ret
  exact fi_
 rw [if_pos c0] at h
 have e0 : (a0 != b0) = false := bne_eq_false_iff_eq.mpr c0
 clear c0
 go_wp2
 refine start_ (n := 7) (S := fun w' => w'.cell? ⟨gb2, 0, none⟩ = some (.int .u64 a0) ∧ w'.cell? ⟨gb3, 0, none⟩ = some (.int .u64 b0)) (ds := []) (bl_ 7 0) (by kernel_rfl) rfl (by kernel_rfl) ⟨(blk_cell BK2.out 0).trans rfl, (blk_cell BK3.out 0).trans rfl⟩ (fun hHeld => ?_); refine with_tabW spigotref21_AtMost.tab4 spigotref21_AtMost.bits4 (fun HT_ HW_ => ?_)
 replace BK2 := Aside0.mk (blk_drew BK2.out)
 replace BK3 := Aside0.mk (blk_drew BK3.out)
 replace HB := Aside0.mk (below_drew1 HB.out)
 generalize w8.drew = w9 at BK2 BK3 HB hHeld ⊢
 refine pa_ 0 (some 10) (bl_ 7 1) HT_ ?_
 refine pa_ 1 (some 11) (bl_ 7 3) HT_ ?_
 refine pa_ 3 (some 13) (bl_ 7 11) HT_ ?_
 refine pa_ 4 (some 14) (bl_ 7 27) HT_ ?_
 refine ta_ 2 (some 12) (bl_ 7 31) HT_ HW_ hHeld ?_
 refine ta_ 5 (some 15) (bl_ 7 63) HT_ HW_ hHeld ?_
 refine pa_ 6 (some 16) (bl_ 7 127) HT_ ?_
 have hc2 := ce6_ BK2
 have hc3 := ce6_ BK3
 refine done_ (done_of HT_.out (by kernel_rfl)) ?_
 go_wp2
 clear hc2 hc3
 rw [rounds_succ]
 go_wp2
 obtain rfl := Option.some.inj h
 go_ret
 exact fi_

end Go.Proofs.Ytcdmjdghmbdikaa.X
