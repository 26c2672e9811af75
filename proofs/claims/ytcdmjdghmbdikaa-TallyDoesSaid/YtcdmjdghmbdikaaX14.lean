-- written by xprint.py, a program of this session over the kit's print
import Derived.Test.YtcdmjdghmbdikaaX0
namespace Go.Proofs.Ytcdmjdghmbdikaa.X
open Go.RowKit Go.Proofs.YtcdmjdghmbdikaaW.PrintWords Go.Proofs.YtcdmjdghmbdikaaW.PrintLast Go.Proofs.YtcdmjdghmbdikaaW.PrintMore
attribute [local go_sem] max2_int min2_int max_two min_two max_three min_three max_four min_four   -- for this text's walks alone
set_option linter.unusedVariables false
set_option linter.unusedSimpArgs false

/-! ### spigotref21_carried: function 56 -/
def spigotref21_carried.T4 : Bool × List (List Nat × List Nat) := (true, [([], []), ([0], [0]), ([1], [1]), ([2], [2]), ([], []), ([4], [4]), ([5], [5]), ([6], [6]), ([3, 7], [3, 7]), ([1, 0, 1, 2, 3, 4, 5, 6, 7, 8], [1]), ([9, 8, 0, 1, 2, 3, 4, 5, 6, 7, 8], [8, 9])])
def spigotref21_carried.B4 : List Nat := [0, 1, 3, 7, 0, 16, 48, 112, 255, 511, 1023]
theorem spigotref21_carried.tab4 : rtab .any (opsOf Try.f56 4) = spigotref21_carried.T4 := by kernel_rfl
theorem spigotref21_carried.bits4 : waitsOk spigotref21_carried.T4.2 spigotref21_carried.B4 = true := by kernel_rfl
def spigotref21_carried.f (a0 : Int) (a1 : Int) (a2 : Int) (a3 : Int) (a4 : Int) (a5 : Int) : Option (Int × Int × Int × Int × Int × Int) := some (Int.tmod a0 4294967296, Int.tmod (IntKind.u64.wrap (a1 + (IntKind.u64.wrap (Int.tdiv a0 4294967296)))) 4294967296, Int.tmod (IntKind.u64.wrap (a2 + (IntKind.u64.wrap (Int.tdiv (IntKind.u64.wrap (a1 + (IntKind.u64.wrap (Int.tdiv a0 4294967296)))) 4294967296)))) 4294967296, Int.tmod (IntKind.u64.wrap (a3 + (IntKind.u64.wrap (Int.tdiv (IntKind.u64.wrap (a2 + (IntKind.u64.wrap (Int.tdiv (IntKind.u64.wrap (a1 + (IntKind.u64.wrap (Int.tdiv a0 4294967296)))) 4294967296)))) 4294967296)))) 4294967296, Int.tmod (IntKind.u64.wrap (a4 + (IntKind.u64.wrap (Int.tdiv (IntKind.u64.wrap (a3 + (IntKind.u64.wrap (Int.tdiv (IntKind.u64.wrap (a2 + (IntKind.u64.wrap (Int.tdiv (IntKind.u64.wrap (a1 + (IntKind.u64.wrap (Int.tdiv a0 4294967296)))) 4294967296)))) 4294967296)))) 4294967296)))) 4294967296, IntKind.u64.wrap (a5 + (IntKind.u64.wrap (Int.tdiv (IntKind.u64.wrap (a4 + (IntKind.u64.wrap (Int.tdiv (IntKind.u64.wrap (a3 + (IntKind.u64.wrap (Int.tdiv (IntKind.u64.wrap (a2 + (IntKind.u64.wrap (Int.tdiv (IntKind.u64.wrap (a1 + (IntKind.u64.wrap (Int.tdiv a0 4294967296)))) 4294967296)))) 4294967296)))) 4294967296)))) 4294967296))))
set_option maxHeartbeats 8000000 in
set_option maxRecDepth 100000 in
theorem spigotref21_carried.calls (a0 : Int) (a1 : Int) (a2 : Int) (a3 : Int) (a4 : Int) (a5 : Int) (r1 : Int) (r2 : Int) (r3 : Int) (r4 : Int) (r5 : Int) (r6 : Int) (w : World) (h : spigotref21_carried.f a0 a1 a2 a3 a4 a5 = some (r1, r2, r3, r4, r5, r6)) :
  Calls Try.prog 56 #[.agg #[.int .u64 a0, .int .u64 a1, .int .u64 a2, .int .u64 a3, .int .u64 a4, .int .u64 a5]] w fun e w' => e = .returned (.agg #[.int .u64 r1, .int .u64 r2, .int .u64 r3, .int .u64 r4, .int .u64 r5, .int .u64 r6]) ∧ Below w.heap.size w w' := by
 unfold spigotref21_carried.f at h
 simp only [Option.some.injEq, Prod.mk.injEq] at h
 obtain ⟨rfl, rfl, rfl, rfl, rfl, rfl⟩ := h
 have hu74 := Try.underlying74
 have HB := Aside0.mk (Below.refl w.heap.size w)
 have ew0 : wrap64 (0 : Int) = 0 := by unfold wrap64; omega
 have ew1 : wrap64 (1 : Int) = 1 := by unfold wrap64; omega
 have ew2 : wrap64 (2 : Int) = 2 := by unfold wrap64; omega
 have ew3 : wrap64 (3 : Int) = 3 := by unfold wrap64; omega
 have ew4 : wrap64 (4 : Int) = 4 := by unfold wrap64; omega
 have ew5 : wrap64 (5 : Int) = 5 := by unfold wrap64; omega
 have ew6 : wrap64 (6 : Int) = 6 := by unfold wrap64; omega
 have ew7 : wrap64 (7 : Int) = 7 := by unfold wrap64; omega
 have ewm : wrap64 (-1 : Int) = -1 := by unfold wrap64; omega
 go_enter Try.func56, Try.ntmps56
 go_wp2_with (first | ((with_reducible refine gate_dst (N := 1) rfl ?_); refine bx_ #[.int .u64 a0, .int .u64 a1, .int .u64 a2, .int .u64 a3, .int .u64 a4, .int .u64 a5] 74 ?_; intro gb1 hg w2 BK1 hb; have GW1 := bz_ w hg; replace HB := bs_ w hb; clear hb hg) | ((with_reducible refine gate_dst (N := 2) rfl ?_); refine bx_ #[.int .u64 0, .int .u64 0, .int .u64 0, .int .u64 0, .int .u64 0, .int .u64 0] 74 ?_; intro gb2 hg w3 BK2 hb; have GW2 := bz_ w hg; have NB1_2 := bn_ BK1 hg; have NB2_1 := bm_ BK1 hg; replace BK1 := bb_ BK1 hb; replace HB := bs_ w hb; clear hb hg))
 have hn1_2 := NB1_2.out
 have hn2_1 := NB2_1.out
 refine wp_loop_rounds 6 ?_
 rw [rounds_succ]
 go_wp2
 refine start_ (n := 11) (S := fun w' => w'.cell? ⟨gb1, 0, none⟩ = some (.int .u64 a0) ∧ w'.cell? ⟨gb1, 1, none⟩ = some (.int .u64 a1)) (ds := [10]) (bl_ 11 0) (by kernel_rfl) rfl (by kernel_rfl) ⟨(blk_cell BK1.out 0).trans rfl, (blk_cell BK1.out 1).trans rfl⟩ (fun hHeld => ?_); refine with_tabW spigotref21_carried.tab4 spigotref21_carried.bits4 (fun HT_ HW_ => ?_)
 replace BK1 := Aside0.mk (blk_drew BK1.out)
 replace BK2 := Aside0.mk (blk_drew BK2.out)
 replace HB := Aside0.mk (below_drew1 HB.out)
 generalize w3.drew = w4 at BK1 BK2 HB hHeld ⊢
 refine pa_ 0 (some 9) (bl_ 11 1) HT_ ?_
 refine pa_ 1 (some 10) (bl_ 11 3) HT_ ?_
 refine pa_ 2 (some 11) (bl_ 11 7) HT_ ?_
 refine pa_ 4 (some 13) (bl_ 11 23) HT_ ?_
 refine pa_ 5 (some 14) (bl_ 11 55) HT_ ?_
 refine ta_ 3 (some 12) (bl_ 11 63) HT_ HW_ hHeld ?_
 refine ta_ 6 (some 15) (bl_ 11 127) HT_ HW_ hHeld ?_
 refine pa_ 7 (some 16) (bl_ 11 255) HT_ ?_
 refine pa_ 8 (some 17) (bl_ 11 511) HT_ ?_
 refine pa_ 9 (some 18) (bl_ 11 1023) HT_ ?_
 have hc1 := ce6_ BK1
 have hc2 := ce6_ BK2
 refine last_ (i := 10) (N := none) (bl_ 11 2047) rfl rfl (one_of HT_.out (by kernel_rfl)) (by decide) (fun K hK => ?_)
 refine sk_ ?_
 refine hK.out _ _ ?_
 clear hK K
 refine done_ (done_of HT_.out (by kernel_rfl)) ?_
 go_wp2
 clear hc1 hc2
 have BK1n : Aside0 (((w4.setCell ⟨gb1, 1, none⟩ (.int .u64 (IntKind.u64.wrap (a1 + (IntKind.u64.wrap (Int.tdiv a0 4294967296)))))).setCell ⟨gb1, 0, none⟩ (.int .u64 (Int.tmod a0 4294967296))).heap[gb1]? = some (.cells #[.int .u64 (Int.tmod a0 4294967296), .int .u64 (IntKind.u64.wrap (a1 + (IntKind.u64.wrap (Int.tdiv a0 4294967296)))), .int .u64 a2, .int .u64 a3, .int .u64 a4, .int .u64 a5] 74 (0, 0))) := ⟨(blk_put (cs := #[.int .u64 a0, .int .u64 (IntKind.u64.wrap (a1 + (IntKind.u64.wrap (Int.tdiv a0 4294967296)))), .int .u64 a2, .int .u64 a3, .int .u64 a4, .int .u64 a5]) (blk_put (cs := #[.int .u64 a0, .int .u64 a1, .int .u64 a2, .int .u64 a3, .int .u64 a4, .int .u64 a5]) BK1.out 1 _ rfl) 0 _ rfl)⟩
 have BK2n : Aside0 (((w4.setCell ⟨gb1, 1, none⟩ (.int .u64 (IntKind.u64.wrap (a1 + (IntKind.u64.wrap (Int.tdiv a0 4294967296)))))).setCell ⟨gb1, 0, none⟩ (.int .u64 (Int.tmod a0 4294967296))).heap[gb2]? = some (.cells #[.int .u64 0, .int .u64 0, .int .u64 0, .int .u64 0, .int .u64 0, .int .u64 0] 74 (0, 0))) := ⟨(blk_far (blk_far BK2.out NB2_1.out _) NB2_1.out _)⟩
 have HBn : Aside0 (Below w.heap.size w ((w4.setCell ⟨gb1, 1, none⟩ (.int .u64 (IntKind.u64.wrap (a1 + (IntKind.u64.wrap (Int.tdiv a0 4294967296)))))).setCell ⟨gb1, 0, none⟩ (.int .u64 (Int.tmod a0 4294967296)))) := bw_
 clear BK1 BK2 HB
 generalize ((w4.setCell ⟨gb1, 1, none⟩ (.int .u64 (IntKind.u64.wrap (a1 + (IntKind.u64.wrap (Int.tdiv a0 4294967296)))))).setCell ⟨gb1, 0, none⟩ (.int .u64 (Int.tmod a0 4294967296))) = w5 at BK1n BK2n HBn ⊢
 have BK1 := BK1n
 clear BK1n
 have BK2 := BK2n
 clear BK2n
 have HB := HBn
 clear HBn
 rw [rounds_succ]
 go_wp2
 refine start_ (n := 11) (S := fun w' => w'.cell? ⟨gb1, 1, none⟩ = some (.int .u64 (IntKind.u64.wrap (a1 + (IntKind.u64.wrap (Int.tdiv a0 4294967296))))) ∧ w'.cell? ⟨gb1, 2, none⟩ = some (.int .u64 a2)) (ds := [10]) (bl_ 11 0) (by kernel_rfl) rfl (by kernel_rfl) ⟨(blk_cell BK1.out 1).trans rfl, (blk_cell BK1.out 2).trans rfl⟩ (fun hHeld => ?_); refine with_tabW spigotref21_carried.tab4 spigotref21_carried.bits4 (fun HT_ HW_ => ?_)
 replace BK1 := Aside0.mk (blk_drew BK1.out)
 replace BK2 := Aside0.mk (blk_drew BK2.out)
 replace HB := Aside0.mk (below_drew1 HB.out)
 generalize w5.drew = w6 at BK1 BK2 HB hHeld ⊢
 refine pa_ 0 (some 9) (bl_ 11 1) HT_ ?_
 refine pa_ 1 (some 10) (bl_ 11 3) HT_ ?_
 refine pa_ 2 (some 11) (bl_ 11 7) HT_ ?_
 refine pa_ 4 (some 13) (bl_ 11 23) HT_ ?_
 refine pa_ 5 (some 14) (bl_ 11 55) HT_ ?_
 refine ta_ 3 (some 12) (bl_ 11 63) HT_ HW_ hHeld ?_
 refine ta_ 6 (some 15) (bl_ 11 127) HT_ HW_ hHeld ?_
 refine pa_ 7 (some 16) (bl_ 11 255) HT_ ?_
 refine pa_ 8 (some 17) (bl_ 11 511) HT_ ?_
 refine pa_ 9 (some 18) (bl_ 11 1023) HT_ ?_
 have hc1 := ce6_ BK1
 have hc2 := ce6_ BK2
 refine last_ (i := 10) (N := none) (bl_ 11 2047) rfl rfl (one_of HT_.out (by kernel_rfl)) (by decide) (fun K hK => ?_)
 refine sk_ ?_
 refine hK.out _ _ ?_
 clear hK K
 refine done_ (done_of HT_.out (by kernel_rfl)) ?_
 go_wp2
 clear hc1 hc2
 have BK1n : Aside0 (((w6.setCell ⟨gb1, 2, none⟩ (.int .u64 (IntKind.u64.wrap (a2 + (IntKind.u64.wrap (Int.tdiv (IntKind.u64.wrap (a1 + (IntKind.u64.wrap (Int.tdiv a0 4294967296)))) 4294967296)))))).setCell ⟨gb1, 1, none⟩ (.int .u64 (Int.tmod (IntKind.u64.wrap (a1 + (IntKind.u64.wrap (Int.tdiv a0 4294967296)))) 4294967296))).heap[gb1]? = some (.cells #[.int .u64 (Int.tmod a0 4294967296), .int .u64 (Int.tmod (IntKind.u64.wrap (a1 + (IntKind.u64.wrap (Int.tdiv a0 4294967296)))) 4294967296), .int .u64 (IntKind.u64.wrap (a2 + (IntKind.u64.wrap (Int.tdiv (IntKind.u64.wrap (a1 + (IntKind.u64.wrap (Int.tdiv a0 4294967296)))) 4294967296)))), .int .u64 a3, .int .u64 a4, .int .u64 a5] 74 (0, 0))) := ⟨(blk_put (cs := #[.int .u64 (Int.tmod a0 4294967296), .int .u64 (IntKind.u64.wrap (a1 + (IntKind.u64.wrap (Int.tdiv a0 4294967296)))), .int .u64 (IntKind.u64.wrap (a2 + (IntKind.u64.wrap (Int.tdiv (IntKind.u64.wrap (a1 + (IntKind.u64.wrap (Int.tdiv a0 4294967296)))) 4294967296)))), .int .u64 a3, .int .u64 a4, .int .u64 a5]) (blk_put (cs := #[.int .u64 (Int.tmod a0 4294967296), .int .u64 (IntKind.u64.wrap (a1 + (IntKind.u64.wrap (Int.tdiv a0 4294967296)))), .int .u64 a2, .int .u64 a3, .int .u64 a4, .int .u64 a5]) BK1.out 2 _ rfl) 1 _ rfl)⟩
 have BK2n : Aside0 (((w6.setCell ⟨gb1, 2, none⟩ (.int .u64 (IntKind.u64.wrap (a2 + (IntKind.u64.wrap (Int.tdiv (IntKind.u64.wrap (a1 + (IntKind.u64.wrap (Int.tdiv a0 4294967296)))) 4294967296)))))).setCell ⟨gb1, 1, none⟩ (.int .u64 (Int.tmod (IntKind.u64.wrap (a1 + (IntKind.u64.wrap (Int.tdiv a0 4294967296)))) 4294967296))).heap[gb2]? = some (.cells #[.int .u64 0, .int .u64 0, .int .u64 0, .int .u64 0, .int .u64 0, .int .u64 0] 74 (0, 0))) := ⟨(blk_far (blk_far BK2.out NB2_1.out _) NB2_1.out _)⟩
 have HBn : Aside0 (Below w.heap.size w ((w6.setCell ⟨gb1, 2, none⟩ (.int .u64 (IntKind.u64.wrap (a2 + (IntKind.u64.wrap (Int.tdiv (IntKind.u64.wrap (a1 + (IntKind.u64.wrap (Int.tdiv a0 4294967296)))) 4294967296)))))).setCell ⟨gb1, 1, none⟩ (.int .u64 (Int.tmod (IntKind.u64.wrap (a1 + (IntKind.u64.wrap (Int.tdiv a0 4294967296)))) 4294967296)))) := bw_
 clear BK1 BK2 HB
 generalize ((w6.setCell ⟨gb1, 2, none⟩ (.int .u64 (IntKind.u64.wrap (a2 + (IntKind.u64.wrap (Int.tdiv (IntKind.u64.wrap (a1 + (IntKind.u64.wrap (Int.tdiv a0 4294967296)))) 4294967296)))))).setCell ⟨gb1, 1, none⟩ (.int .u64 (Int.tmod (IntKind.u64.wrap (a1 + (IntKind.u64.wrap (Int.tdiv a0 4294967296)))) 4294967296))) = w7 at BK1n BK2n HBn ⊢
 have BK1 := BK1n
 clear BK1n
 have BK2 := BK2n
 clear BK2n
 have HB := HBn
 clear HBn
 rw [rounds_succ]
 go_wp2
 refine start_ (n := 11) (S := fun w' => w'.cell? ⟨gb1, 2, none⟩ = some (.int .u64 (IntKind.u64.wrap (a2 + (IntKind.u64.wrap (Int.tdiv (IntKind.u64.wrap (a1 + (IntKind.u64.wrap (Int.tdiv a0 4294967296)))) 4294967296))))) ∧ w'.cell? ⟨gb1, 3, none⟩ = some (.int .u64 a3)) (ds := [10]) (bl_ 11 0) (by kernel_rfl) rfl (by kernel_rfl) ⟨(blk_cell BK1.out 2).trans rfl, (blk_cell BK1.out 3).trans rfl⟩ (fun hHeld => ?_); refine with_tabW spigotref21_carried.tab4 spigotref21_carried.bits4 (fun HT_ HW_ => ?_)
 replace BK1 := Aside0.mk (blk_drew BK1.out)
 replace BK2 := Aside0.mk (blk_drew BK2.out)
 replace HB := Aside0.mk (below_drew1 HB.out)
 generalize w7.drew = w8 at BK1 BK2 HB hHeld ⊢
 refine pa_ 0 (some 9) (bl_ 11 1) HT_ ?_
 refine pa_ 1 (some 10) (bl_ 11 3) HT_ ?_
 refine pa_ 2 (some 11) (bl_ 11 7) HT_ ?_
 refine pa_ 4 (some 13) (bl_ 11 23) HT_ ?_
 refine pa_ 5 (some 14) (bl_ 11 55) HT_ ?_
 refine ta_ 3 (some 12) (bl_ 11 63) HT_ HW_ hHeld ?_
 refine ta_ 6 (some 15) (bl_ 11 127) HT_ HW_ hHeld ?_
 refine pa_ 7 (some 16) (bl_ 11 255) HT_ ?_
 refine pa_ 8 (some 17) (bl_ 11 511) HT_ ?_
 refine pa_ 9 (some 18) (bl_ 11 1023) HT_ ?_
 have hc1 := ce6_ BK1
 have hc2 := ce6_ BK2
 refine last_ (i := 10) (N := none) (bl_ 11 2047) rfl rfl (one_of HT_.out (by kernel_rfl)) (by decide) (fun K hK => ?_)
 refine sk_ ?_
 refine hK.out _ _ ?_
 clear hK K
 refine done_ (done_of HT_.out (by kernel_rfl)) ?_
 go_wp2
 clear hc1 hc2
 have BK1n : Aside0 (((w8.setCell ⟨gb1, 3, none⟩ (.int .u64 (IntKind.u64.wrap (a3 + (IntKind.u64.wrap (Int.tdiv (IntKind.u64.wrap (a2 + (IntKind.u64.wrap (Int.tdiv (IntKind.u64.wrap (a1 + (IntKind.u64.wrap (Int.tdiv a0 4294967296)))) 4294967296)))) 4294967296)))))).setCell ⟨gb1, 2, none⟩ (.int .u64 (Int.tmod (IntKind.u64.wrap (a2 + (IntKind.u64.wrap (Int.tdiv (IntKind.u64.wrap (a1 + (IntKind.u64.wrap (Int.tdiv a0 4294967296)))) 4294967296)))) 4294967296))).heap[gb1]? = some (.cells #[.int .u64 (Int.tmod a0 4294967296), .int .u64 (Int.tmod (IntKind.u64.wrap (a1 + (IntKind.u64.wrap (Int.tdiv a0 4294967296)))) 4294967296), .int .u64 (Int.tmod (IntKind.u64.wrap (a2 + (IntKind.u64.wrap (Int.tdiv (IntKind.u64.wrap (a1 + (IntKind.u64.wrap (Int.tdiv a0 4294967296)))) 4294967296)))) 4294967296), .int .u64 (IntKind.u64.wrap (a3 + (IntKind.u64.wrap (Int.tdiv (IntKind.u64.wrap (a2 + (IntKind.u64.wrap (Int.tdiv (IntKind.u64.wrap (a1 + (IntKind.u64.wrap (Int.tdiv a0 4294967296)))) 4294967296)))) 4294967296)))), .int .u64 a4, .int .u64 a5] 74 (0, 0))) := ⟨(blk_put (cs := #[.int .u64 (Int.tmod a0 4294967296), .int .u64 (Int.tmod (IntKind.u64.wrap (a1 + (IntKind.u64.wrap (Int.tdiv a0 4294967296)))) 4294967296), .int .u64 (IntKind.u64.wrap (a2 + (IntKind.u64.wrap (Int.tdiv (IntKind.u64.wrap (a1 + (IntKind.u64.wrap (Int.tdiv a0 4294967296)))) 4294967296)))), .int .u64 (IntKind.u64.wrap (a3 + (IntKind.u64.wrap (Int.tdiv (IntKind.u64.wrap (a2 + (IntKind.u64.wrap (Int.tdiv (IntKind.u64.wrap (a1 + (IntKind.u64.wrap (Int.tdiv a0 4294967296)))) 4294967296)))) 4294967296)))), .int .u64 a4, .int .u64 a5]) (blk_put (cs := #[.int .u64 (Int.tmod a0 4294967296), .int .u64 (Int.tmod (IntKind.u64.wrap (a1 + (IntKind.u64.wrap (Int.tdiv a0 4294967296)))) 4294967296), .int .u64 (IntKind.u64.wrap (a2 + (IntKind.u64.wrap (Int.tdiv (IntKind.u64.wrap (a1 + (IntKind.u64.wrap (Int.tdiv a0 4294967296)))) 4294967296)))), .int .u64 a3, .int .u64 a4, .int .u64 a5]) BK1.out 3 _ rfl) 2 _ rfl)⟩
 have BK2n : Aside0 (((w8.setCell ⟨gb1, 3, none⟩ (.int .u64 (IntKind.u64.wrap (a3 + (IntKind.u64.wrap (Int.tdiv (IntKind.u64.wrap (a2 + (IntKind.u64.wrap (Int.tdiv (IntKind.u64.wrap (a1 + (IntKind.u64.wrap (Int.tdiv a0 4294967296)))) 4294967296)))) 4294967296)))))).setCell ⟨gb1, 2, none⟩ (.int .u64 (Int.tmod (IntKind.u64.wrap (a2 + (IntKind.u64.wrap (Int.tdiv (IntKind.u64.wrap (a1 + (IntKind.u64.wrap (Int.tdiv a0 4294967296)))) 4294967296)))) 4294967296))).heap[gb2]? = some (.cells #[.int .u64 0, .int .u64 0, .int .u64 0, .int .u64 0, .int .u64 0, .int .u64 0] 74 (0, 0))) := ⟨(blk_far (blk_far BK2.out NB2_1.out _) NB2_1.out _)⟩
 have HBn : Aside0 (Below w.heap.size w ((w8.setCell ⟨gb1, 3, none⟩ (.int .u64 (IntKind.u64.wrap (a3 + (IntKind.u64.wrap (Int.tdiv (IntKind.u64.wrap (a2 + (IntKind.u64.wrap (Int.tdiv (IntKind.u64.wrap (a1 + (IntKind.u64.wrap (Int.tdiv a0 4294967296)))) 4294967296)))) 4294967296)))))).setCell ⟨gb1, 2, none⟩ (.int .u64 (Int.tmod (IntKind.u64.wrap (a2 + (IntKind.u64.wrap (Int.tdiv (IntKind.u64.wrap (a1 + (IntKind.u64.wrap (Int.tdiv a0 4294967296)))) 4294967296)))) 4294967296)))) := bw_
 clear BK1 BK2 HB
 generalize ((w8.setCell ⟨gb1, 3, none⟩ (.int .u64 (IntKind.u64.wrap (a3 + (IntKind.u64.wrap (Int.tdiv (IntKind.u64.wrap (a2 + (IntKind.u64.wrap (Int.tdiv (IntKind.u64.wrap (a1 + (IntKind.u64.wrap (Int.tdiv a0 4294967296)))) 4294967296)))) 4294967296)))))).setCell ⟨gb1, 2, none⟩ (.int .u64 (Int.tmod (IntKind.u64.wrap (a2 + (IntKind.u64.wrap (Int.tdiv (IntKind.u64.wrap (a1 + (IntKind.u64.wrap (Int.tdiv a0 4294967296)))) 4294967296)))) 4294967296))) = w9 at BK1n BK2n HBn ⊢
 have BK1 := BK1n
 clear BK1n
 have BK2 := BK2n
 clear BK2n
 have HB := HBn
 clear HBn
 rw [rounds_succ]
 go_wp2
 refine start_ (n := 11) (S := fun w' => w'.cell? ⟨gb1, 3, none⟩ = some (.int .u64 (IntKind.u64.wrap (a3 + (IntKind.u64.wrap (Int.tdiv (IntKind.u64.wrap (a2 + (IntKind.u64.wrap (Int.tdiv (IntKind.u64.wrap (a1 + (IntKind.u64.wrap (Int.tdiv a0 4294967296)))) 4294967296)))) 4294967296))))) ∧ w'.cell? ⟨gb1, 4, none⟩ = some (.int .u64 a4)) (ds := [10]) (bl_ 11 0) (by kernel_rfl) rfl (by kernel_rfl) ⟨(blk_cell BK1.out 3).trans rfl, (blk_cell BK1.out 4).trans rfl⟩ (fun hHeld => ?_); refine with_tabW spigotref21_carried.tab4 spigotref21_carried.bits4 (fun HT_ HW_ => ?_)
 replace BK1 := Aside0.mk (blk_drew BK1.out)
 replace BK2 := Aside0.mk (blk_drew BK2.out)
 replace HB := Aside0.mk (below_drew1 HB.out)
 generalize w9.drew = w10 at BK1 BK2 HB hHeld ⊢
 refine pa_ 0 (some 9) (bl_ 11 1) HT_ ?_
 refine pa_ 1 (some 10) (bl_ 11 3) HT_ ?_
 refine pa_ 2 (some 11) (bl_ 11 7) HT_ ?_
 refine pa_ 4 (some 13) (bl_ 11 23) HT_ ?_
 refine pa_ 5 (some 14) (bl_ 11 55) HT_ ?_
 refine ta_ 3 (some 12) (bl_ 11 63) HT_ HW_ hHeld ?_
 refine ta_ 6 (some 15) (bl_ 11 127) HT_ HW_ hHeld ?_
 refine pa_ 7 (some 16) (bl_ 11 255) HT_ ?_
 refine pa_ 8 (some 17) (bl_ 11 511) HT_ ?_
 refine pa_ 9 (some 18) (bl_ 11 1023) HT_ ?_
 have hc1 := ce6_ BK1
 have hc2 := ce6_ BK2
 refine last_ (i := 10) (N := none) (bl_ 11 2047) rfl rfl (one_of HT_.out (by kernel_rfl)) (by decide) (fun K hK => ?_)
 refine sk_ ?_
 refine hK.out _ _ ?_
 clear hK K
 refine done_ (done_of HT_.out (by kernel_rfl)) ?_
 go_wp2
 clear hc1 hc2
 have BK1n : Aside0 (((w10.setCell ⟨gb1, 4, none⟩ (.int .u64 (IntKind.u64.wrap (a4 + (IntKind.u64.wrap (Int.tdiv (IntKind.u64.wrap (a3 + (IntKind.u64.wrap (Int.tdiv (IntKind.u64.wrap (a2 + (IntKind.u64.wrap (Int.tdiv (IntKind.u64.wrap (a1 + (IntKind.u64.wrap (Int.tdiv a0 4294967296)))) 4294967296)))) 4294967296)))) 4294967296)))))).setCell ⟨gb1, 3, none⟩ (.int .u64 (Int.tmod (IntKind.u64.wrap (a3 + (IntKind.u64.wrap (Int.tdiv (IntKind.u64.wrap (a2 + (IntKind.u64.wrap (Int.tdiv (IntKind.u64.wrap (a1 + (IntKind.u64.wrap (Int.tdiv a0 4294967296)))) 4294967296)))) 4294967296)))) 4294967296))).heap[gb1]? = some (.cells #[.int .u64 (Int.tmod a0 4294967296), .int .u64 (Int.tmod (IntKind.u64.wrap (a1 + (IntKind.u64.wrap (Int.tdiv a0 4294967296)))) 4294967296), .int .u64 (Int.tmod (IntKind.u64.wrap (a2 + (IntKind.u64.wrap (Int.tdiv (IntKind.u64.wrap (a1 + (IntKind.u64.wrap (Int.tdiv a0 4294967296)))) 4294967296)))) 4294967296), .int .u64 (Int.tmod (IntKind.u64.wrap (a3 + (IntKind.u64.wrap (Int.tdiv (IntKind.u64.wrap (a2 + (IntKind.u64.wrap (Int.tdiv (IntKind.u64.wrap (a1 + (IntKind.u64.wrap (Int.tdiv a0 4294967296)))) 4294967296)))) 4294967296)))) 4294967296), .int .u64 (IntKind.u64.wrap (a4 + (IntKind.u64.wrap (Int.tdiv (IntKind.u64.wrap (a3 + (IntKind.u64.wrap (Int.tdiv (IntKind.u64.wrap (a2 + (IntKind.u64.wrap (Int.tdiv (IntKind.u64.wrap (a1 + (IntKind.u64.wrap (Int.tdiv a0 4294967296)))) 4294967296)))) 4294967296)))) 4294967296)))), .int .u64 a5] 74 (0, 0))) := ⟨(blk_put (cs := #[.int .u64 (Int.tmod a0 4294967296), .int .u64 (Int.tmod (IntKind.u64.wrap (a1 + (IntKind.u64.wrap (Int.tdiv a0 4294967296)))) 4294967296), .int .u64 (Int.tmod (IntKind.u64.wrap (a2 + (IntKind.u64.wrap (Int.tdiv (IntKind.u64.wrap (a1 + (IntKind.u64.wrap (Int.tdiv a0 4294967296)))) 4294967296)))) 4294967296), .int .u64 (IntKind.u64.wrap (a3 + (IntKind.u64.wrap (Int.tdiv (IntKind.u64.wrap (a2 + (IntKind.u64.wrap (Int.tdiv (IntKind.u64.wrap (a1 + (IntKind.u64.wrap (Int.tdiv a0 4294967296)))) 4294967296)))) 4294967296)))), .int .u64 (IntKind.u64.wrap (a4 + (IntKind.u64.wrap (Int.tdiv (IntKind.u64.wrap (a3 + (IntKind.u64.wrap (Int.tdiv (IntKind.u64.wrap (a2 + (IntKind.u64.wrap (Int.tdiv (IntKind.u64.wrap (a1 + (IntKind.u64.wrap (Int.tdiv a0 4294967296)))) 4294967296)))) 4294967296)))) 4294967296)))), .int .u64 a5]) (blk_put (cs := #[.int .u64 (Int.tmod a0 4294967296), .int .u64 (Int.tmod (IntKind.u64.wrap (a1 + (IntKind.u64.wrap (Int.tdiv a0 4294967296)))) 4294967296), .int .u64 (Int.tmod (IntKind.u64.wrap (a2 + (IntKind.u64.wrap (Int.tdiv (IntKind.u64.wrap (a1 + (IntKind.u64.wrap (Int.tdiv a0 4294967296)))) 4294967296)))) 4294967296), .int .u64 (IntKind.u64.wrap (a3 + (IntKind.u64.wrap (Int.tdiv (IntKind.u64.wrap (a2 + (IntKind.u64.wrap (Int.tdiv (IntKind.u64.wrap (a1 + (IntKind.u64.wrap (Int.tdiv a0 4294967296)))) 4294967296)))) 4294967296)))), .int .u64 a4, .int .u64 a5]) BK1.out 4 _ rfl) 3 _ rfl)⟩
 have BK2n : Aside0 (((w10.setCell ⟨gb1, 4, none⟩ (.int .u64 (IntKind.u64.wrap (a4 + (IntKind.u64.wrap (Int.tdiv (IntKind.u64.wrap (a3 + (IntKind.u64.wrap (Int.tdiv (IntKind.u64.wrap (a2 + (IntKind.u64.wrap (Int.tdiv (IntKind.u64.wrap (a1 + (IntKind.u64.wrap (Int.tdiv a0 4294967296)))) 4294967296)))) 4294967296)))) 4294967296)))))).setCell ⟨gb1, 3, none⟩ (.int .u64 (Int.tmod (IntKind.u64.wrap (a3 + (IntKind.u64.wrap (Int.tdiv (IntKind.u64.wrap (a2 + (IntKind.u64.wrap (Int.tdiv (IntKind.u64.wrap (a1 + (IntKind.u64.wrap (Int.tdiv a0 4294967296)))) 4294967296)))) 4294967296)))) 4294967296))).heap[gb2]? = some (.cells #[.int .u64 0, .int .u64 0, .int .u64 0, .int .u64 0, .int .u64 0, .int .u64 0] 74 (0, 0))) := ⟨(blk_far (blk_far BK2.out NB2_1.out _) NB2_1.out _)⟩
 have HBn : Aside0 (Below w.heap.size w ((w10.setCell ⟨gb1, 4, none⟩ (.int .u64 (IntKind.u64.wrap (a4 + (IntKind.u64.wrap (Int.tdiv (IntKind.u64.wrap (a3 + (IntKind.u64.wrap (Int.tdiv (IntKind.u64.wrap (a2 + (IntKind.u64.wrap (Int.tdiv (IntKind.u64.wrap (a1 + (IntKind.u64.wrap (Int.tdiv a0 4294967296)))) 4294967296)))) 4294967296)))) 4294967296)))))).setCell ⟨gb1, 3, none⟩ (.int .u64 (Int.tmod (IntKind.u64.wrap (a3 + (IntKind.u64.wrap (Int.tdiv (IntKind.u64.wrap (a2 + (IntKind.u64.wrap (Int.tdiv (IntKind.u64.wrap (a1 + (IntKind.u64.wrap (Int.tdiv a0 4294967296)))) 4294967296)))) 4294967296)))) 4294967296)))) := bw_
 clear BK1 BK2 HB
 generalize ((w10.setCell ⟨gb1, 4, none⟩ (.int .u64 (IntKind.u64.wrap (a4 + (IntKind.u64.wrap (Int.tdiv (IntKind.u64.wrap (a3 + (IntKind.u64.wrap (Int.tdiv (IntKind.u64.wrap (a2 + (IntKind.u64.wrap (Int.tdiv (IntKind.u64.wrap (a1 + (IntKind.u64.wrap (Int.tdiv a0 4294967296)))) 4294967296)))) 4294967296)))) 4294967296)))))).setCell ⟨gb1, 3, none⟩ (.int .u64 (Int.tmod (IntKind.u64.wrap (a3 + (IntKind.u64.wrap (Int.tdiv (IntKind.u64.wrap (a2 + (IntKind.u64.wrap (Int.tdiv (IntKind.u64.wrap (a1 + (IntKind.u64.wrap (Int.tdiv a0 4294967296)))) 4294967296)))) 4294967296)))) 4294967296))) = w11 at BK1n BK2n HBn ⊢
 have BK1 := BK1n
 clear BK1n
 have BK2 := BK2n
 clear BK2n
 have HB := HBn
 clear HBn
 rw [rounds_succ]
 go_wp2
 refine start_ (n := 11) (S := fun w' => w'.cell? ⟨gb1, 4, none⟩ = some (.int .u64 (IntKind.u64.wrap (a4 + (IntKind.u64.wrap (Int.tdiv (IntKind.u64.wrap (a3 + (IntKind.u64.wrap (Int.tdiv (IntKind.u64.wrap (a2 + (IntKind.u64.wrap (Int.tdiv (IntKind.u64.wrap (a1 + (IntKind.u64.wrap (Int.tdiv a0 4294967296)))) 4294967296)))) 4294967296)))) 4294967296))))) ∧ w'.cell? ⟨gb1, 5, none⟩ = some (.int .u64 a5)) (ds := [10]) (bl_ 11 0) (by kernel_rfl) rfl (by kernel_rfl) ⟨(blk_cell BK1.out 4).trans rfl, (blk_cell BK1.out 5).trans rfl⟩ (fun hHeld => ?_); refine with_tabW spigotref21_carried.tab4 spigotref21_carried.bits4 (fun HT_ HW_ => ?_)
 replace BK1 := Aside0.mk (blk_drew BK1.out)
 replace BK2 := Aside0.mk (blk_drew BK2.out)
 replace HB := Aside0.mk (below_drew1 HB.out)
 generalize w11.drew = w12 at BK1 BK2 HB hHeld ⊢
 refine pa_ 0 (some 9) (bl_ 11 1) HT_ ?_
 refine pa_ 1 (some 10) (bl_ 11 3) HT_ ?_
 refine pa_ 2 (some 11) (bl_ 11 7) HT_ ?_
 refine pa_ 4 (some 13) (bl_ 11 23) HT_ ?_
 refine pa_ 5 (some 14) (bl_ 11 55) HT_ ?_
 refine ta_ 3 (some 12) (bl_ 11 63) HT_ HW_ hHeld ?_
 refine ta_ 6 (some 15) (bl_ 11 127) HT_ HW_ hHeld ?_
 refine pa_ 7 (some 16) (bl_ 11 255) HT_ ?_
 refine pa_ 8 (some 17) (bl_ 11 511) HT_ ?_
 refine pa_ 9 (some 18) (bl_ 11 1023) HT_ ?_
 have hc1 := ce6_ BK1
 have hc2 := ce6_ BK2
 refine last_ (i := 10) (N := none) (bl_ 11 2047) rfl rfl (one_of HT_.out (by kernel_rfl)) (by decide) (fun K hK => ?_)
 refine sk_ ?_
 refine hK.out _ _ ?_
 clear hK K
 refine done_ (done_of HT_.out (by kernel_rfl)) ?_
 go_wp2
 clear hc1 hc2
 have BK1n : Aside0 (((w12.setCell ⟨gb1, 5, none⟩ (.int .u64 (IntKind.u64.wrap (a5 + (IntKind.u64.wrap (Int.tdiv (IntKind.u64.wrap (a4 + (IntKind.u64.wrap (Int.tdiv (IntKind.u64.wrap (a3 + (IntKind.u64.wrap (Int.tdiv (IntKind.u64.wrap (a2 + (IntKind.u64.wrap (Int.tdiv (IntKind.u64.wrap (a1 + (IntKind.u64.wrap (Int.tdiv a0 4294967296)))) 4294967296)))) 4294967296)))) 4294967296)))) 4294967296)))))).setCell ⟨gb1, 4, none⟩ (.int .u64 (Int.tmod (IntKind.u64.wrap (a4 + (IntKind.u64.wrap (Int.tdiv (IntKind.u64.wrap (a3 + (IntKind.u64.wrap (Int.tdiv (IntKind.u64.wrap (a2 + (IntKind.u64.wrap (Int.tdiv (IntKind.u64.wrap (a1 + (IntKind.u64.wrap (Int.tdiv a0 4294967296)))) 4294967296)))) 4294967296)))) 4294967296)))) 4294967296))).heap[gb1]? = some (.cells #[.int .u64 (Int.tmod a0 4294967296), .int .u64 (Int.tmod (IntKind.u64.wrap (a1 + (IntKind.u64.wrap (Int.tdiv a0 4294967296)))) 4294967296), .int .u64 (Int.tmod (IntKind.u64.wrap (a2 + (IntKind.u64.wrap (Int.tdiv (IntKind.u64.wrap (a1 + (IntKind.u64.wrap (Int.tdiv a0 4294967296)))) 4294967296)))) 4294967296), .int .u64 (Int.tmod (IntKind.u64.wrap (a3 + (IntKind.u64.wrap (Int.tdiv (IntKind.u64.wrap (a2 + (IntKind.u64.wrap (Int.tdiv (IntKind.u64.wrap (a1 + (IntKind.u64.wrap (Int.tdiv a0 4294967296)))) 4294967296)))) 4294967296)))) 4294967296), .int .u64 (Int.tmod (IntKind.u64.wrap (a4 + (IntKind.u64.wrap (Int.tdiv (IntKind.u64.wrap (a3 + (IntKind.u64.wrap (Int.tdiv (IntKind.u64.wrap (a2 + (IntKind.u64.wrap (Int.tdiv (IntKind.u64.wrap (a1 + (IntKind.u64.wrap (Int.tdiv a0 4294967296)))) 4294967296)))) 4294967296)))) 4294967296)))) 4294967296), .int .u64 (IntKind.u64.wrap (a5 + (IntKind.u64.wrap (Int.tdiv (IntKind.u64.wrap (a4 + (IntKind.u64.wrap (Int.tdiv (IntKind.u64.wrap (a3 + (IntKind.u64.wrap (Int.tdiv (IntKind.u64.wrap (a2 + (IntKind.u64.wrap (Int.tdiv (IntKind.u64.wrap (a1 + (IntKind.u64.wrap (Int.tdiv a0 4294967296)))) 4294967296)))) 4294967296)))) 4294967296)))) 4294967296))))] 74 (0, 0))) := ⟨(blk_put (cs := #[.int .u64 (Int.tmod a0 4294967296), .int .u64 (Int.tmod (IntKind.u64.wrap (a1 + (IntKind.u64.wrap (Int.tdiv a0 4294967296)))) 4294967296), .int .u64 (Int.tmod (IntKind.u64.wrap (a2 + (IntKind.u64.wrap (Int.tdiv (IntKind.u64.wrap (a1 + (IntKind.u64.wrap (Int.tdiv a0 4294967296)))) 4294967296)))) 4294967296), .int .u64 (Int.tmod (IntKind.u64.wrap (a3 + (IntKind.u64.wrap (Int.tdiv (IntKind.u64.wrap (a2 + (IntKind.u64.wrap (Int.tdiv (IntKind.u64.wrap (a1 + (IntKind.u64.wrap (Int.tdiv a0 4294967296)))) 4294967296)))) 4294967296)))) 4294967296), .int .u64 (IntKind.u64.wrap (a4 + (IntKind.u64.wrap (Int.tdiv (IntKind.u64.wrap (a3 + (IntKind.u64.wrap (Int.tdiv (IntKind.u64.wrap (a2 + (IntKind.u64.wrap (Int.tdiv (IntKind.u64.wrap (a1 + (IntKind.u64.wrap (Int.tdiv a0 4294967296)))) 4294967296)))) 4294967296)))) 4294967296)))), .int .u64 (IntKind.u64.wrap (a5 + (IntKind.u64.wrap (Int.tdiv (IntKind.u64.wrap (a4 + (IntKind.u64.wrap (Int.tdiv (IntKind.u64.wrap (a3 + (IntKind.u64.wrap (Int.tdiv (IntKind.u64.wrap (a2 + (IntKind.u64.wrap (Int.tdiv (IntKind.u64.wrap (a1 + (IntKind.u64.wrap (Int.tdiv a0 4294967296)))) 4294967296)))) 4294967296)))) 4294967296)))) 4294967296))))]) (blk_put (cs := #[.int .u64 (Int.tmod a0 4294967296), .int .u64 (Int.tmod (IntKind.u64.wrap (a1 + (IntKind.u64.wrap (Int.tdiv a0 4294967296)))) 4294967296), .int .u64 (Int.tmod (IntKind.u64.wrap (a2 + (IntKind.u64.wrap (Int.tdiv (IntKind.u64.wrap (a1 + (IntKind.u64.wrap (Int.tdiv a0 4294967296)))) 4294967296)))) 4294967296), .int .u64 (Int.tmod (IntKind.u64.wrap (a3 + (IntKind.u64.wrap (Int.tdiv (IntKind.u64.wrap (a2 + (IntKind.u64.wrap (Int.tdiv (IntKind.u64.wrap (a1 + (IntKind.u64.wrap (Int.tdiv a0 4294967296)))) 4294967296)))) 4294967296)))) 4294967296), .int .u64 (IntKind.u64.wrap (a4 + (IntKind.u64.wrap (Int.tdiv (IntKind.u64.wrap (a3 + (IntKind.u64.wrap (Int.tdiv (IntKind.u64.wrap (a2 + (IntKind.u64.wrap (Int.tdiv (IntKind.u64.wrap (a1 + (IntKind.u64.wrap (Int.tdiv a0 4294967296)))) 4294967296)))) 4294967296)))) 4294967296)))), .int .u64 a5]) BK1.out 5 _ rfl) 4 _ rfl)⟩
 have BK2n : Aside0 (((w12.setCell ⟨gb1, 5, none⟩ (.int .u64 (IntKind.u64.wrap (a5 + (IntKind.u64.wrap (Int.tdiv (IntKind.u64.wrap (a4 + (IntKind.u64.wrap (Int.tdiv (IntKind.u64.wrap (a3 + (IntKind.u64.wrap (Int.tdiv (IntKind.u64.wrap (a2 + (IntKind.u64.wrap (Int.tdiv (IntKind.u64.wrap (a1 + (IntKind.u64.wrap (Int.tdiv a0 4294967296)))) 4294967296)))) 4294967296)))) 4294967296)))) 4294967296)))))).setCell ⟨gb1, 4, none⟩ (.int .u64 (Int.tmod (IntKind.u64.wrap (a4 + (IntKind.u64.wrap (Int.tdiv (IntKind.u64.wrap (a3 + (IntKind.u64.wrap (Int.tdiv (IntKind.u64.wrap (a2 + (IntKind.u64.wrap (Int.tdiv (IntKind.u64.wrap (a1 + (IntKind.u64.wrap (Int.tdiv a0 4294967296)))) 4294967296)))) 4294967296)))) 4294967296)))) 4294967296))).heap[gb2]? = some (.cells #[.int .u64 0, .int .u64 0, .int .u64 0, .int .u64 0, .int .u64 0, .int .u64 0] 74 (0, 0))) := ⟨(blk_far (blk_far BK2.out NB2_1.out _) NB2_1.out _)⟩
 have HBn : Aside0 (Below w.heap.size w ((w12.setCell ⟨gb1, 5, none⟩ (.int .u64 (IntKind.u64.wrap (a5 + (IntKind.u64.wrap (Int.tdiv (IntKind.u64.wrap (a4 + (IntKind.u64.wrap (Int.tdiv (IntKind.u64.wrap (a3 + (IntKind.u64.wrap (Int.tdiv (IntKind.u64.wrap (a2 + (IntKind.u64.wrap (Int.tdiv (IntKind.u64.wrap (a1 + (IntKind.u64.wrap (Int.tdiv a0 4294967296)))) 4294967296)))) 4294967296)))) 4294967296)))) 4294967296)))))).setCell ⟨gb1, 4, none⟩ (.int .u64 (Int.tmod (IntKind.u64.wrap (a4 + (IntKind.u64.wrap (Int.tdiv (IntKind.u64.wrap (a3 + (IntKind.u64.wrap (Int.tdiv (IntKind.u64.wrap (a2 + (IntKind.u64.wrap (Int.tdiv (IntKind.u64.wrap (a1 + (IntKind.u64.wrap (Int.tdiv a0 4294967296)))) 4294967296)))) 4294967296)))) 4294967296)))) 4294967296)))) := bw_
 clear BK1 BK2 HB
 generalize ((w12.setCell ⟨gb1, 5, none⟩ (.int .u64 (IntKind.u64.wrap (a5 + (IntKind.u64.wrap (Int.tdiv (IntKind.u64.wrap (a4 + (IntKind.u64.wrap (Int.tdiv (IntKind.u64.wrap (a3 + (IntKind.u64.wrap (Int.tdiv (IntKind.u64.wrap (a2 + (IntKind.u64.wrap (Int.tdiv (IntKind.u64.wrap (a1 + (IntKind.u64.wrap (Int.tdiv a0 4294967296)))) 4294967296)))) 4294967296)))) 4294967296)))) 4294967296)))))).setCell ⟨gb1, 4, none⟩ (.int .u64 (Int.tmod (IntKind.u64.wrap (a4 + (IntKind.u64.wrap (Int.tdiv (IntKind.u64.wrap (a3 + (IntKind.u64.wrap (Int.tdiv (IntKind.u64.wrap (a2 + (IntKind.u64.wrap (Int.tdiv (IntKind.u64.wrap (a1 + (IntKind.u64.wrap (Int.tdiv a0 4294967296)))) 4294967296)))) 4294967296)))) 4294967296)))) 4294967296))) = w13 at BK1n BK2n HBn ⊢
 have BK1 := BK1n
 clear BK1n
 have BK2 := BK2n
 clear BK2n
 have HB := HBn
 clear HBn
 rw [rounds_succ]
 have hc1 := ce6_ BK1
 have hc2 := ce6_ BK2
 go_wp2
 refine bodyPost_ret (results_cell_row rfl _ _ gb2 74 #[.int .u64 (Int.tmod a0 4294967296), .int .u64 (Int.tmod (IntKind.u64.wrap (a1 + (IntKind.u64.wrap (Int.tdiv a0 4294967296)))) 4294967296), .int .u64 (Int.tmod (IntKind.u64.wrap (a2 + (IntKind.u64.wrap (Int.tdiv (IntKind.u64.wrap (a1 + (IntKind.u64.wrap (Int.tdiv a0 4294967296)))) 4294967296)))) 4294967296), .int .u64 (Int.tmod (IntKind.u64.wrap (a3 + (IntKind.u64.wrap (Int.tdiv (IntKind.u64.wrap (a2 + (IntKind.u64.wrap (Int.tdiv (IntKind.u64.wrap (a1 + (IntKind.u64.wrap (Int.tdiv a0 4294967296)))) 4294967296)))) 4294967296)))) 4294967296), .int .u64 (Int.tmod (IntKind.u64.wrap (a4 + (IntKind.u64.wrap (Int.tdiv (IntKind.u64.wrap (a3 + (IntKind.u64.wrap (Int.tdiv (IntKind.u64.wrap (a2 + (IntKind.u64.wrap (Int.tdiv (IntKind.u64.wrap (a1 + (IntKind.u64.wrap (Int.tdiv a0 4294967296)))) 4294967296)))) 4294967296)))) 4294967296)))) 4294967296), .int .u64 (IntKind.u64.wrap (a5 + (IntKind.u64.wrap (Int.tdiv (IntKind.u64.wrap (a4 + (IntKind.u64.wrap (Int.tdiv (IntKind.u64.wrap (a3 + (IntKind.u64.wrap (Int.tdiv (IntKind.u64.wrap (a2 + (IntKind.u64.wrap (Int.tdiv (IntKind.u64.wrap (a1 + (IntKind.u64.wrap (Int.tdiv a0 4294967296)))) 4294967296)))) 4294967296)))) 4294967296)))) 4294967296))))] (0, 0) _ rfl (bp6_ (bq_ BK2)) Try.underlying74 rfl (by kernel_rfl)) rfl ?_
 exact fi_

end Go.Proofs.Ytcdmjdghmbdikaa.X
