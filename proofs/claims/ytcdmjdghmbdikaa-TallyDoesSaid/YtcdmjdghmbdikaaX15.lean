-- written by xprint.py, a program of this session over the kit's print
import Derived.Test.YtcdmjdghmbdikaaX0
import Derived.Test.YtcdmjdghmbdikaaX14
namespace Go.Proofs.Ytcdmjdghmbdikaa.X
open Go.RowKit Go.Proofs.YtcdmjdghmbdikaaW.PrintWords Go.Proofs.YtcdmjdghmbdikaaW.PrintLast Go.Proofs.YtcdmjdghmbdikaaW.PrintMore
attribute [local go_sem] max2_int min2_int max_two min_two max_three min_three max_four min_four   -- for this text's walks alone
set_option linter.unusedVariables false
set_option linter.unusedSimpArgs false

/-! ### spigotref21_Plus: function 45 -/
def spigotref21_Plus.T4 : Bool × List (List Nat × List Nat) := (true, [([], []), ([0], [0]), ([1], [1]), ([], []), ([3], [3]), ([4], [4]), ([2, 5], [2, 5]), ([0, 0, 1, 2, 3, 4, 5, 6], [0]), ([7, 6, 0, 1, 2, 3, 4, 5, 6], [6, 7])])
def spigotref21_Plus.B4 : List Nat := [0, 1, 3, 0, 8, 24, 63, 127, 255]
theorem spigotref21_Plus.tab4 : rtab .any (opsOf Try.f45 4) = spigotref21_Plus.T4 := by kernel_rfl
theorem spigotref21_Plus.bits4 : waitsOk spigotref21_Plus.T4.2 spigotref21_Plus.B4 = true := by kernel_rfl
def spigotref21_Plus.f (a0 : Int) (a1 : Int) (a2 : Int) (a3 : Int) (a4 : Int) (a5 : Int) (b0 : Int) (b1 : Int) (b2 : Int) (b3 : Int) (b4 : Int) (b5 : Int) : Option (Int × Int × Int × Int × Int × Int) := spigotref21_carried.f (IntKind.u64.wrap (a0 + b0)) (IntKind.u64.wrap (a1 + b1)) (IntKind.u64.wrap (a2 + b2)) (IntKind.u64.wrap (a3 + b3)) (IntKind.u64.wrap (a4 + b4)) (IntKind.u64.wrap (a5 + b5))
set_option maxHeartbeats 8000000 in
set_option maxRecDepth 100000 in
theorem spigotref21_Plus.calls (a0 : Int) (a1 : Int) (a2 : Int) (a3 : Int) (a4 : Int) (a5 : Int) (b0 : Int) (b1 : Int) (b2 : Int) (b3 : Int) (b4 : Int) (b5 : Int) (r1 : Int) (r2 : Int) (r3 : Int) (r4 : Int) (r5 : Int) (r6 : Int) (w : World) (h : spigotref21_Plus.f a0 a1 a2 a3 a4 a5 b0 b1 b2 b3 b4 b5 = some (r1, r2, r3, r4, r5, r6)) :
  Calls Try.prog 45 #[.agg #[.int .u64 a0, .int .u64 a1, .int .u64 a2, .int .u64 a3, .int .u64 a4, .int .u64 a5], .agg #[.int .u64 b0, .int .u64 b1, .int .u64 b2, .int .u64 b3, .int .u64 b4, .int .u64 b5]] w fun e w' => e = .returned (.agg #[.int .u64 r1, .int .u64 r2, .int .u64 r3, .int .u64 r4, .int .u64 r5, .int .u64 r6]) ∧ Below w.heap.size w w' := by
 unfold spigotref21_Plus.f at h
 have hu74 := Try.underlying74
 have HB := Aside0.mk (Below.refl w.heap.size w)
 have ew0 : wrap64 (0 : Int) = 0 := by unfold wrap64; omega
 have ew1 : wrap64 (1 : Int) = 1 := by unfold wrap64; omega
 have ew2 : wrap64 (2 : Int) = 2 := by unfold wrap64; omega
 have ew3 : wrap64 (3 : Int) = 3 := by unfold wrap64; omega
 have ew4 : wrap64 (4 : Int) = 4 := by unfold wrap64; omega
 have ew5 : wrap64 (5 : Int) = 5 := by unfold wrap64; omega
 have ew6 : wrap64 (6 : Int) = 6 := by unfold wrap64; omega
 have ew7 : wrap64 (7 : Int) = 7 := by unfold wrap64; omega
 have ewm : wrap64 (-1 : Int) = -1 := by unfold wrap64; omega
 go_enter Try.func45, Try.ntmps45
 go_wp2_with (first | ((with_reducible refine gate_dst (N := 2) rfl ?_); refine bx_ #[.int .u64 a0, .int .u64 a1, .int .u64 a2, .int .u64 a3, .int .u64 a4, .int .u64 a5] 74 ?_; intro gb2 hg w2 BK2 hb; have GW2 := bz_ w hg; replace HB := bs_ w hb; clear hb hg) | ((with_reducible refine gate_dst (N := 3) rfl ?_); refine bx_ #[.int .u64 b0, .int .u64 b1, .int .u64 b2, .int .u64 b3, .int .u64 b4, .int .u64 b5] 74 ?_; intro gb3 hg w3 BK3 hb; have GW3 := bz_ w hg; have NB2_3 := bn_ BK2 hg; have NB3_2 := bm_ BK2 hg; replace BK2 := bb_ BK2 hb; replace HB := bs_ w hb; clear hb hg) | ((with_reducible refine gate_dst (N := 4) rfl ?_); refine bx_ #[.int .u64 0, .int .u64 0, .int .u64 0, .int .u64 0, .int .u64 0, .int .u64 0] 74 ?_; intro gb4 hg w4 BK4 hb; have GW4 := bz_ w hg; have NB2_4 := bn_ BK2 hg; have NB4_2 := bm_ BK2 hg; have NB3_4 := bn_ BK3 hg; have NB4_3 := bm_ BK3 hg; replace BK2 := bb_ BK2 hb; replace BK3 := bb_ BK3 hb; replace HB := bs_ w hb; clear hb hg))
 have hn2_3 := NB2_3.out
 have hn2_4 := NB2_4.out
 have hn3_2 := NB3_2.out
 have hn3_4 := NB3_4.out
 have hn4_2 := NB4_2.out
 have hn4_3 := NB4_3.out
 refine wp_loop_rounds 7 ?_
 rw [rounds_succ]
 go_wp2
 refine start_ (n := 9) (S := fun w' => w'.cell? ⟨gb2, 0, none⟩ = some (.int .u64 a0) ∧ w'.cell? ⟨gb3, 0, none⟩ = some (.int .u64 b0)) (ds := [8]) (bl_ 9 0) (by kernel_rfl) rfl (by kernel_rfl) ⟨(blk_cell BK2.out 0).trans rfl, (blk_cell BK3.out 0).trans rfl⟩ (fun hHeld => ?_); refine with_tabW spigotref21_Plus.tab4 spigotref21_Plus.bits4 (fun HT_ HW_ => ?_)
 replace BK2 := Aside0.mk (blk_drew BK2.out)
 replace BK3 := Aside0.mk (blk_drew BK3.out)
 replace BK4 := Aside0.mk (blk_drew BK4.out)
 replace HB := Aside0.mk (below_drew1 HB.out)
 generalize w4.drew = w5 at BK2 BK3 BK4 HB hHeld ⊢
 refine pa_ 0 (some 10) (bl_ 9 1) HT_ ?_
 refine pa_ 1 (some 11) (bl_ 9 3) HT_ ?_
 refine pa_ 3 (some 13) (bl_ 9 11) HT_ ?_
 refine pa_ 4 (some 14) (bl_ 9 27) HT_ ?_
 refine ta_ 2 (some 12) (bl_ 9 31) HT_ HW_ hHeld ?_
 refine ta_ 5 (some 15) (bl_ 9 63) HT_ HW_ hHeld ?_
 refine pa_ 6 (some 16) (bl_ 9 127) HT_ ?_
 refine pa_ 7 (some 17) (bl_ 9 255) HT_ ?_
 have hc2 := ce6_ BK2
 have hc3 := ce6_ BK3
 have hc4 := ce6_ BK4
 refine last_ (i := 8) (N := none) (bl_ 9 511) rfl rfl (one_of HT_.out (by kernel_rfl)) (by decide) (fun K hK => ?_)
 refine sk_ ?_
 refine hK.out _ _ ?_
 clear hK K
 refine done_ (done_of HT_.out (by kernel_rfl)) ?_
 go_wp2
 clear hc2 hc3 hc4
 have BK2n : Aside0 ((w5.setCell ⟨gb2, 0, none⟩ (.int .u64 (IntKind.u64.wrap (a0 + b0)))).heap[gb2]? = some (.cells #[.int .u64 (IntKind.u64.wrap (a0 + b0)), .int .u64 a1, .int .u64 a2, .int .u64 a3, .int .u64 a4, .int .u64 a5] 74 (0, 0))) := ⟨(blk_put (cs := #[.int .u64 a0, .int .u64 a1, .int .u64 a2, .int .u64 a3, .int .u64 a4, .int .u64 a5]) BK2.out 0 _ rfl)⟩
 have BK3n : Aside0 ((w5.setCell ⟨gb2, 0, none⟩ (.int .u64 (IntKind.u64.wrap (a0 + b0)))).heap[gb3]? = some (.cells #[.int .u64 b0, .int .u64 b1, .int .u64 b2, .int .u64 b3, .int .u64 b4, .int .u64 b5] 74 (0, 0))) := ⟨(blk_far BK3.out NB3_2.out _)⟩
 have BK4n : Aside0 ((w5.setCell ⟨gb2, 0, none⟩ (.int .u64 (IntKind.u64.wrap (a0 + b0)))).heap[gb4]? = some (.cells #[.int .u64 0, .int .u64 0, .int .u64 0, .int .u64 0, .int .u64 0, .int .u64 0] 74 (0, 0))) := ⟨(blk_far BK4.out NB4_2.out _)⟩
 have HBn : Aside0 (Below w.heap.size w (w5.setCell ⟨gb2, 0, none⟩ (.int .u64 (IntKind.u64.wrap (a0 + b0))))) := bw_
 clear BK2 BK3 BK4 HB
 generalize (w5.setCell ⟨gb2, 0, none⟩ (.int .u64 (IntKind.u64.wrap (a0 + b0)))) = w6 at BK2n BK3n BK4n HBn ⊢
 have BK2 := BK2n
 clear BK2n
 have BK3 := BK3n
 clear BK3n
 have BK4 := BK4n
 clear BK4n
 have HB := HBn
 clear HBn
 rw [rounds_succ]
 go_wp2
 refine start_ (n := 9) (S := fun w' => w'.cell? ⟨gb2, 1, none⟩ = some (.int .u64 a1) ∧ w'.cell? ⟨gb3, 1, none⟩ = some (.int .u64 b1)) (ds := [8]) (bl_ 9 0) (by kernel_rfl) rfl (by kernel_rfl) ⟨(blk_cell BK2.out 1).trans rfl, (blk_cell BK3.out 1).trans rfl⟩ (fun hHeld => ?_); refine with_tabW spigotref21_Plus.tab4 spigotref21_Plus.bits4 (fun HT_ HW_ => ?_)
 replace BK2 := Aside0.mk (blk_drew BK2.out)
 replace BK3 := Aside0.mk (blk_drew BK3.out)
 replace BK4 := Aside0.mk (blk_drew BK4.out)
 replace HB := Aside0.mk (below_drew1 HB.out)
 generalize w6.drew = w7 at BK2 BK3 BK4 HB hHeld ⊢
 refine pa_ 0 (some 10) (bl_ 9 1) HT_ ?_
 refine pa_ 1 (some 11) (bl_ 9 3) HT_ ?_
 refine pa_ 3 (some 13) (bl_ 9 11) HT_ ?_
 refine pa_ 4 (some 14) (bl_ 9 27) HT_ ?_
 refine ta_ 2 (some 12) (bl_ 9 31) HT_ HW_ hHeld ?_
 refine ta_ 5 (some 15) (bl_ 9 63) HT_ HW_ hHeld ?_
 refine pa_ 6 (some 16) (bl_ 9 127) HT_ ?_
 refine pa_ 7 (some 17) (bl_ 9 255) HT_ ?_
 have hc2 := ce6_ BK2
 have hc3 := ce6_ BK3
 have hc4 := ce6_ BK4
 refine last_ (i := 8) (N := none) (bl_ 9 511) rfl rfl (one_of HT_.out (by kernel_rfl)) (by decide) (fun K hK => ?_)
 refine sk_ ?_
 refine hK.out _ _ ?_
 clear hK K
 refine done_ (done_of HT_.out (by kernel_rfl)) ?_
 go_wp2
 clear hc2 hc3 hc4
 have BK2n : Aside0 ((w7.setCell ⟨gb2, 1, none⟩ (.int .u64 (IntKind.u64.wrap (a1 + b1)))).heap[gb2]? = some (.cells #[.int .u64 (IntKind.u64.wrap (a0 + b0)), .int .u64 (IntKind.u64.wrap (a1 + b1)), .int .u64 a2, .int .u64 a3, .int .u64 a4, .int .u64 a5] 74 (0, 0))) := ⟨(blk_put (cs := #[.int .u64 (IntKind.u64.wrap (a0 + b0)), .int .u64 a1, .int .u64 a2, .int .u64 a3, .int .u64 a4, .int .u64 a5]) BK2.out 1 _ rfl)⟩
 have BK3n : Aside0 ((w7.setCell ⟨gb2, 1, none⟩ (.int .u64 (IntKind.u64.wrap (a1 + b1)))).heap[gb3]? = some (.cells #[.int .u64 b0, .int .u64 b1, .int .u64 b2, .int .u64 b3, .int .u64 b4, .int .u64 b5] 74 (0, 0))) := ⟨(blk_far BK3.out NB3_2.out _)⟩
 have BK4n : Aside0 ((w7.setCell ⟨gb2, 1, none⟩ (.int .u64 (IntKind.u64.wrap (a1 + b1)))).heap[gb4]? = some (.cells #[.int .u64 0, .int .u64 0, .int .u64 0, .int .u64 0, .int .u64 0, .int .u64 0] 74 (0, 0))) := ⟨(blk_far BK4.out NB4_2.out _)⟩
 have HBn : Aside0 (Below w.heap.size w (w7.setCell ⟨gb2, 1, none⟩ (.int .u64 (IntKind.u64.wrap (a1 + b1))))) := bw_
 clear BK2 BK3 BK4 HB
 generalize (w7.setCell ⟨gb2, 1, none⟩ (.int .u64 (IntKind.u64.wrap (a1 + b1)))) = w8 at BK2n BK3n BK4n HBn ⊢
 have BK2 := BK2n
 clear BK2n
 have BK3 := BK3n
 clear BK3n
 have BK4 := BK4n
 clear BK4n
 have HB := HBn
 clear HBn
 rw [rounds_succ]
 go_wp2
 refine start_ (n := 9) (S := fun w' => w'.cell? ⟨gb2, 2, none⟩ = some (.int .u64 a2) ∧ w'.cell? ⟨gb3, 2, none⟩ = some (.int .u64 b2)) (ds := [8]) (bl_ 9 0) (by kernel_rfl) rfl (by kernel_rfl) ⟨(blk_cell BK2.out 2).trans rfl, (blk_cell BK3.out 2).trans rfl⟩ (fun hHeld => ?_); refine with_tabW spigotref21_Plus.tab4 spigotref21_Plus.bits4 (fun HT_ HW_ => ?_)
 replace BK2 := Aside0.mk (blk_drew BK2.out)
 replace BK3 := Aside0.mk (blk_drew BK3.out)
 replace BK4 := Aside0.mk (blk_drew BK4.out)
 replace HB := Aside0.mk (below_drew1 HB.out)
 generalize w8.drew = w9 at BK2 BK3 BK4 HB hHeld ⊢
 refine pa_ 0 (some 10) (bl_ 9 1) HT_ ?_
 refine pa_ 1 (some 11) (bl_ 9 3) HT_ ?_
 refine pa_ 3 (some 13) (bl_ 9 11) HT_ ?_
 refine pa_ 4 (some 14) (bl_ 9 27) HT_ ?_
 refine ta_ 2 (some 12) (bl_ 9 31) HT_ HW_ hHeld ?_
 refine ta_ 5 (some 15) (bl_ 9 63) HT_ HW_ hHeld ?_
 refine pa_ 6 (some 16) (bl_ 9 127) HT_ ?_
 refine pa_ 7 (some 17) (bl_ 9 255) HT_ ?_
 have hc2 := ce6_ BK2
 have hc3 := ce6_ BK3
 have hc4 := ce6_ BK4
 refine last_ (i := 8) (N := none) (bl_ 9 511) rfl rfl (one_of HT_.out (by kernel_rfl)) (by decide) (fun K hK => ?_)
 refine sk_ ?_
 refine hK.out _ _ ?_
 clear hK K
 refine done_ (done_of HT_.out (by kernel_rfl)) ?_
 go_wp2
 clear hc2 hc3 hc4
 have BK2n : Aside0 ((w9.setCell ⟨gb2, 2, none⟩ (.int .u64 (IntKind.u64.wrap (a2 + b2)))).heap[gb2]? = some (.cells #[.int .u64 (IntKind.u64.wrap (a0 + b0)), .int .u64 (IntKind.u64.wrap (a1 + b1)), .int .u64 (IntKind.u64.wrap (a2 + b2)), .int .u64 a3, .int .u64 a4, .int .u64 a5] 74 (0, 0))) := ⟨(blk_put (cs := #[.int .u64 (IntKind.u64.wrap (a0 + b0)), .int .u64 (IntKind.u64.wrap (a1 + b1)), .int .u64 a2, .int .u64 a3, .int .u64 a4, .int .u64 a5]) BK2.out 2 _ rfl)⟩
 have BK3n : Aside0 ((w9.setCell ⟨gb2, 2, none⟩ (.int .u64 (IntKind.u64.wrap (a2 + b2)))).heap[gb3]? = some (.cells #[.int .u64 b0, .int .u64 b1, .int .u64 b2, .int .u64 b3, .int .u64 b4, .int .u64 b5] 74 (0, 0))) := ⟨(blk_far BK3.out NB3_2.out _)⟩
 have BK4n : Aside0 ((w9.setCell ⟨gb2, 2, none⟩ (.int .u64 (IntKind.u64.wrap (a2 + b2)))).heap[gb4]? = some (.cells #[.int .u64 0, .int .u64 0, .int .u64 0, .int .u64 0, .int .u64 0, .int .u64 0] 74 (0, 0))) := ⟨(blk_far BK4.out NB4_2.out _)⟩
 have HBn : Aside0 (Below w.heap.size w (w9.setCell ⟨gb2, 2, none⟩ (.int .u64 (IntKind.u64.wrap (a2 + b2))))) := bw_
 clear BK2 BK3 BK4 HB
 generalize (w9.setCell ⟨gb2, 2, none⟩ (.int .u64 (IntKind.u64.wrap (a2 + b2)))) = w10 at BK2n BK3n BK4n HBn ⊢
 have BK2 := BK2n
 clear BK2n
 have BK3 := BK3n
 clear BK3n
 have BK4 := BK4n
 clear BK4n
 have HB := HBn
 clear HBn
 rw [rounds_succ]
 go_wp2
 refine start_ (n := 9) (S := fun w' => w'.cell? ⟨gb2, 3, none⟩ = some (.int .u64 a3) ∧ w'.cell? ⟨gb3, 3, none⟩ = some (.int .u64 b3)) (ds := [8]) (bl_ 9 0) (by kernel_rfl) rfl (by kernel_rfl) ⟨(blk_cell BK2.out 3).trans rfl, (blk_cell BK3.out 3).trans rfl⟩ (fun hHeld => ?_); refine with_tabW spigotref21_Plus.tab4 spigotref21_Plus.bits4 (fun HT_ HW_ => ?_)
 replace BK2 := Aside0.mk (blk_drew BK2.out)
 replace BK3 := Aside0.mk (blk_drew BK3.out)
 replace BK4 := Aside0.mk (blk_drew BK4.out)
 replace HB := Aside0.mk (below_drew1 HB.out)
 generalize w10.drew = w11 at BK2 BK3 BK4 HB hHeld ⊢
 refine pa_ 0 (some 10) (bl_ 9 1) HT_ ?_
 refine pa_ 1 (some 11) (bl_ 9 3) HT_ ?_
 refine pa_ 3 (some 13) (bl_ 9 11) HT_ ?_
 refine pa_ 4 (some 14) (bl_ 9 27) HT_ ?_
 refine ta_ 2 (some 12) (bl_ 9 31) HT_ HW_ hHeld ?_
 refine ta_ 5 (some 15) (bl_ 9 63) HT_ HW_ hHeld ?_
 refine pa_ 6 (some 16) (bl_ 9 127) HT_ ?_
 refine pa_ 7 (some 17) (bl_ 9 255) HT_ ?_
 have hc2 := ce6_ BK2
 have hc3 := ce6_ BK3
 have hc4 := ce6_ BK4
 refine last_ (i := 8) (N := none) (bl_ 9 511) rfl rfl (one_of HT_.out (by kernel_rfl)) (by decide) (fun K hK => ?_)
 refine sk_ ?_
 refine hK.out _ _ ?_
 clear hK K
 refine done_ (done_of HT_.out (by kernel_rfl)) ?_
 go_wp2
 clear hc2 hc3 hc4
 have BK2n : Aside0 ((w11.setCell ⟨gb2, 3, none⟩ (.int .u64 (IntKind.u64.wrap (a3 + b3)))).heap[gb2]? = some (.cells #[.int .u64 (IntKind.u64.wrap (a0 + b0)), .int .u64 (IntKind.u64.wrap (a1 + b1)), .int .u64 (IntKind.u64.wrap (a2 + b2)), .int .u64 (IntKind.u64.wrap (a3 + b3)), .int .u64 a4, .int .u64 a5] 74 (0, 0))) := ⟨(blk_put (cs := #[.int .u64 (IntKind.u64.wrap (a0 + b0)), .int .u64 (IntKind.u64.wrap (a1 + b1)), .int .u64 (IntKind.u64.wrap (a2 + b2)), .int .u64 a3, .int .u64 a4, .int .u64 a5]) BK2.out 3 _ rfl)⟩
 have BK3n : Aside0 ((w11.setCell ⟨gb2, 3, none⟩ (.int .u64 (IntKind.u64.wrap (a3 + b3)))).heap[gb3]? = some (.cells #[.int .u64 b0, .int .u64 b1, .int .u64 b2, .int .u64 b3, .int .u64 b4, .int .u64 b5] 74 (0, 0))) := ⟨(blk_far BK3.out NB3_2.out _)⟩
 have BK4n : Aside0 ((w11.setCell ⟨gb2, 3, none⟩ (.int .u64 (IntKind.u64.wrap (a3 + b3)))).heap[gb4]? = some (.cells #[.int .u64 0, .int .u64 0, .int .u64 0, .int .u64 0, .int .u64 0, .int .u64 0] 74 (0, 0))) := ⟨(blk_far BK4.out NB4_2.out _)⟩
 have HBn : Aside0 (Below w.heap.size w (w11.setCell ⟨gb2, 3, none⟩ (.int .u64 (IntKind.u64.wrap (a3 + b3))))) := bw_
 clear BK2 BK3 BK4 HB
 generalize (w11.setCell ⟨gb2, 3, none⟩ (.int .u64 (IntKind.u64.wrap (a3 + b3)))) = w12 at BK2n BK3n BK4n HBn ⊢
 have BK2 := BK2n
 clear BK2n
 have BK3 := BK3n
 clear BK3n
 have BK4 := BK4n
 clear BK4n
 have HB := HBn
 clear HBn
 rw [rounds_succ]
 go_wp2
 refine start_ (n := 9) (S := fun w' => w'.cell? ⟨gb2, 4, none⟩ = some (.int .u64 a4) ∧ w'.cell? ⟨gb3, 4, none⟩ = some (.int .u64 b4)) (ds := [8]) (bl_ 9 0) (by kernel_rfl) rfl (by kernel_rfl) ⟨(blk_cell BK2.out 4).trans rfl, (blk_cell BK3.out 4).trans rfl⟩ (fun hHeld => ?_); refine with_tabW spigotref21_Plus.tab4 spigotref21_Plus.bits4 (fun HT_ HW_ => ?_)
 replace BK2 := Aside0.mk (blk_drew BK2.out)
 replace BK3 := Aside0.mk (blk_drew BK3.out)
 replace BK4 := Aside0.mk (blk_drew BK4.out)
 replace HB := Aside0.mk (below_drew1 HB.out)
 generalize w12.drew = w13 at BK2 BK3 BK4 HB hHeld ⊢
 refine pa_ 0 (some 10) (bl_ 9 1) HT_ ?_
 refine pa_ 1 (some 11) (bl_ 9 3) HT_ ?_
 refine pa_ 3 (some 13) (bl_ 9 11) HT_ ?_
 refine pa_ 4 (some 14) (bl_ 9 27) HT_ ?_
 refine ta_ 2 (some 12) (bl_ 9 31) HT_ HW_ hHeld ?_
 refine ta_ 5 (some 15) (bl_ 9 63) HT_ HW_ hHeld ?_
 refine pa_ 6 (some 16) (bl_ 9 127) HT_ ?_
 refine pa_ 7 (some 17) (bl_ 9 255) HT_ ?_
 have hc2 := ce6_ BK2
 have hc3 := ce6_ BK3
 have hc4 := ce6_ BK4
 refine last_ (i := 8) (N := none) (bl_ 9 511) rfl rfl (one_of HT_.out (by kernel_rfl)) (by decide) (fun K hK => ?_)
 refine sk_ ?_
 refine hK.out _ _ ?_
 clear hK K
 refine done_ (done_of HT_.out (by kernel_rfl)) ?_
 go_wp2
 clear hc2 hc3 hc4
 have BK2n : Aside0 ((w13.setCell ⟨gb2, 4, none⟩ (.int .u64 (IntKind.u64.wrap (a4 + b4)))).heap[gb2]? = some (.cells #[.int .u64 (IntKind.u64.wrap (a0 + b0)), .int .u64 (IntKind.u64.wrap (a1 + b1)), .int .u64 (IntKind.u64.wrap (a2 + b2)), .int .u64 (IntKind.u64.wrap (a3 + b3)), .int .u64 (IntKind.u64.wrap (a4 + b4)), .int .u64 a5] 74 (0, 0))) := ⟨(blk_put (cs := #[.int .u64 (IntKind.u64.wrap (a0 + b0)), .int .u64 (IntKind.u64.wrap (a1 + b1)), .int .u64 (IntKind.u64.wrap (a2 + b2)), .int .u64 (IntKind.u64.wrap (a3 + b3)), .int .u64 a4, .int .u64 a5]) BK2.out 4 _ rfl)⟩
 have BK3n : Aside0 ((w13.setCell ⟨gb2, 4, none⟩ (.int .u64 (IntKind.u64.wrap (a4 + b4)))).heap[gb3]? = some (.cells #[.int .u64 b0, .int .u64 b1, .int .u64 b2, .int .u64 b3, .int .u64 b4, .int .u64 b5] 74 (0, 0))) := ⟨(blk_far BK3.out NB3_2.out _)⟩
 have BK4n : Aside0 ((w13.setCell ⟨gb2, 4, none⟩ (.int .u64 (IntKind.u64.wrap (a4 + b4)))).heap[gb4]? = some (.cells #[.int .u64 0, .int .u64 0, .int .u64 0, .int .u64 0, .int .u64 0, .int .u64 0] 74 (0, 0))) := ⟨(blk_far BK4.out NB4_2.out _)⟩
 have HBn : Aside0 (Below w.heap.size w (w13.setCell ⟨gb2, 4, none⟩ (.int .u64 (IntKind.u64.wrap (a4 + b4))))) := bw_
 clear BK2 BK3 BK4 HB
 generalize (w13.setCell ⟨gb2, 4, none⟩ (.int .u64 (IntKind.u64.wrap (a4 + b4)))) = w14 at BK2n BK3n BK4n HBn ⊢
 have BK2 := BK2n
 clear BK2n
 have BK3 := BK3n
 clear BK3n
 have BK4 := BK4n
 clear BK4n
 have HB := HBn
 clear HBn
 rw [rounds_succ]
 go_wp2
 refine start_ (n := 9) (S := fun w' => w'.cell? ⟨gb2, 5, none⟩ = some (.int .u64 a5) ∧ w'.cell? ⟨gb3, 5, none⟩ = some (.int .u64 b5)) (ds := [8]) (bl_ 9 0) (by kernel_rfl) rfl (by kernel_rfl) ⟨(blk_cell BK2.out 5).trans rfl, (blk_cell BK3.out 5).trans rfl⟩ (fun hHeld => ?_); refine with_tabW spigotref21_Plus.tab4 spigotref21_Plus.bits4 (fun HT_ HW_ => ?_)
 replace BK2 := Aside0.mk (blk_drew BK2.out)
 replace BK3 := Aside0.mk (blk_drew BK3.out)
 replace BK4 := Aside0.mk (blk_drew BK4.out)
 replace HB := Aside0.mk (below_drew1 HB.out)
 generalize w14.drew = w15 at BK2 BK3 BK4 HB hHeld ⊢
 refine pa_ 0 (some 10) (bl_ 9 1) HT_ ?_
 refine pa_ 1 (some 11) (bl_ 9 3) HT_ ?_
 refine pa_ 3 (some 13) (bl_ 9 11) HT_ ?_
 refine pa_ 4 (some 14) (bl_ 9 27) HT_ ?_
 refine ta_ 2 (some 12) (bl_ 9 31) HT_ HW_ hHeld ?_
 refine ta_ 5 (some 15) (bl_ 9 63) HT_ HW_ hHeld ?_
 refine pa_ 6 (some 16) (bl_ 9 127) HT_ ?_
 refine pa_ 7 (some 17) (bl_ 9 255) HT_ ?_
 have hc2 := ce6_ BK2
 have hc3 := ce6_ BK3
 have hc4 := ce6_ BK4
 refine last_ (i := 8) (N := none) (bl_ 9 511) rfl rfl (one_of HT_.out (by kernel_rfl)) (by decide) (fun K hK => ?_)
 refine sk_ ?_
 refine hK.out _ _ ?_
 clear hK K
 refine done_ (done_of HT_.out (by kernel_rfl)) ?_
 go_wp2
 clear hc2 hc3 hc4
 have BK2n : Aside0 ((w15.setCell ⟨gb2, 5, none⟩ (.int .u64 (IntKind.u64.wrap (a5 + b5)))).heap[gb2]? = some (.cells #[.int .u64 (IntKind.u64.wrap (a0 + b0)), .int .u64 (IntKind.u64.wrap (a1 + b1)), .int .u64 (IntKind.u64.wrap (a2 + b2)), .int .u64 (IntKind.u64.wrap (a3 + b3)), .int .u64 (IntKind.u64.wrap (a4 + b4)), .int .u64 (IntKind.u64.wrap (a5 + b5))] 74 (0, 0))) := ⟨(blk_put (cs := #[.int .u64 (IntKind.u64.wrap (a0 + b0)), .int .u64 (IntKind.u64.wrap (a1 + b1)), .int .u64 (IntKind.u64.wrap (a2 + b2)), .int .u64 (IntKind.u64.wrap (a3 + b3)), .int .u64 (IntKind.u64.wrap (a4 + b4)), .int .u64 a5]) BK2.out 5 _ rfl)⟩
 have BK3n : Aside0 ((w15.setCell ⟨gb2, 5, none⟩ (.int .u64 (IntKind.u64.wrap (a5 + b5)))).heap[gb3]? = some (.cells #[.int .u64 b0, .int .u64 b1, .int .u64 b2, .int .u64 b3, .int .u64 b4, .int .u64 b5] 74 (0, 0))) := ⟨(blk_far BK3.out NB3_2.out _)⟩
 have BK4n : Aside0 ((w15.setCell ⟨gb2, 5, none⟩ (.int .u64 (IntKind.u64.wrap (a5 + b5)))).heap[gb4]? = some (.cells #[.int .u64 0, .int .u64 0, .int .u64 0, .int .u64 0, .int .u64 0, .int .u64 0] 74 (0, 0))) := ⟨(blk_far BK4.out NB4_2.out _)⟩
 have HBn : Aside0 (Below w.heap.size w (w15.setCell ⟨gb2, 5, none⟩ (.int .u64 (IntKind.u64.wrap (a5 + b5))))) := bw_
 clear BK2 BK3 BK4 HB
 generalize (w15.setCell ⟨gb2, 5, none⟩ (.int .u64 (IntKind.u64.wrap (a5 + b5)))) = w16 at BK2n BK3n BK4n HBn ⊢
 have BK2 := BK2n
 clear BK2n
 have BK3 := BK3n
 clear BK3n
 have BK4 := BK4n
 clear BK4n
 have HB := HBn
 clear HBn
 rw [rounds_succ]
 have hc2 := ce6_ BK2
 have hc3 := ce6_ BK3
 have hc4 := ce6_ BK4
 go_wp2_with (go_at_call 56; refine (spigotref21_carried.calls _ _ _ _ _ _ r1 r2 r3 r4 r5 r6 _ h).mono ?_; rintro e wz ⟨rfl, hb⟩; replace BK4 := bb_ BK4 hb; replace HB := bs_ w hb; clear hb hc2 hc3 hc4; have hc4 := ce6_ BK4)
 refine bodyPost_ret (results_cell_row rfl _ _ gb4 74 #[.int .u64 r1, .int .u64 r2, .int .u64 r3, .int .u64 r4, .int .u64 r5, .int .u64 r6] (0, 0) _ rfl (bp6_ (bq_ BK4)) Try.underlying74 rfl (by kernel_rfl)) rfl ?_
 exact fi_

end Go.Proofs.Ytcdmjdghmbdikaa.X
