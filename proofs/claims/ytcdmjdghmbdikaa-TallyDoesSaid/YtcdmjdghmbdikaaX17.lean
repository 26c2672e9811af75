-- written by xprint.py, a program of this session over the kit's print
import Derived.Test.YtcdmjdghmbdikaaX0
import Derived.Test.YtcdmjdghmbdikaaX14
namespace Go.Proofs.Ytcdmjdghmbdikaa.X
open Go.RowKit Go.Proofs.YtcdmjdghmbdikaaW.PrintWords Go.Proofs.YtcdmjdghmbdikaaW.PrintLast Go.Proofs.YtcdmjdghmbdikaaW.PrintMore
attribute [local go_sem] max2_int min2_int max_two min_two max_three min_three max_four min_four   -- for this text's walks alone
set_option linter.unusedVariables false
set_option linter.unusedSimpArgs false

/-! ### spigotref21_Times: function 47 -/
def spigotref21_Times.T8 : Bool × List (List Nat × List Nat) := (true, [([], []), ([0], [0]), ([1], [1]), ([], []), ([3], [3]), ([4], [4]), ([2, 5], [2, 5]), ([6, 0, 1, 2, 3, 4, 5, 6], [6])])
def spigotref21_Times.B8 : List Nat := [0, 1, 3, 0, 8, 24, 63, 127]
theorem spigotref21_Times.tab8 : rtab .any (opsOf Try.f47 8) = spigotref21_Times.T8 := by kernel_rfl
theorem spigotref21_Times.bits8 : waitsOk spigotref21_Times.T8.2 spigotref21_Times.B8 = true := by kernel_rfl
def spigotref21_Times.f (a0 : Int) (a1 : Int) (a2 : Int) (a3 : Int) (a4 : Int) (a5 : Int) (b0 : Int) (b1 : Int) (b2 : Int) (b3 : Int) (b4 : Int) (b5 : Int) : Option (Int × Int × Int × Int × Int × Int) := (spigotref21_carried.f (IntKind.u64.wrap (Int.tmod (IntKind.u64.wrap (a0 * b0)) 4294967296)) (IntKind.u64.wrap ((IntKind.u64.wrap (IntKind.u64.wrap (Int.tdiv (IntKind.u64.wrap (a0 * b0)) 4294967296))) + (Int.tmod (IntKind.u64.wrap (a0 * b1)) 4294967296))) (IntKind.u64.wrap ((IntKind.u64.wrap (IntKind.u64.wrap (Int.tdiv (IntKind.u64.wrap (a0 * b1)) 4294967296))) + (Int.tmod (IntKind.u64.wrap (a0 * b2)) 4294967296))) (IntKind.u64.wrap (IntKind.u64.wrap (Int.tdiv (IntKind.u64.wrap (a0 * b2)) 4294967296))) 0 0).bind fun c0 => (spigotref21_carried.f (c0.1) (IntKind.u64.wrap ((c0.2.1) + (Int.tmod (IntKind.u64.wrap (a1 * b0)) 4294967296))) (IntKind.u64.wrap ((IntKind.u64.wrap ((c0.2.2.1) + (IntKind.u64.wrap (Int.tdiv (IntKind.u64.wrap (a1 * b0)) 4294967296)))) + (Int.tmod (IntKind.u64.wrap (a1 * b1)) 4294967296))) (IntKind.u64.wrap ((IntKind.u64.wrap ((c0.2.2.2.1) + (IntKind.u64.wrap (Int.tdiv (IntKind.u64.wrap (a1 * b1)) 4294967296)))) + (Int.tmod (IntKind.u64.wrap (a1 * b2)) 4294967296))) (IntKind.u64.wrap ((c0.2.2.2.2.1) + (IntKind.u64.wrap (Int.tdiv (IntKind.u64.wrap (a1 * b2)) 4294967296)))) (c0.2.2.2.2.2)).bind fun c1 => spigotref21_carried.f (c1.1) (c1.2.1) (IntKind.u64.wrap ((c1.2.2.1) + (Int.tmod (IntKind.u64.wrap (a2 * b0)) 4294967296))) (IntKind.u64.wrap ((IntKind.u64.wrap ((c1.2.2.2.1) + (IntKind.u64.wrap (Int.tdiv (IntKind.u64.wrap (a2 * b0)) 4294967296)))) + (Int.tmod (IntKind.u64.wrap (a2 * b1)) 4294967296))) (IntKind.u64.wrap ((IntKind.u64.wrap ((c1.2.2.2.2.1) + (IntKind.u64.wrap (Int.tdiv (IntKind.u64.wrap (a2 * b1)) 4294967296)))) + (Int.tmod (IntKind.u64.wrap (a2 * b2)) 4294967296))) (IntKind.u64.wrap ((c1.2.2.2.2.2) + (IntKind.u64.wrap (Int.tdiv (IntKind.u64.wrap (a2 * b2)) 4294967296))))
set_option maxHeartbeats 8000000 in
set_option maxRecDepth 100000 in
theorem spigotref21_Times.calls (a0 : Int) (a1 : Int) (a2 : Int) (a3 : Int) (a4 : Int) (a5 : Int) (b0 : Int) (b1 : Int) (b2 : Int) (b3 : Int) (b4 : Int) (b5 : Int) (r1 : Int) (r2 : Int) (r3 : Int) (r4 : Int) (r5 : Int) (r6 : Int) (w : World) (h : spigotref21_Times.f a0 a1 a2 a3 a4 a5 b0 b1 b2 b3 b4 b5 = some (r1, r2, r3, r4, r5, r6)) :
  Calls Try.prog 47 #[.agg #[.int .u64 a0, .int .u64 a1, .int .u64 a2, .int .u64 a3, .int .u64 a4, .int .u64 a5], .agg #[.int .u64 b0, .int .u64 b1, .int .u64 b2, .int .u64 b3, .int .u64 b4, .int .u64 b5]] w fun e w' => e = .returned (.agg #[.int .u64 r1, .int .u64 r2, .int .u64 r3, .int .u64 r4, .int .u64 r5, .int .u64 r6]) ∧ Below w.heap.size w w' := by
 unfold spigotref21_Times.f at h
 have hu74 := Try.underlying74
 have HB := Aside0.mk (Below.refl w.heap.size w)
 have ew0 : wrap64 (0 : Int) = 0 := by unfold wrap64; omega
 have ew1 : wrap64 (1 : Int) = 1 := by unfold wrap64; omega
 have ew2 : wrap64 (2 : Int) = 2 := by unfold wrap64; omega
 have ew3 : wrap64 (3 : Int) = 3 := by unfold wrap64; omega
 have ew4 : wrap64 (4 : Int) = 4 := by unfold wrap64; omega
 have ew5 : wrap64 (5 : Int) = 5 := by unfold wrap64; omega
 have ew6 : wrap64 (6 : Int) = 6 := by unfold wrap64; omega
 have ew7 : wrap64 (7 : Int) = 7 := by unfold wrap64; omega
 have ewm : wrap64 (-1 : Int) = -1 := by unfold wrap64; omega
 go_enter Try.func47, Try.ntmps47
 go_wp2_with (first | ((with_reducible refine gate_dst (N := 2) rfl ?_); refine bx_ #[.int .u64 a0, .int .u64 a1, .int .u64 a2, .int .u64 a3, .int .u64 a4, .int .u64 a5] 74 ?_; intro gb2 hg w2 BK2 hb; have GW2 := bz_ w hg; replace HB := bs_ w hb; clear hb hg) | ((with_reducible refine gate_dst (N := 3) rfl ?_); refine bx_ #[.int .u64 b0, .int .u64 b1, .int .u64 b2, .int .u64 b3, .int .u64 b4, .int .u64 b5] 74 ?_; intro gb3 hg w3 BK3 hb; have GW3 := bz_ w hg; have NB2_3 := bn_ BK2 hg; have NB3_2 := bm_ BK2 hg; replace BK2 := bb_ BK2 hb; replace HB := bs_ w hb; clear hb hg) | ((with_reducible refine gate_dst (N := 4) rfl ?_); refine bx_ #[.int .u64 0, .int .u64 0, .int .u64 0, .int .u64 0, .int .u64 0, .int .u64 0] 74 ?_; intro gb4 hg w4 BK4 hb; have GW4 := bz_ w hg; have NB2_4 := bn_ BK2 hg; have NB4_2 := bm_ BK2 hg; have NB3_4 := bn_ BK3 hg; have NB4_3 := bm_ BK3 hg; replace BK2 := bb_ BK2 hb; replace BK3 := bb_ BK3 hb; replace HB := bs_ w hb; clear hb hg) | ((with_reducible refine gate_dst (N := 5) rfl ?_); refine bx_ #[.int .u64 0, .int .u64 0, .int .u64 0, .int .u64 0, .int .u64 0, .int .u64 0] 74 ?_; intro gb5 hg w5 BK5 hb; have GW5 := bz_ w hg; have NB2_5 := bn_ BK2 hg; have NB5_2 := bm_ BK2 hg; have NB3_5 := bn_ BK3 hg; have NB5_3 := bm_ BK3 hg; have NB4_5 := bn_ BK4 hg; have NB5_4 := bm_ BK4 hg; replace BK2 := bb_ BK2 hb; replace BK3 := bb_ BK3 hb; replace BK4 := bb_ BK4 hb; replace HB := bs_ w hb; clear hb hg))
 have hn2_3 := NB2_3.out
 have hn2_4 := NB2_4.out
 have hn2_5 := NB2_5.out
 have hn3_2 := NB3_2.out
 have hn3_4 := NB3_4.out
 have hn3_5 := NB3_5.out
 have hn4_2 := NB4_2.out
 have hn4_3 := NB4_3.out
 have hn4_5 := NB4_5.out
 have hn5_2 := NB5_2.out
 have hn5_3 := NB5_3.out
 have hn5_4 := NB5_4.out
 refine wp_loop_rounds 4 ?_
 rw [rounds_succ]
 go_wp2
 refine wp_loop_rounds 4 ?_
 rw [rounds_succ]
 go_wp2
 refine start_ (n := 8) (S := fun w' => w'.cell? ⟨gb2, 0, none⟩ = some (.int .u64 a0) ∧ w'.cell? ⟨gb3, 0, none⟩ = some (.int .u64 b0)) (ds := []) (bl_ 8 0) (by kernel_rfl) rfl (by kernel_rfl) ⟨(blk_cell BK2.out 0).trans rfl, (blk_cell BK3.out 0).trans rfl⟩ (fun hHeld => ?_); refine with_tabW spigotref21_Times.tab8 spigotref21_Times.bits8 (fun HT_ HW_ => ?_)
 replace BK2 := Aside0.mk (blk_drew BK2.out)
 replace BK3 := Aside0.mk (blk_drew BK3.out)
 replace BK4 := Aside0.mk (blk_drew BK4.out)
 replace BK5 := Aside0.mk (blk_drew BK5.out)
 replace HB := Aside0.mk (below_drew1 HB.out)
 generalize w5.drew = w6 at BK2 BK3 BK4 BK5 HB hHeld ⊢
 refine pa_ 0 (some 17) (bl_ 8 1) HT_ ?_
 refine pa_ 1 (some 18) (bl_ 8 3) HT_ ?_
 refine pa_ 3 (some 20) (bl_ 8 11) HT_ ?_
 refine pa_ 4 (some 21) (bl_ 8 27) HT_ ?_
 refine ta_ 2 (some 19) (bl_ 8 31) HT_ HW_ hHeld ?_
 refine ta_ 5 (some 22) (bl_ 8 63) HT_ HW_ hHeld ?_
 refine pa_ 6 (some 23) (bl_ 8 127) HT_ ?_
 refine pa_ 7 (some 8) (bl_ 8 255) HT_ ?_
 have hc2 := ce6_ BK2
 have hc3 := ce6_ BK3
 have hc4 := ce6_ BK4
 have hc5 := ce6_ BK5
 refine done_ (done_of HT_.out (by kernel_rfl)) ?_
 go_wp2
 clear hc2 hc3 hc4 hc5
 have BK2n : Aside0 (((w6.setCell ⟨gb5, 0, none⟩ (.int .u64 (IntKind.u64.wrap (Int.tmod (IntKind.u64.wrap (a0 * b0)) 4294967296)))).setCell ⟨gb5, 1, none⟩ (.int .u64 (IntKind.u64.wrap (IntKind.u64.wrap (Int.tdiv (IntKind.u64.wrap (a0 * b0)) 4294967296))))).heap[gb2]? = some (.cells #[.int .u64 a0, .int .u64 a1, .int .u64 a2, .int .u64 a3, .int .u64 a4, .int .u64 a5] 74 (0, 0))) := ⟨(blk_far (blk_far BK2.out NB2_5.out _) NB2_5.out _)⟩
 have BK3n : Aside0 (((w6.setCell ⟨gb5, 0, none⟩ (.int .u64 (IntKind.u64.wrap (Int.tmod (IntKind.u64.wrap (a0 * b0)) 4294967296)))).setCell ⟨gb5, 1, none⟩ (.int .u64 (IntKind.u64.wrap (IntKind.u64.wrap (Int.tdiv (IntKind.u64.wrap (a0 * b0)) 4294967296))))).heap[gb3]? = some (.cells #[.int .u64 b0, .int .u64 b1, .int .u64 b2, .int .u64 b3, .int .u64 b4, .int .u64 b5] 74 (0, 0))) := ⟨(blk_far (blk_far BK3.out NB3_5.out _) NB3_5.out _)⟩
 have BK4n : Aside0 (((w6.setCell ⟨gb5, 0, none⟩ (.int .u64 (IntKind.u64.wrap (Int.tmod (IntKind.u64.wrap (a0 * b0)) 4294967296)))).setCell ⟨gb5, 1, none⟩ (.int .u64 (IntKind.u64.wrap (IntKind.u64.wrap (Int.tdiv (IntKind.u64.wrap (a0 * b0)) 4294967296))))).heap[gb4]? = some (.cells #[.int .u64 0, .int .u64 0, .int .u64 0, .int .u64 0, .int .u64 0, .int .u64 0] 74 (0, 0))) := ⟨(blk_far (blk_far BK4.out NB4_5.out _) NB4_5.out _)⟩
 have BK5n : Aside0 (((w6.setCell ⟨gb5, 0, none⟩ (.int .u64 (IntKind.u64.wrap (Int.tmod (IntKind.u64.wrap (a0 * b0)) 4294967296)))).setCell ⟨gb5, 1, none⟩ (.int .u64 (IntKind.u64.wrap (IntKind.u64.wrap (Int.tdiv (IntKind.u64.wrap (a0 * b0)) 4294967296))))).heap[gb5]? = some (.cells #[.int .u64 (IntKind.u64.wrap (Int.tmod (IntKind.u64.wrap (a0 * b0)) 4294967296)), .int .u64 (IntKind.u64.wrap (IntKind.u64.wrap (Int.tdiv (IntKind.u64.wrap (a0 * b0)) 4294967296))), .int .u64 0, .int .u64 0, .int .u64 0, .int .u64 0] 74 (0, 0))) := ⟨(blk_put (cs := #[.int .u64 (IntKind.u64.wrap (Int.tmod (IntKind.u64.wrap (a0 * b0)) 4294967296)), .int .u64 0, .int .u64 0, .int .u64 0, .int .u64 0, .int .u64 0]) (blk_put (cs := #[.int .u64 0, .int .u64 0, .int .u64 0, .int .u64 0, .int .u64 0, .int .u64 0]) BK5.out 0 _ rfl) 1 _ rfl)⟩
 have HBn : Aside0 (Below w.heap.size w ((w6.setCell ⟨gb5, 0, none⟩ (.int .u64 (IntKind.u64.wrap (Int.tmod (IntKind.u64.wrap (a0 * b0)) 4294967296)))).setCell ⟨gb5, 1, none⟩ (.int .u64 (IntKind.u64.wrap (IntKind.u64.wrap (Int.tdiv (IntKind.u64.wrap (a0 * b0)) 4294967296)))))) := bw_
 clear BK2 BK3 BK4 BK5 HB
 generalize ((w6.setCell ⟨gb5, 0, none⟩ (.int .u64 (IntKind.u64.wrap (Int.tmod (IntKind.u64.wrap (a0 * b0)) 4294967296)))).setCell ⟨gb5, 1, none⟩ (.int .u64 (IntKind.u64.wrap (IntKind.u64.wrap (Int.tdiv (IntKind.u64.wrap (a0 * b0)) 4294967296))))) = w7 at BK2n BK3n BK4n BK5n HBn ⊢
 have BK2 := BK2n
 clear BK2n
 have BK3 := BK3n
 clear BK3n
 have BK4 := BK4n
 clear BK4n
 have BK5 := BK5n
 clear BK5n
 have HB := HBn
 clear HBn
 rw [rounds_succ]
 go_wp2
 refine start_ (n := 8) (S := fun w' => w'.cell? ⟨gb2, 0, none⟩ = some (.int .u64 a0) ∧ w'.cell? ⟨gb3, 1, none⟩ = some (.int .u64 b1)) (ds := []) (bl_ 8 0) (by kernel_rfl) rfl (by kernel_rfl) ⟨(blk_cell BK2.out 0).trans rfl, (blk_cell BK3.out 1).trans rfl⟩ (fun hHeld => ?_); refine with_tabW spigotref21_Times.tab8 spigotref21_Times.bits8 (fun HT_ HW_ => ?_)
 replace BK2 := Aside0.mk (blk_drew BK2.out)
 replace BK3 := Aside0.mk (blk_drew BK3.out)
 replace BK4 := Aside0.mk (blk_drew BK4.out)
 replace BK5 := Aside0.mk (blk_drew BK5.out)
 replace HB := Aside0.mk (below_drew1 HB.out)
 generalize w7.drew = w8 at BK2 BK3 BK4 BK5 HB hHeld ⊢
 refine pa_ 0 (some 17) (bl_ 8 1) HT_ ?_
 refine pa_ 1 (some 18) (bl_ 8 3) HT_ ?_
 refine pa_ 3 (some 20) (bl_ 8 11) HT_ ?_
 refine pa_ 4 (some 21) (bl_ 8 27) HT_ ?_
 refine ta_ 2 (some 19) (bl_ 8 31) HT_ HW_ hHeld ?_
 refine ta_ 5 (some 22) (bl_ 8 63) HT_ HW_ hHeld ?_
 refine pa_ 6 (some 23) (bl_ 8 127) HT_ ?_
 refine pa_ 7 (some 8) (bl_ 8 255) HT_ ?_
 have hc2 := ce6_ BK2
 have hc3 := ce6_ BK3
 have hc4 := ce6_ BK4
 have hc5 := ce6_ BK5
 refine done_ (done_of HT_.out (by kernel_rfl)) ?_
 go_wp2
 clear hc2 hc3 hc4 hc5
 have BK2n : Aside0 (((w8.setCell ⟨gb5, 1, none⟩ (.int .u64 (IntKind.u64.wrap ((IntKind.u64.wrap (IntKind.u64.wrap (Int.tdiv (IntKind.u64.wrap (a0 * b0)) 4294967296))) + (Int.tmod (IntKind.u64.wrap (a0 * b1)) 4294967296))))).setCell ⟨gb5, 2, none⟩ (.int .u64 (IntKind.u64.wrap (IntKind.u64.wrap (Int.tdiv (IntKind.u64.wrap (a0 * b1)) 4294967296))))).heap[gb2]? = some (.cells #[.int .u64 a0, .int .u64 a1, .int .u64 a2, .int .u64 a3, .int .u64 a4, .int .u64 a5] 74 (0, 0))) := ⟨(blk_far (blk_far BK2.out NB2_5.out _) NB2_5.out _)⟩
 have BK3n : Aside0 (((w8.setCell ⟨gb5, 1, none⟩ (.int .u64 (IntKind.u64.wrap ((IntKind.u64.wrap (IntKind.u64.wrap (Int.tdiv (IntKind.u64.wrap (a0 * b0)) 4294967296))) + (Int.tmod (IntKind.u64.wrap (a0 * b1)) 4294967296))))).setCell ⟨gb5, 2, none⟩ (.int .u64 (IntKind.u64.wrap (IntKind.u64.wrap (Int.tdiv (IntKind.u64.wrap (a0 * b1)) 4294967296))))).heap[gb3]? = some (.cells #[.int .u64 b0, .int .u64 b1, .int .u64 b2, .int .u64 b3, .int .u64 b4, .int .u64 b5] 74 (0, 0))) := ⟨(blk_far (blk_far BK3.out NB3_5.out _) NB3_5.out _)⟩
 have BK4n : Aside0 (((w8.setCell ⟨gb5, 1, none⟩ (.int .u64 (IntKind.u64.wrap ((IntKind.u64.wrap (IntKind.u64.wrap (Int.tdiv (IntKind.u64.wrap (a0 * b0)) 4294967296))) + (Int.tmod (IntKind.u64.wrap (a0 * b1)) 4294967296))))).setCell ⟨gb5, 2, none⟩ (.int .u64 (IntKind.u64.wrap (IntKind.u64.wrap (Int.tdiv (IntKind.u64.wrap (a0 * b1)) 4294967296))))).heap[gb4]? = some (.cells #[.int .u64 0, .int .u64 0, .int .u64 0, .int .u64 0, .int .u64 0, .int .u64 0] 74 (0, 0))) := ⟨(blk_far (blk_far BK4.out NB4_5.out _) NB4_5.out _)⟩
 have BK5n : Aside0 (((w8.setCell ⟨gb5, 1, none⟩ (.int .u64 (IntKind.u64.wrap ((IntKind.u64.wrap (IntKind.u64.wrap (Int.tdiv (IntKind.u64.wrap (a0 * b0)) 4294967296))) + (Int.tmod (IntKind.u64.wrap (a0 * b1)) 4294967296))))).setCell ⟨gb5, 2, none⟩ (.int .u64 (IntKind.u64.wrap (IntKind.u64.wrap (Int.tdiv (IntKind.u64.wrap (a0 * b1)) 4294967296))))).heap[gb5]? = some (.cells #[.int .u64 (IntKind.u64.wrap (Int.tmod (IntKind.u64.wrap (a0 * b0)) 4294967296)), .int .u64 (IntKind.u64.wrap ((IntKind.u64.wrap (IntKind.u64.wrap (Int.tdiv (IntKind.u64.wrap (a0 * b0)) 4294967296))) + (Int.tmod (IntKind.u64.wrap (a0 * b1)) 4294967296))), .int .u64 (IntKind.u64.wrap (IntKind.u64.wrap (Int.tdiv (IntKind.u64.wrap (a0 * b1)) 4294967296))), .int .u64 0, .int .u64 0, .int .u64 0] 74 (0, 0))) := ⟨(blk_put (cs := #[.int .u64 (IntKind.u64.wrap (Int.tmod (IntKind.u64.wrap (a0 * b0)) 4294967296)), .int .u64 (IntKind.u64.wrap ((IntKind.u64.wrap (IntKind.u64.wrap (Int.tdiv (IntKind.u64.wrap (a0 * b0)) 4294967296))) + (Int.tmod (IntKind.u64.wrap (a0 * b1)) 4294967296))), .int .u64 0, .int .u64 0, .int .u64 0, .int .u64 0]) (blk_put (cs := #[.int .u64 (IntKind.u64.wrap (Int.tmod (IntKind.u64.wrap (a0 * b0)) 4294967296)), .int .u64 (IntKind.u64.wrap (IntKind.u64.wrap (Int.tdiv (IntKind.u64.wrap (a0 * b0)) 4294967296))), .int .u64 0, .int .u64 0, .int .u64 0, .int .u64 0]) BK5.out 1 _ rfl) 2 _ rfl)⟩
 have HBn : Aside0 (Below w.heap.size w ((w8.setCell ⟨gb5, 1, none⟩ (.int .u64 (IntKind.u64.wrap ((IntKind.u64.wrap (IntKind.u64.wrap (Int.tdiv (IntKind.u64.wrap (a0 * b0)) 4294967296))) + (Int.tmod (IntKind.u64.wrap (a0 * b1)) 4294967296))))).setCell ⟨gb5, 2, none⟩ (.int .u64 (IntKind.u64.wrap (IntKind.u64.wrap (Int.tdiv (IntKind.u64.wrap (a0 * b1)) 4294967296)))))) := bw_
 clear BK2 BK3 BK4 BK5 HB
 generalize ((w8.setCell ⟨gb5, 1, none⟩ (.int .u64 (IntKind.u64.wrap ((IntKind.u64.wrap (IntKind.u64.wrap (Int.tdiv (IntKind.u64.wrap (a0 * b0)) 4294967296))) + (Int.tmod (IntKind.u64.wrap (a0 * b1)) 4294967296))))).setCell ⟨gb5, 2, none⟩ (.int .u64 (IntKind.u64.wrap (IntKind.u64.wrap (Int.tdiv (IntKind.u64.wrap (a0 * b1)) 4294967296))))) = w9 at BK2n BK3n BK4n BK5n HBn ⊢
 have BK2 := BK2n
 clear BK2n
 have BK3 := BK3n
 clear BK3n
 have BK4 := BK4n
 clear BK4n
 have BK5 := BK5n
 clear BK5n
 have HB := HBn
 clear HBn
 rw [rounds_succ]
 go_wp2
 refine start_ (n := 8) (S := fun w' => w'.cell? ⟨gb2, 0, none⟩ = some (.int .u64 a0) ∧ w'.cell? ⟨gb3, 2, none⟩ = some (.int .u64 b2)) (ds := []) (bl_ 8 0) (by kernel_rfl) rfl (by kernel_rfl) ⟨(blk_cell BK2.out 0).trans rfl, (blk_cell BK3.out 2).trans rfl⟩ (fun hHeld => ?_); refine with_tabW spigotref21_Times.tab8 spigotref21_Times.bits8 (fun HT_ HW_ => ?_)
 replace BK2 := Aside0.mk (blk_drew BK2.out)
 replace BK3 := Aside0.mk (blk_drew BK3.out)
 replace BK4 := Aside0.mk (blk_drew BK4.out)
 replace BK5 := Aside0.mk (blk_drew BK5.out)
 replace HB := Aside0.mk (below_drew1 HB.out)
 generalize w9.drew = w10 at BK2 BK3 BK4 BK5 HB hHeld ⊢
 refine pa_ 0 (some 17) (bl_ 8 1) HT_ ?_
 refine pa_ 1 (some 18) (bl_ 8 3) HT_ ?_
 refine pa_ 3 (some 20) (bl_ 8 11) HT_ ?_
 refine pa_ 4 (some 21) (bl_ 8 27) HT_ ?_
 refine ta_ 2 (some 19) (bl_ 8 31) HT_ HW_ hHeld ?_
 refine ta_ 5 (some 22) (bl_ 8 63) HT_ HW_ hHeld ?_
 refine pa_ 6 (some 23) (bl_ 8 127) HT_ ?_
 refine pa_ 7 (some 8) (bl_ 8 255) HT_ ?_
 have hc2 := ce6_ BK2
 have hc3 := ce6_ BK3
 have hc4 := ce6_ BK4
 have hc5 := ce6_ BK5
 refine done_ (done_of HT_.out (by kernel_rfl)) ?_
 go_wp2
 clear hc2 hc3 hc4 hc5
 have BK2n : Aside0 (((w10.setCell ⟨gb5, 2, none⟩ (.int .u64 (IntKind.u64.wrap ((IntKind.u64.wrap (IntKind.u64.wrap (Int.tdiv (IntKind.u64.wrap (a0 * b1)) 4294967296))) + (Int.tmod (IntKind.u64.wrap (a0 * b2)) 4294967296))))).setCell ⟨gb5, 3, none⟩ (.int .u64 (IntKind.u64.wrap (IntKind.u64.wrap (Int.tdiv (IntKind.u64.wrap (a0 * b2)) 4294967296))))).heap[gb2]? = some (.cells #[.int .u64 a0, .int .u64 a1, .int .u64 a2, .int .u64 a3, .int .u64 a4, .int .u64 a5] 74 (0, 0))) := ⟨(blk_far (blk_far BK2.out NB2_5.out _) NB2_5.out _)⟩
 have BK3n : Aside0 (((w10.setCell ⟨gb5, 2, none⟩ (.int .u64 (IntKind.u64.wrap ((IntKind.u64.wrap (IntKind.u64.wrap (Int.tdiv (IntKind.u64.wrap (a0 * b1)) 4294967296))) + (Int.tmod (IntKind.u64.wrap (a0 * b2)) 4294967296))))).setCell ⟨gb5, 3, none⟩ (.int .u64 (IntKind.u64.wrap (IntKind.u64.wrap (Int.tdiv (IntKind.u64.wrap (a0 * b2)) 4294967296))))).heap[gb3]? = some (.cells #[.int .u64 b0, .int .u64 b1, .int .u64 b2, .int .u64 b3, .int .u64 b4, .int .u64 b5] 74 (0, 0))) := ⟨(blk_far (blk_far BK3.out NB3_5.out _) NB3_5.out _)⟩
 have BK4n : Aside0 (((w10.setCell ⟨gb5, 2, none⟩ (.int .u64 (IntKind.u64.wrap ((IntKind.u64.wrap (IntKind.u64.wrap (Int.tdiv (IntKind.u64.wrap (a0 * b1)) 4294967296))) + (Int.tmod (IntKind.u64.wrap (a0 * b2)) 4294967296))))).setCell ⟨gb5, 3, none⟩ (.int .u64 (IntKind.u64.wrap (IntKind.u64.wrap (Int.tdiv (IntKind.u64.wrap (a0 * b2)) 4294967296))))).heap[gb4]? = some (.cells #[.int .u64 0, .int .u64 0, .int .u64 0, .int .u64 0, .int .u64 0, .int .u64 0] 74 (0, 0))) := ⟨(blk_far (blk_far BK4.out NB4_5.out _) NB4_5.out _)⟩
 have BK5n : Aside0 (((w10.setCell ⟨gb5, 2, none⟩ (.int .u64 (IntKind.u64.wrap ((IntKind.u64.wrap (IntKind.u64.wrap (Int.tdiv (IntKind.u64.wrap (a0 * b1)) 4294967296))) + (Int.tmod (IntKind.u64.wrap (a0 * b2)) 4294967296))))).setCell ⟨gb5, 3, none⟩ (.int .u64 (IntKind.u64.wrap (IntKind.u64.wrap (Int.tdiv (IntKind.u64.wrap (a0 * b2)) 4294967296))))).heap[gb5]? = some (.cells #[.int .u64 (IntKind.u64.wrap (Int.tmod (IntKind.u64.wrap (a0 * b0)) 4294967296)), .int .u64 (IntKind.u64.wrap ((IntKind.u64.wrap (IntKind.u64.wrap (Int.tdiv (IntKind.u64.wrap (a0 * b0)) 4294967296))) + (Int.tmod (IntKind.u64.wrap (a0 * b1)) 4294967296))), .int .u64 (IntKind.u64.wrap ((IntKind.u64.wrap (IntKind.u64.wrap (Int.tdiv (IntKind.u64.wrap (a0 * b1)) 4294967296))) + (Int.tmod (IntKind.u64.wrap (a0 * b2)) 4294967296))), .int .u64 (IntKind.u64.wrap (IntKind.u64.wrap (Int.tdiv (IntKind.u64.wrap (a0 * b2)) 4294967296))), .int .u64 0, .int .u64 0] 74 (0, 0))) := ⟨(blk_put (cs := #[.int .u64 (IntKind.u64.wrap (Int.tmod (IntKind.u64.wrap (a0 * b0)) 4294967296)), .int .u64 (IntKind.u64.wrap ((IntKind.u64.wrap (IntKind.u64.wrap (Int.tdiv (IntKind.u64.wrap (a0 * b0)) 4294967296))) + (Int.tmod (IntKind.u64.wrap (a0 * b1)) 4294967296))), .int .u64 (IntKind.u64.wrap ((IntKind.u64.wrap (IntKind.u64.wrap (Int.tdiv (IntKind.u64.wrap (a0 * b1)) 4294967296))) + (Int.tmod (IntKind.u64.wrap (a0 * b2)) 4294967296))), .int .u64 0, .int .u64 0, .int .u64 0]) (blk_put (cs := #[.int .u64 (IntKind.u64.wrap (Int.tmod (IntKind.u64.wrap (a0 * b0)) 4294967296)), .int .u64 (IntKind.u64.wrap ((IntKind.u64.wrap (IntKind.u64.wrap (Int.tdiv (IntKind.u64.wrap (a0 * b0)) 4294967296))) + (Int.tmod (IntKind.u64.wrap (a0 * b1)) 4294967296))), .int .u64 (IntKind.u64.wrap (IntKind.u64.wrap (Int.tdiv (IntKind.u64.wrap (a0 * b1)) 4294967296))), .int .u64 0, .int .u64 0, .int .u64 0]) BK5.out 2 _ rfl) 3 _ rfl)⟩
 have HBn : Aside0 (Below w.heap.size w ((w10.setCell ⟨gb5, 2, none⟩ (.int .u64 (IntKind.u64.wrap ((IntKind.u64.wrap (IntKind.u64.wrap (Int.tdiv (IntKind.u64.wrap (a0 * b1)) 4294967296))) + (Int.tmod (IntKind.u64.wrap (a0 * b2)) 4294967296))))).setCell ⟨gb5, 3, none⟩ (.int .u64 (IntKind.u64.wrap (IntKind.u64.wrap (Int.tdiv (IntKind.u64.wrap (a0 * b2)) 4294967296)))))) := bw_
 clear BK2 BK3 BK4 BK5 HB
 generalize ((w10.setCell ⟨gb5, 2, none⟩ (.int .u64 (IntKind.u64.wrap ((IntKind.u64.wrap (IntKind.u64.wrap (Int.tdiv (IntKind.u64.wrap (a0 * b1)) 4294967296))) + (Int.tmod (IntKind.u64.wrap (a0 * b2)) 4294967296))))).setCell ⟨gb5, 3, none⟩ (.int .u64 (IntKind.u64.wrap (IntKind.u64.wrap (Int.tdiv (IntKind.u64.wrap (a0 * b2)) 4294967296))))) = w11 at BK2n BK3n BK4n BK5n HBn ⊢
 have BK2 := BK2n
 clear BK2n
 have BK3 := BK3n
 clear BK3n
 have BK4 := BK4n
 clear BK4n
 have BK5 := BK5n
 clear BK5n
 have HB := HBn
 clear HBn
 obtain ⟨⟨p0_0, p0_1, p0_2, p0_3, p0_4, p0_5⟩, hp0, h⟩ := Option.bind_eq_some_iff.mp h
 dsimp only at h
 rw [rounds_succ]
 have hc2 := ce6_ BK2
 have hc3 := ce6_ BK3
 have hc4 := ce6_ BK4
 have hc5 := ce6_ BK5
 go_wp2_with (go_at_call 56; refine (spigotref21_carried.calls _ _ _ _ _ _ p0_0 p0_1 p0_2 p0_3 p0_4 p0_5 _ hp0).mono ?_; rintro e w12 ⟨rfl, hb⟩; replace BK2 := bb_ BK2 hb; replace BK3 := bb_ BK3 hb; replace BK4 := bb_ BK4 hb; replace BK5 := bb_ BK5 hb; replace HB := bs_ w hb; clear hb hc2 hc3 hc4 hc5; have hc5 := ce6_ BK5)
 clear hc5
 have BK2n : Aside0 (((((((w12.setCell ⟨gb5, 0, none⟩ (.int .u64 p0_0)).setCell ⟨gb5, 1, none⟩ (.int .u64 p0_1)).setCell ⟨gb5, 2, none⟩ (.int .u64 p0_2)).setCell ⟨gb5, 3, none⟩ (.int .u64 p0_3)).setCell ⟨gb5, 4, none⟩ (.int .u64 p0_4)).setCell ⟨gb5, 5, none⟩ (.int .u64 p0_5)).heap[gb2]? = some (.cells #[.int .u64 a0, .int .u64 a1, .int .u64 a2, .int .u64 a3, .int .u64 a4, .int .u64 a5] 74 (0, 0))) := ⟨(blk_far (blk_far (blk_far (blk_far (blk_far (blk_far BK2.out NB2_5.out _) NB2_5.out _) NB2_5.out _) NB2_5.out _) NB2_5.out _) NB2_5.out _)⟩
 have BK3n : Aside0 (((((((w12.setCell ⟨gb5, 0, none⟩ (.int .u64 p0_0)).setCell ⟨gb5, 1, none⟩ (.int .u64 p0_1)).setCell ⟨gb5, 2, none⟩ (.int .u64 p0_2)).setCell ⟨gb5, 3, none⟩ (.int .u64 p0_3)).setCell ⟨gb5, 4, none⟩ (.int .u64 p0_4)).setCell ⟨gb5, 5, none⟩ (.int .u64 p0_5)).heap[gb3]? = some (.cells #[.int .u64 b0, .int .u64 b1, .int .u64 b2, .int .u64 b3, .int .u64 b4, .int .u64 b5] 74 (0, 0))) := ⟨(blk_far (blk_far (blk_far (blk_far (blk_far (blk_far BK3.out NB3_5.out _) NB3_5.out _) NB3_5.out _) NB3_5.out _) NB3_5.out _) NB3_5.out _)⟩
 have BK4n : Aside0 (((((((w12.setCell ⟨gb5, 0, none⟩ (.int .u64 p0_0)).setCell ⟨gb5, 1, none⟩ (.int .u64 p0_1)).setCell ⟨gb5, 2, none⟩ (.int .u64 p0_2)).setCell ⟨gb5, 3, none⟩ (.int .u64 p0_3)).setCell ⟨gb5, 4, none⟩ (.int .u64 p0_4)).setCell ⟨gb5, 5, none⟩ (.int .u64 p0_5)).heap[gb4]? = some (.cells #[.int .u64 0, .int .u64 0, .int .u64 0, .int .u64 0, .int .u64 0, .int .u64 0] 74 (0, 0))) := ⟨(blk_far (blk_far (blk_far (blk_far (blk_far (blk_far BK4.out NB4_5.out _) NB4_5.out _) NB4_5.out _) NB4_5.out _) NB4_5.out _) NB4_5.out _)⟩
 have BK5n : Aside0 (((((((w12.setCell ⟨gb5, 0, none⟩ (.int .u64 p0_0)).setCell ⟨gb5, 1, none⟩ (.int .u64 p0_1)).setCell ⟨gb5, 2, none⟩ (.int .u64 p0_2)).setCell ⟨gb5, 3, none⟩ (.int .u64 p0_3)).setCell ⟨gb5, 4, none⟩ (.int .u64 p0_4)).setCell ⟨gb5, 5, none⟩ (.int .u64 p0_5)).heap[gb5]? = some (.cells #[.int .u64 p0_0, .int .u64 p0_1, .int .u64 p0_2, .int .u64 p0_3, .int .u64 p0_4, .int .u64 p0_5] 74 (0, 0))) := ⟨(blk_put (cs := #[.int .u64 p0_0, .int .u64 p0_1, .int .u64 p0_2, .int .u64 p0_3, .int .u64 p0_4, .int .u64 0]) (blk_put (cs := #[.int .u64 p0_0, .int .u64 p0_1, .int .u64 p0_2, .int .u64 p0_3, .int .u64 0, .int .u64 0]) (blk_put (cs := #[.int .u64 p0_0, .int .u64 p0_1, .int .u64 p0_2, .int .u64 (IntKind.u64.wrap (IntKind.u64.wrap (Int.tdiv (IntKind.u64.wrap (a0 * b2)) 4294967296))), .int .u64 0, .int .u64 0]) (blk_put (cs := #[.int .u64 p0_0, .int .u64 p0_1, .int .u64 (IntKind.u64.wrap ((IntKind.u64.wrap (IntKind.u64.wrap (Int.tdiv (IntKind.u64.wrap (a0 * b1)) 4294967296))) + (Int.tmod (IntKind.u64.wrap (a0 * b2)) 4294967296))), .int .u64 (IntKind.u64.wrap (IntKind.u64.wrap (Int.tdiv (IntKind.u64.wrap (a0 * b2)) 4294967296))), .int .u64 0, .int .u64 0]) (blk_put (cs := #[.int .u64 p0_0, .int .u64 (IntKind.u64.wrap ((IntKind.u64.wrap (IntKind.u64.wrap (Int.tdiv (IntKind.u64.wrap (a0 * b0)) 4294967296))) + (Int.tmod (IntKind.u64.wrap (a0 * b1)) 4294967296))), .int .u64 (IntKind.u64.wrap ((IntKind.u64.wrap (IntKind.u64.wrap (Int.tdiv (IntKind.u64.wrap (a0 * b1)) 4294967296))) + (Int.tmod (IntKind.u64.wrap (a0 * b2)) 4294967296))), .int .u64 (IntKind.u64.wrap (IntKind.u64.wrap (Int.tdiv (IntKind.u64.wrap (a0 * b2)) 4294967296))), .int .u64 0, .int .u64 0]) (blk_put (cs := #[.int .u64 (IntKind.u64.wrap (Int.tmod (IntKind.u64.wrap (a0 * b0)) 4294967296)), .int .u64 (IntKind.u64.wrap ((IntKind.u64.wrap (IntKind.u64.wrap (Int.tdiv (IntKind.u64.wrap (a0 * b0)) 4294967296))) + (Int.tmod (IntKind.u64.wrap (a0 * b1)) 4294967296))), .int .u64 (IntKind.u64.wrap ((IntKind.u64.wrap (IntKind.u64.wrap (Int.tdiv (IntKind.u64.wrap (a0 * b1)) 4294967296))) + (Int.tmod (IntKind.u64.wrap (a0 * b2)) 4294967296))), .int .u64 (IntKind.u64.wrap (IntKind.u64.wrap (Int.tdiv (IntKind.u64.wrap (a0 * b2)) 4294967296))), .int .u64 0, .int .u64 0]) BK5.out 0 _ rfl) 1 _ rfl) 2 _ rfl) 3 _ rfl) 4 _ rfl) 5 _ rfl)⟩
 have HBn : Aside0 (Below w.heap.size w ((((((w12.setCell ⟨gb5, 0, none⟩ (.int .u64 p0_0)).setCell ⟨gb5, 1, none⟩ (.int .u64 p0_1)).setCell ⟨gb5, 2, none⟩ (.int .u64 p0_2)).setCell ⟨gb5, 3, none⟩ (.int .u64 p0_3)).setCell ⟨gb5, 4, none⟩ (.int .u64 p0_4)).setCell ⟨gb5, 5, none⟩ (.int .u64 p0_5))) := bw_
 clear BK2 BK3 BK4 BK5 HB
 generalize ((((((w12.setCell ⟨gb5, 0, none⟩ (.int .u64 p0_0)).setCell ⟨gb5, 1, none⟩ (.int .u64 p0_1)).setCell ⟨gb5, 2, none⟩ (.int .u64 p0_2)).setCell ⟨gb5, 3, none⟩ (.int .u64 p0_3)).setCell ⟨gb5, 4, none⟩ (.int .u64 p0_4)).setCell ⟨gb5, 5, none⟩ (.int .u64 p0_5)) = w13 at BK2n BK3n BK4n BK5n HBn ⊢
 have BK2 := BK2n
 clear BK2n
 have BK3 := BK3n
 clear BK3n
 have BK4 := BK4n
 clear BK4n
 have BK5 := BK5n
 clear BK5n
 have HB := HBn
 clear HBn
 rw [rounds_succ]
 go_wp2
 refine wp_loop_rounds 4 ?_
 rw [rounds_succ]
 go_wp2
 refine start_ (n := 8) (S := fun w' => w'.cell? ⟨gb2, 1, none⟩ = some (.int .u64 a1) ∧ w'.cell? ⟨gb3, 0, none⟩ = some (.int .u64 b0)) (ds := []) (bl_ 8 0) (by kernel_rfl) rfl (by kernel_rfl) ⟨(blk_cell BK2.out 1).trans rfl, (blk_cell BK3.out 0).trans rfl⟩ (fun hHeld => ?_); refine with_tabW spigotref21_Times.tab8 spigotref21_Times.bits8 (fun HT_ HW_ => ?_)
 replace BK2 := Aside0.mk (blk_drew BK2.out)
 replace BK3 := Aside0.mk (blk_drew BK3.out)
 replace BK4 := Aside0.mk (blk_drew BK4.out)
 replace BK5 := Aside0.mk (blk_drew BK5.out)
 replace HB := Aside0.mk (below_drew1 HB.out)
 generalize w13.drew = w14 at BK2 BK3 BK4 BK5 HB hHeld ⊢
 refine pa_ 0 (some 17) (bl_ 8 1) HT_ ?_
 refine pa_ 1 (some 18) (bl_ 8 3) HT_ ?_
 refine pa_ 3 (some 20) (bl_ 8 11) HT_ ?_
 refine pa_ 4 (some 21) (bl_ 8 27) HT_ ?_
 refine ta_ 2 (some 19) (bl_ 8 31) HT_ HW_ hHeld ?_
 refine ta_ 5 (some 22) (bl_ 8 63) HT_ HW_ hHeld ?_
 refine pa_ 6 (some 23) (bl_ 8 127) HT_ ?_
 refine pa_ 7 (some 8) (bl_ 8 255) HT_ ?_
 have hc2 := ce6_ BK2
 have hc3 := ce6_ BK3
 have hc4 := ce6_ BK4
 have hc5 := ce6_ BK5
 refine done_ (done_of HT_.out (by kernel_rfl)) ?_
 go_wp2
 clear hc2 hc3 hc4 hc5
 have BK2n : Aside0 (((w14.setCell ⟨gb5, 1, none⟩ (.int .u64 (IntKind.u64.wrap (p0_1 + (Int.tmod (IntKind.u64.wrap (a1 * b0)) 4294967296))))).setCell ⟨gb5, 2, none⟩ (.int .u64 (IntKind.u64.wrap (p0_2 + (IntKind.u64.wrap (Int.tdiv (IntKind.u64.wrap (a1 * b0)) 4294967296)))))).heap[gb2]? = some (.cells #[.int .u64 a0, .int .u64 a1, .int .u64 a2, .int .u64 a3, .int .u64 a4, .int .u64 a5] 74 (0, 0))) := ⟨(blk_far (blk_far BK2.out NB2_5.out _) NB2_5.out _)⟩
 have BK3n : Aside0 (((w14.setCell ⟨gb5, 1, none⟩ (.int .u64 (IntKind.u64.wrap (p0_1 + (Int.tmod (IntKind.u64.wrap (a1 * b0)) 4294967296))))).setCell ⟨gb5, 2, none⟩ (.int .u64 (IntKind.u64.wrap (p0_2 + (IntKind.u64.wrap (Int.tdiv (IntKind.u64.wrap (a1 * b0)) 4294967296)))))).heap[gb3]? = some (.cells #[.int .u64 b0, .int .u64 b1, .int .u64 b2, .int .u64 b3, .int .u64 b4, .int .u64 b5] 74 (0, 0))) := ⟨(blk_far (blk_far BK3.out NB3_5.out _) NB3_5.out _)⟩
 have BK4n : Aside0 (((w14.setCell ⟨gb5, 1, none⟩ (.int .u64 (IntKind.u64.wrap (p0_1 + (Int.tmod (IntKind.u64.wrap (a1 * b0)) 4294967296))))).setCell ⟨gb5, 2, none⟩ (.int .u64 (IntKind.u64.wrap (p0_2 + (IntKind.u64.wrap (Int.tdiv (IntKind.u64.wrap (a1 * b0)) 4294967296)))))).heap[gb4]? = some (.cells #[.int .u64 0, .int .u64 0, .int .u64 0, .int .u64 0, .int .u64 0, .int .u64 0] 74 (0, 0))) := ⟨(blk_far (blk_far BK4.out NB4_5.out _) NB4_5.out _)⟩
 have BK5n : Aside0 (((w14.setCell ⟨gb5, 1, none⟩ (.int .u64 (IntKind.u64.wrap (p0_1 + (Int.tmod (IntKind.u64.wrap (a1 * b0)) 4294967296))))).setCell ⟨gb5, 2, none⟩ (.int .u64 (IntKind.u64.wrap (p0_2 + (IntKind.u64.wrap (Int.tdiv (IntKind.u64.wrap (a1 * b0)) 4294967296)))))).heap[gb5]? = some (.cells #[.int .u64 p0_0, .int .u64 (IntKind.u64.wrap (p0_1 + (Int.tmod (IntKind.u64.wrap (a1 * b0)) 4294967296))), .int .u64 (IntKind.u64.wrap (p0_2 + (IntKind.u64.wrap (Int.tdiv (IntKind.u64.wrap (a1 * b0)) 4294967296)))), .int .u64 p0_3, .int .u64 p0_4, .int .u64 p0_5] 74 (0, 0))) := ⟨(blk_put (cs := #[.int .u64 p0_0, .int .u64 (IntKind.u64.wrap (p0_1 + (Int.tmod (IntKind.u64.wrap (a1 * b0)) 4294967296))), .int .u64 p0_2, .int .u64 p0_3, .int .u64 p0_4, .int .u64 p0_5]) (blk_put (cs := #[.int .u64 p0_0, .int .u64 p0_1, .int .u64 p0_2, .int .u64 p0_3, .int .u64 p0_4, .int .u64 p0_5]) BK5.out 1 _ rfl) 2 _ rfl)⟩
 have HBn : Aside0 (Below w.heap.size w ((w14.setCell ⟨gb5, 1, none⟩ (.int .u64 (IntKind.u64.wrap (p0_1 + (Int.tmod (IntKind.u64.wrap (a1 * b0)) 4294967296))))).setCell ⟨gb5, 2, none⟩ (.int .u64 (IntKind.u64.wrap (p0_2 + (IntKind.u64.wrap (Int.tdiv (IntKind.u64.wrap (a1 * b0)) 4294967296))))))) := bw_
 clear BK2 BK3 BK4 BK5 HB
 generalize ((w14.setCell ⟨gb5, 1, none⟩ (.int .u64 (IntKind.u64.wrap (p0_1 + (Int.tmod (IntKind.u64.wrap (a1 * b0)) 4294967296))))).setCell ⟨gb5, 2, none⟩ (.int .u64 (IntKind.u64.wrap (p0_2 + (IntKind.u64.wrap (Int.tdiv (IntKind.u64.wrap (a1 * b0)) 4294967296)))))) = w15 at BK2n BK3n BK4n BK5n HBn ⊢
 have BK2 := BK2n
 clear BK2n
 have BK3 := BK3n
 clear BK3n
 have BK4 := BK4n
 clear BK4n
 have BK5 := BK5n
 clear BK5n
 have HB := HBn
 clear HBn
 rw [rounds_succ]
 go_wp2
 refine start_ (n := 8) (S := fun w' => w'.cell? ⟨gb2, 1, none⟩ = some (.int .u64 a1) ∧ w'.cell? ⟨gb3, 1, none⟩ = some (.int .u64 b1)) (ds := []) (bl_ 8 0) (by kernel_rfl) rfl (by kernel_rfl) ⟨(blk_cell BK2.out 1).trans rfl, (blk_cell BK3.out 1).trans rfl⟩ (fun hHeld => ?_); refine with_tabW spigotref21_Times.tab8 spigotref21_Times.bits8 (fun HT_ HW_ => ?_)
 replace BK2 := Aside0.mk (blk_drew BK2.out)
 replace BK3 := Aside0.mk (blk_drew BK3.out)
 replace BK4 := Aside0.mk (blk_drew BK4.out)
 replace BK5 := Aside0.mk (blk_drew BK5.out)
 replace HB := Aside0.mk (below_drew1 HB.out)
 generalize w15.drew = w16 at BK2 BK3 BK4 BK5 HB hHeld ⊢
 refine pa_ 0 (some 17) (bl_ 8 1) HT_ ?_
 refine pa_ 1 (some 18) (bl_ 8 3) HT_ ?_
 refine pa_ 3 (some 20) (bl_ 8 11) HT_ ?_
 refine pa_ 4 (some 21) (bl_ 8 27) HT_ ?_
 refine ta_ 2 (some 19) (bl_ 8 31) HT_ HW_ hHeld ?_
 refine ta_ 5 (some 22) (bl_ 8 63) HT_ HW_ hHeld ?_
 refine pa_ 6 (some 23) (bl_ 8 127) HT_ ?_
 refine pa_ 7 (some 8) (bl_ 8 255) HT_ ?_
 have hc2 := ce6_ BK2
 have hc3 := ce6_ BK3
 have hc4 := ce6_ BK4
 have hc5 := ce6_ BK5
 refine done_ (done_of HT_.out (by kernel_rfl)) ?_
 go_wp2
 clear hc2 hc3 hc4 hc5
 have BK2n : Aside0 (((w16.setCell ⟨gb5, 2, none⟩ (.int .u64 (IntKind.u64.wrap ((IntKind.u64.wrap (p0_2 + (IntKind.u64.wrap (Int.tdiv (IntKind.u64.wrap (a1 * b0)) 4294967296)))) + (Int.tmod (IntKind.u64.wrap (a1 * b1)) 4294967296))))).setCell ⟨gb5, 3, none⟩ (.int .u64 (IntKind.u64.wrap (p0_3 + (IntKind.u64.wrap (Int.tdiv (IntKind.u64.wrap (a1 * b1)) 4294967296)))))).heap[gb2]? = some (.cells #[.int .u64 a0, .int .u64 a1, .int .u64 a2, .int .u64 a3, .int .u64 a4, .int .u64 a5] 74 (0, 0))) := ⟨(blk_far (blk_far BK2.out NB2_5.out _) NB2_5.out _)⟩
 have BK3n : Aside0 (((w16.setCell ⟨gb5, 2, none⟩ (.int .u64 (IntKind.u64.wrap ((IntKind.u64.wrap (p0_2 + (IntKind.u64.wrap (Int.tdiv (IntKind.u64.wrap (a1 * b0)) 4294967296)))) + (Int.tmod (IntKind.u64.wrap (a1 * b1)) 4294967296))))).setCell ⟨gb5, 3, none⟩ (.int .u64 (IntKind.u64.wrap (p0_3 + (IntKind.u64.wrap (Int.tdiv (IntKind.u64.wrap (a1 * b1)) 4294967296)))))).heap[gb3]? = some (.cells #[.int .u64 b0, .int .u64 b1, .int .u64 b2, .int .u64 b3, .int .u64 b4, .int .u64 b5] 74 (0, 0))) := ⟨(blk_far (blk_far BK3.out NB3_5.out _) NB3_5.out _)⟩
 have BK4n : Aside0 (((w16.setCell ⟨gb5, 2, none⟩ (.int .u64 (IntKind.u64.wrap ((IntKind.u64.wrap (p0_2 + (IntKind.u64.wrap (Int.tdiv (IntKind.u64.wrap (a1 * b0)) 4294967296)))) + (Int.tmod (IntKind.u64.wrap (a1 * b1)) 4294967296))))).setCell ⟨gb5, 3, none⟩ (.int .u64 (IntKind.u64.wrap (p0_3 + (IntKind.u64.wrap (Int.tdiv (IntKind.u64.wrap (a1 * b1)) 4294967296)))))).heap[gb4]? = some (.cells #[.int .u64 0, .int .u64 0, .int .u64 0, .int .u64 0, .int .u64 0, .int .u64 0] 74 (0, 0))) := ⟨(blk_far (blk_far BK4.out NB4_5.out _) NB4_5.out _)⟩
 have BK5n : Aside0 (((w16.setCell ⟨gb5, 2, none⟩ (.int .u64 (IntKind.u64.wrap ((IntKind.u64.wrap (p0_2 + (IntKind.u64.wrap (Int.tdiv (IntKind.u64.wrap (a1 * b0)) 4294967296)))) + (Int.tmod (IntKind.u64.wrap (a1 * b1)) 4294967296))))).setCell ⟨gb5, 3, none⟩ (.int .u64 (IntKind.u64.wrap (p0_3 + (IntKind.u64.wrap (Int.tdiv (IntKind.u64.wrap (a1 * b1)) 4294967296)))))).heap[gb5]? = some (.cells #[.int .u64 p0_0, .int .u64 (IntKind.u64.wrap (p0_1 + (Int.tmod (IntKind.u64.wrap (a1 * b0)) 4294967296))), .int .u64 (IntKind.u64.wrap ((IntKind.u64.wrap (p0_2 + (IntKind.u64.wrap (Int.tdiv (IntKind.u64.wrap (a1 * b0)) 4294967296)))) + (Int.tmod (IntKind.u64.wrap (a1 * b1)) 4294967296))), .int .u64 (IntKind.u64.wrap (p0_3 + (IntKind.u64.wrap (Int.tdiv (IntKind.u64.wrap (a1 * b1)) 4294967296)))), .int .u64 p0_4, .int .u64 p0_5] 74 (0, 0))) := ⟨(blk_put (cs := #[.int .u64 p0_0, .int .u64 (IntKind.u64.wrap (p0_1 + (Int.tmod (IntKind.u64.wrap (a1 * b0)) 4294967296))), .int .u64 (IntKind.u64.wrap ((IntKind.u64.wrap (p0_2 + (IntKind.u64.wrap (Int.tdiv (IntKind.u64.wrap (a1 * b0)) 4294967296)))) + (Int.tmod (IntKind.u64.wrap (a1 * b1)) 4294967296))), .int .u64 p0_3, .int .u64 p0_4, .int .u64 p0_5]) (blk_put (cs := #[.int .u64 p0_0, .int .u64 (IntKind.u64.wrap (p0_1 + (Int.tmod (IntKind.u64.wrap (a1 * b0)) 4294967296))), .int .u64 (IntKind.u64.wrap (p0_2 + (IntKind.u64.wrap (Int.tdiv (IntKind.u64.wrap (a1 * b0)) 4294967296)))), .int .u64 p0_3, .int .u64 p0_4, .int .u64 p0_5]) BK5.out 2 _ rfl) 3 _ rfl)⟩
 have HBn : Aside0 (Below w.heap.size w ((w16.setCell ⟨gb5, 2, none⟩ (.int .u64 (IntKind.u64.wrap ((IntKind.u64.wrap (p0_2 + (IntKind.u64.wrap (Int.tdiv (IntKind.u64.wrap (a1 * b0)) 4294967296)))) + (Int.tmod (IntKind.u64.wrap (a1 * b1)) 4294967296))))).setCell ⟨gb5, 3, none⟩ (.int .u64 (IntKind.u64.wrap (p0_3 + (IntKind.u64.wrap (Int.tdiv (IntKind.u64.wrap (a1 * b1)) 4294967296))))))) := bw_
 clear BK2 BK3 BK4 BK5 HB
 generalize ((w16.setCell ⟨gb5, 2, none⟩ (.int .u64 (IntKind.u64.wrap ((IntKind.u64.wrap (p0_2 + (IntKind.u64.wrap (Int.tdiv (IntKind.u64.wrap (a1 * b0)) 4294967296)))) + (Int.tmod (IntKind.u64.wrap (a1 * b1)) 4294967296))))).setCell ⟨gb5, 3, none⟩ (.int .u64 (IntKind.u64.wrap (p0_3 + (IntKind.u64.wrap (Int.tdiv (IntKind.u64.wrap (a1 * b1)) 4294967296)))))) = w17 at BK2n BK3n BK4n BK5n HBn ⊢
 have BK2 := BK2n
 clear BK2n
 have BK3 := BK3n
 clear BK3n
 have BK4 := BK4n
 clear BK4n
 have BK5 := BK5n
 clear BK5n
 have HB := HBn
 clear HBn
 rw [rounds_succ]
 go_wp2
 refine start_ (n := 8) (S := fun w' => w'.cell? ⟨gb2, 1, none⟩ = some (.int .u64 a1) ∧ w'.cell? ⟨gb3, 2, none⟩ = some (.int .u64 b2)) (ds := []) (bl_ 8 0) (by kernel_rfl) rfl (by kernel_rfl) ⟨(blk_cell BK2.out 1).trans rfl, (blk_cell BK3.out 2).trans rfl⟩ (fun hHeld => ?_); refine with_tabW spigotref21_Times.tab8 spigotref21_Times.bits8 (fun HT_ HW_ => ?_)
 replace BK2 := Aside0.mk (blk_drew BK2.out)
 replace BK3 := Aside0.mk (blk_drew BK3.out)
 replace BK4 := Aside0.mk (blk_drew BK4.out)
 replace BK5 := Aside0.mk (blk_drew BK5.out)
 replace HB := Aside0.mk (below_drew1 HB.out)
 generalize w17.drew = w18 at BK2 BK3 BK4 BK5 HB hHeld ⊢
 refine pa_ 0 (some 17) (bl_ 8 1) HT_ ?_
 refine pa_ 1 (some 18) (bl_ 8 3) HT_ ?_
 refine pa_ 3 (some 20) (bl_ 8 11) HT_ ?_
 refine pa_ 4 (some 21) (bl_ 8 27) HT_ ?_
 refine ta_ 2 (some 19) (bl_ 8 31) HT_ HW_ hHeld ?_
 refine ta_ 5 (some 22) (bl_ 8 63) HT_ HW_ hHeld ?_
 refine pa_ 6 (some 23) (bl_ 8 127) HT_ ?_
 refine pa_ 7 (some 8) (bl_ 8 255) HT_ ?_
 have hc2 := ce6_ BK2
 have hc3 := ce6_ BK3
 have hc4 := ce6_ BK4
 have hc5 := ce6_ BK5
 refine done_ (done_of HT_.out (by kernel_rfl)) ?_
 go_wp2
 clear hc2 hc3 hc4 hc5
 have BK2n : Aside0 (((w18.setCell ⟨gb5, 3, none⟩ (.int .u64 (IntKind.u64.wrap ((IntKind.u64.wrap (p0_3 + (IntKind.u64.wrap (Int.tdiv (IntKind.u64.wrap (a1 * b1)) 4294967296)))) + (Int.tmod (IntKind.u64.wrap (a1 * b2)) 4294967296))))).setCell ⟨gb5, 4, none⟩ (.int .u64 (IntKind.u64.wrap (p0_4 + (IntKind.u64.wrap (Int.tdiv (IntKind.u64.wrap (a1 * b2)) 4294967296)))))).heap[gb2]? = some (.cells #[.int .u64 a0, .int .u64 a1, .int .u64 a2, .int .u64 a3, .int .u64 a4, .int .u64 a5] 74 (0, 0))) := ⟨(blk_far (blk_far BK2.out NB2_5.out _) NB2_5.out _)⟩
 have BK3n : Aside0 (((w18.setCell ⟨gb5, 3, none⟩ (.int .u64 (IntKind.u64.wrap ((IntKind.u64.wrap (p0_3 + (IntKind.u64.wrap (Int.tdiv (IntKind.u64.wrap (a1 * b1)) 4294967296)))) + (Int.tmod (IntKind.u64.wrap (a1 * b2)) 4294967296))))).setCell ⟨gb5, 4, none⟩ (.int .u64 (IntKind.u64.wrap (p0_4 + (IntKind.u64.wrap (Int.tdiv (IntKind.u64.wrap (a1 * b2)) 4294967296)))))).heap[gb3]? = some (.cells #[.int .u64 b0, .int .u64 b1, .int .u64 b2, .int .u64 b3, .int .u64 b4, .int .u64 b5] 74 (0, 0))) := ⟨(blk_far (blk_far BK3.out NB3_5.out _) NB3_5.out _)⟩
 have BK4n : Aside0 (((w18.setCell ⟨gb5, 3, none⟩ (.int .u64 (IntKind.u64.wrap ((IntKind.u64.wrap (p0_3 + (IntKind.u64.wrap (Int.tdiv (IntKind.u64.wrap (a1 * b1)) 4294967296)))) + (Int.tmod (IntKind.u64.wrap (a1 * b2)) 4294967296))))).setCell ⟨gb5, 4, none⟩ (.int .u64 (IntKind.u64.wrap (p0_4 + (IntKind.u64.wrap (Int.tdiv (IntKind.u64.wrap (a1 * b2)) 4294967296)))))).heap[gb4]? = some (.cells #[.int .u64 0, .int .u64 0, .int .u64 0, .int .u64 0, .int .u64 0, .int .u64 0] 74 (0, 0))) := ⟨(blk_far (blk_far BK4.out NB4_5.out _) NB4_5.out _)⟩
 have BK5n : Aside0 (((w18.setCell ⟨gb5, 3, none⟩ (.int .u64 (IntKind.u64.wrap ((IntKind.u64.wrap (p0_3 + (IntKind.u64.wrap (Int.tdiv (IntKind.u64.wrap (a1 * b1)) 4294967296)))) + (Int.tmod (IntKind.u64.wrap (a1 * b2)) 4294967296))))).setCell ⟨gb5, 4, none⟩ (.int .u64 (IntKind.u64.wrap (p0_4 + (IntKind.u64.wrap (Int.tdiv (IntKind.u64.wrap (a1 * b2)) 4294967296)))))).heap[gb5]? = some (.cells #[.int .u64 p0_0, .int .u64 (IntKind.u64.wrap (p0_1 + (Int.tmod (IntKind.u64.wrap (a1 * b0)) 4294967296))), .int .u64 (IntKind.u64.wrap ((IntKind.u64.wrap (p0_2 + (IntKind.u64.wrap (Int.tdiv (IntKind.u64.wrap (a1 * b0)) 4294967296)))) + (Int.tmod (IntKind.u64.wrap (a1 * b1)) 4294967296))), .int .u64 (IntKind.u64.wrap ((IntKind.u64.wrap (p0_3 + (IntKind.u64.wrap (Int.tdiv (IntKind.u64.wrap (a1 * b1)) 4294967296)))) + (Int.tmod (IntKind.u64.wrap (a1 * b2)) 4294967296))), .int .u64 (IntKind.u64.wrap (p0_4 + (IntKind.u64.wrap (Int.tdiv (IntKind.u64.wrap (a1 * b2)) 4294967296)))), .int .u64 p0_5] 74 (0, 0))) := ⟨(blk_put (cs := #[.int .u64 p0_0, .int .u64 (IntKind.u64.wrap (p0_1 + (Int.tmod (IntKind.u64.wrap (a1 * b0)) 4294967296))), .int .u64 (IntKind.u64.wrap ((IntKind.u64.wrap (p0_2 + (IntKind.u64.wrap (Int.tdiv (IntKind.u64.wrap (a1 * b0)) 4294967296)))) + (Int.tmod (IntKind.u64.wrap (a1 * b1)) 4294967296))), .int .u64 (IntKind.u64.wrap ((IntKind.u64.wrap (p0_3 + (IntKind.u64.wrap (Int.tdiv (IntKind.u64.wrap (a1 * b1)) 4294967296)))) + (Int.tmod (IntKind.u64.wrap (a1 * b2)) 4294967296))), .int .u64 p0_4, .int .u64 p0_5]) (blk_put (cs := #[.int .u64 p0_0, .int .u64 (IntKind.u64.wrap (p0_1 + (Int.tmod (IntKind.u64.wrap (a1 * b0)) 4294967296))), .int .u64 (IntKind.u64.wrap ((IntKind.u64.wrap (p0_2 + (IntKind.u64.wrap (Int.tdiv (IntKind.u64.wrap (a1 * b0)) 4294967296)))) + (Int.tmod (IntKind.u64.wrap (a1 * b1)) 4294967296))), .int .u64 (IntKind.u64.wrap (p0_3 + (IntKind.u64.wrap (Int.tdiv (IntKind.u64.wrap (a1 * b1)) 4294967296)))), .int .u64 p0_4, .int .u64 p0_5]) BK5.out 3 _ rfl) 4 _ rfl)⟩
 have HBn : Aside0 (Below w.heap.size w ((w18.setCell ⟨gb5, 3, none⟩ (.int .u64 (IntKind.u64.wrap ((IntKind.u64.wrap (p0_3 + (IntKind.u64.wrap (Int.tdiv (IntKind.u64.wrap (a1 * b1)) 4294967296)))) + (Int.tmod (IntKind.u64.wrap (a1 * b2)) 4294967296))))).setCell ⟨gb5, 4, none⟩ (.int .u64 (IntKind.u64.wrap (p0_4 + (IntKind.u64.wrap (Int.tdiv (IntKind.u64.wrap (a1 * b2)) 4294967296))))))) := bw_
 clear BK2 BK3 BK4 BK5 HB
 generalize ((w18.setCell ⟨gb5, 3, none⟩ (.int .u64 (IntKind.u64.wrap ((IntKind.u64.wrap (p0_3 + (IntKind.u64.wrap (Int.tdiv (IntKind.u64.wrap (a1 * b1)) 4294967296)))) + (Int.tmod (IntKind.u64.wrap (a1 * b2)) 4294967296))))).setCell ⟨gb5, 4, none⟩ (.int .u64 (IntKind.u64.wrap (p0_4 + (IntKind.u64.wrap (Int.tdiv (IntKind.u64.wrap (a1 * b2)) 4294967296)))))) = w19 at BK2n BK3n BK4n BK5n HBn ⊢
 have BK2 := BK2n
 clear BK2n
 have BK3 := BK3n
 clear BK3n
 have BK4 := BK4n
 clear BK4n
 have BK5 := BK5n
 clear BK5n
 have HB := HBn
 clear HBn
 obtain ⟨⟨p1_0, p1_1, p1_2, p1_3, p1_4, p1_5⟩, hp1, h⟩ := Option.bind_eq_some_iff.mp h
 dsimp only at h
 rw [rounds_succ]
 have hc2 := ce6_ BK2
 have hc3 := ce6_ BK3
 have hc4 := ce6_ BK4
 have hc5 := ce6_ BK5
 go_wp2_with (go_at_call 56; refine (spigotref21_carried.calls _ _ _ _ _ _ p1_0 p1_1 p1_2 p1_3 p1_4 p1_5 _ hp1).mono ?_; rintro e w20 ⟨rfl, hb⟩; replace BK2 := bb_ BK2 hb; replace BK3 := bb_ BK3 hb; replace BK4 := bb_ BK4 hb; replace BK5 := bb_ BK5 hb; replace HB := bs_ w hb; clear hb hc2 hc3 hc4 hc5; have hc5 := ce6_ BK5)
 clear hc5
 have BK2n : Aside0 (((((((w20.setCell ⟨gb5, 0, none⟩ (.int .u64 p1_0)).setCell ⟨gb5, 1, none⟩ (.int .u64 p1_1)).setCell ⟨gb5, 2, none⟩ (.int .u64 p1_2)).setCell ⟨gb5, 3, none⟩ (.int .u64 p1_3)).setCell ⟨gb5, 4, none⟩ (.int .u64 p1_4)).setCell ⟨gb5, 5, none⟩ (.int .u64 p1_5)).heap[gb2]? = some (.cells #[.int .u64 a0, .int .u64 a1, .int .u64 a2, .int .u64 a3, .int .u64 a4, .int .u64 a5] 74 (0, 0))) := ⟨(blk_far (blk_far (blk_far (blk_far (blk_far (blk_far BK2.out NB2_5.out _) NB2_5.out _) NB2_5.out _) NB2_5.out _) NB2_5.out _) NB2_5.out _)⟩
 have BK3n : Aside0 (((((((w20.setCell ⟨gb5, 0, none⟩ (.int .u64 p1_0)).setCell ⟨gb5, 1, none⟩ (.int .u64 p1_1)).setCell ⟨gb5, 2, none⟩ (.int .u64 p1_2)).setCell ⟨gb5, 3, none⟩ (.int .u64 p1_3)).setCell ⟨gb5, 4, none⟩ (.int .u64 p1_4)).setCell ⟨gb5, 5, none⟩ (.int .u64 p1_5)).heap[gb3]? = some (.cells #[.int .u64 b0, .int .u64 b1, .int .u64 b2, .int .u64 b3, .int .u64 b4, .int .u64 b5] 74 (0, 0))) := ⟨(blk_far (blk_far (blk_far (blk_far (blk_far (blk_far BK3.out NB3_5.out _) NB3_5.out _) NB3_5.out _) NB3_5.out _) NB3_5.out _) NB3_5.out _)⟩
 have BK4n : Aside0 (((((((w20.setCell ⟨gb5, 0, none⟩ (.int .u64 p1_0)).setCell ⟨gb5, 1, none⟩ (.int .u64 p1_1)).setCell ⟨gb5, 2, none⟩ (.int .u64 p1_2)).setCell ⟨gb5, 3, none⟩ (.int .u64 p1_3)).setCell ⟨gb5, 4, none⟩ (.int .u64 p1_4)).setCell ⟨gb5, 5, none⟩ (.int .u64 p1_5)).heap[gb4]? = some (.cells #[.int .u64 0, .int .u64 0, .int .u64 0, .int .u64 0, .int .u64 0, .int .u64 0] 74 (0, 0))) := ⟨(blk_far (blk_far (blk_far (blk_far (blk_far (blk_far BK4.out NB4_5.out _) NB4_5.out _) NB4_5.out _) NB4_5.out _) NB4_5.out _) NB4_5.out _)⟩
 have BK5n : Aside0 (((((((w20.setCell ⟨gb5, 0, none⟩ (.int .u64 p1_0)).setCell ⟨gb5, 1, none⟩ (.int .u64 p1_1)).setCell ⟨gb5, 2, none⟩ (.int .u64 p1_2)).setCell ⟨gb5, 3, none⟩ (.int .u64 p1_3)).setCell ⟨gb5, 4, none⟩ (.int .u64 p1_4)).setCell ⟨gb5, 5, none⟩ (.int .u64 p1_5)).heap[gb5]? = some (.cells #[.int .u64 p1_0, .int .u64 p1_1, .int .u64 p1_2, .int .u64 p1_3, .int .u64 p1_4, .int .u64 p1_5] 74 (0, 0))) := ⟨(blk_put (cs := #[.int .u64 p1_0, .int .u64 p1_1, .int .u64 p1_2, .int .u64 p1_3, .int .u64 p1_4, .int .u64 p0_5]) (blk_put (cs := #[.int .u64 p1_0, .int .u64 p1_1, .int .u64 p1_2, .int .u64 p1_3, .int .u64 (IntKind.u64.wrap (p0_4 + (IntKind.u64.wrap (Int.tdiv (IntKind.u64.wrap (a1 * b2)) 4294967296)))), .int .u64 p0_5]) (blk_put (cs := #[.int .u64 p1_0, .int .u64 p1_1, .int .u64 p1_2, .int .u64 (IntKind.u64.wrap ((IntKind.u64.wrap (p0_3 + (IntKind.u64.wrap (Int.tdiv (IntKind.u64.wrap (a1 * b1)) 4294967296)))) + (Int.tmod (IntKind.u64.wrap (a1 * b2)) 4294967296))), .int .u64 (IntKind.u64.wrap (p0_4 + (IntKind.u64.wrap (Int.tdiv (IntKind.u64.wrap (a1 * b2)) 4294967296)))), .int .u64 p0_5]) (blk_put (cs := #[.int .u64 p1_0, .int .u64 p1_1, .int .u64 (IntKind.u64.wrap ((IntKind.u64.wrap (p0_2 + (IntKind.u64.wrap (Int.tdiv (IntKind.u64.wrap (a1 * b0)) 4294967296)))) + (Int.tmod (IntKind.u64.wrap (a1 * b1)) 4294967296))), .int .u64 (IntKind.u64.wrap ((IntKind.u64.wrap (p0_3 + (IntKind.u64.wrap (Int.tdiv (IntKind.u64.wrap (a1 * b1)) 4294967296)))) + (Int.tmod (IntKind.u64.wrap (a1 * b2)) 4294967296))), .int .u64 (IntKind.u64.wrap (p0_4 + (IntKind.u64.wrap (Int.tdiv (IntKind.u64.wrap (a1 * b2)) 4294967296)))), .int .u64 p0_5]) (blk_put (cs := #[.int .u64 p1_0, .int .u64 (IntKind.u64.wrap (p0_1 + (Int.tmod (IntKind.u64.wrap (a1 * b0)) 4294967296))), .int .u64 (IntKind.u64.wrap ((IntKind.u64.wrap (p0_2 + (IntKind.u64.wrap (Int.tdiv (IntKind.u64.wrap (a1 * b0)) 4294967296)))) + (Int.tmod (IntKind.u64.wrap (a1 * b1)) 4294967296))), .int .u64 (IntKind.u64.wrap ((IntKind.u64.wrap (p0_3 + (IntKind.u64.wrap (Int.tdiv (IntKind.u64.wrap (a1 * b1)) 4294967296)))) + (Int.tmod (IntKind.u64.wrap (a1 * b2)) 4294967296))), .int .u64 (IntKind.u64.wrap (p0_4 + (IntKind.u64.wrap (Int.tdiv (IntKind.u64.wrap (a1 * b2)) 4294967296)))), .int .u64 p0_5]) (blk_put (cs := #[.int .u64 p0_0, .int .u64 (IntKind.u64.wrap (p0_1 + (Int.tmod (IntKind.u64.wrap (a1 * b0)) 4294967296))), .int .u64 (IntKind.u64.wrap ((IntKind.u64.wrap (p0_2 + (IntKind.u64.wrap (Int.tdiv (IntKind.u64.wrap (a1 * b0)) 4294967296)))) + (Int.tmod (IntKind.u64.wrap (a1 * b1)) 4294967296))), .int .u64 (IntKind.u64.wrap ((IntKind.u64.wrap (p0_3 + (IntKind.u64.wrap (Int.tdiv (IntKind.u64.wrap (a1 * b1)) 4294967296)))) + (Int.tmod (IntKind.u64.wrap (a1 * b2)) 4294967296))), .int .u64 (IntKind.u64.wrap (p0_4 + (IntKind.u64.wrap (Int.tdiv (IntKind.u64.wrap (a1 * b2)) 4294967296)))), .int .u64 p0_5]) BK5.out 0 _ rfl) 1 _ rfl) 2 _ rfl) 3 _ rfl) 4 _ rfl) 5 _ rfl)⟩
 have HBn : Aside0 (Below w.heap.size w ((((((w20.setCell ⟨gb5, 0, none⟩ (.int .u64 p1_0)).setCell ⟨gb5, 1, none⟩ (.int .u64 p1_1)).setCell ⟨gb5, 2, none⟩ (.int .u64 p1_2)).setCell ⟨gb5, 3, none⟩ (.int .u64 p1_3)).setCell ⟨gb5, 4, none⟩ (.int .u64 p1_4)).setCell ⟨gb5, 5, none⟩ (.int .u64 p1_5))) := bw_
 clear BK2 BK3 BK4 BK5 HB
 generalize ((((((w20.setCell ⟨gb5, 0, none⟩ (.int .u64 p1_0)).setCell ⟨gb5, 1, none⟩ (.int .u64 p1_1)).setCell ⟨gb5, 2, none⟩ (.int .u64 p1_2)).setCell ⟨gb5, 3, none⟩ (.int .u64 p1_3)).setCell ⟨gb5, 4, none⟩ (.int .u64 p1_4)).setCell ⟨gb5, 5, none⟩ (.int .u64 p1_5)) = w21 at BK2n BK3n BK4n BK5n HBn ⊢
 have BK2 := BK2n
 clear BK2n
 have BK3 := BK3n
 clear BK3n
 have BK4 := BK4n
 clear BK4n
 have BK5 := BK5n
 clear BK5n
 have HB := HBn
 clear HBn
 rw [rounds_succ]
 go_wp2
 refine wp_loop_rounds 4 ?_
 rw [rounds_succ]
 go_wp2
 refine start_ (n := 8) (S := fun w' => w'.cell? ⟨gb2, 2, none⟩ = some (.int .u64 a2) ∧ w'.cell? ⟨gb3, 0, none⟩ = some (.int .u64 b0)) (ds := []) (bl_ 8 0) (by kernel_rfl) rfl (by kernel_rfl) ⟨(blk_cell BK2.out 2).trans rfl, (blk_cell BK3.out 0).trans rfl⟩ (fun hHeld => ?_); refine with_tabW spigotref21_Times.tab8 spigotref21_Times.bits8 (fun HT_ HW_ => ?_)
 replace BK2 := Aside0.mk (blk_drew BK2.out)
 replace BK3 := Aside0.mk (blk_drew BK3.out)
 replace BK4 := Aside0.mk (blk_drew BK4.out)
 replace BK5 := Aside0.mk (blk_drew BK5.out)
 replace HB := Aside0.mk (below_drew1 HB.out)
 generalize w21.drew = w22 at BK2 BK3 BK4 BK5 HB hHeld ⊢
 refine pa_ 0 (some 17) (bl_ 8 1) HT_ ?_
 refine pa_ 1 (some 18) (bl_ 8 3) HT_ ?_
 refine pa_ 3 (some 20) (bl_ 8 11) HT_ ?_
 refine pa_ 4 (some 21) (bl_ 8 27) HT_ ?_
 refine ta_ 2 (some 19) (bl_ 8 31) HT_ HW_ hHeld ?_
 refine ta_ 5 (some 22) (bl_ 8 63) HT_ HW_ hHeld ?_
 refine pa_ 6 (some 23) (bl_ 8 127) HT_ ?_
 refine pa_ 7 (some 8) (bl_ 8 255) HT_ ?_
 have hc2 := ce6_ BK2
 have hc3 := ce6_ BK3
 have hc4 := ce6_ BK4
 have hc5 := ce6_ BK5
 refine done_ (done_of HT_.out (by kernel_rfl)) ?_
 go_wp2
 clear hc2 hc3 hc4 hc5
 have BK2n : Aside0 (((w22.setCell ⟨gb5, 2, none⟩ (.int .u64 (IntKind.u64.wrap (p1_2 + (Int.tmod (IntKind.u64.wrap (a2 * b0)) 4294967296))))).setCell ⟨gb5, 3, none⟩ (.int .u64 (IntKind.u64.wrap (p1_3 + (IntKind.u64.wrap (Int.tdiv (IntKind.u64.wrap (a2 * b0)) 4294967296)))))).heap[gb2]? = some (.cells #[.int .u64 a0, .int .u64 a1, .int .u64 a2, .int .u64 a3, .int .u64 a4, .int .u64 a5] 74 (0, 0))) := ⟨(blk_far (blk_far BK2.out NB2_5.out _) NB2_5.out _)⟩
 have BK3n : Aside0 (((w22.setCell ⟨gb5, 2, none⟩ (.int .u64 (IntKind.u64.wrap (p1_2 + (Int.tmod (IntKind.u64.wrap (a2 * b0)) 4294967296))))).setCell ⟨gb5, 3, none⟩ (.int .u64 (IntKind.u64.wrap (p1_3 + (IntKind.u64.wrap (Int.tdiv (IntKind.u64.wrap (a2 * b0)) 4294967296)))))).heap[gb3]? = some (.cells #[.int .u64 b0, .int .u64 b1, .int .u64 b2, .int .u64 b3, .int .u64 b4, .int .u64 b5] 74 (0, 0))) := ⟨(blk_far (blk_far BK3.out NB3_5.out _) NB3_5.out _)⟩
 have BK4n : Aside0 (((w22.setCell ⟨gb5, 2, none⟩ (.int .u64 (IntKind.u64.wrap (p1_2 + (Int.tmod (IntKind.u64.wrap (a2 * b0)) 4294967296))))).setCell ⟨gb5, 3, none⟩ (.int .u64 (IntKind.u64.wrap (p1_3 + (IntKind.u64.wrap (Int.tdiv (IntKind.u64.wrap (a2 * b0)) 4294967296)))))).heap[gb4]? = some (.cells #[.int .u64 0, .int .u64 0, .int .u64 0, .int .u64 0, .int .u64 0, .int .u64 0] 74 (0, 0))) := ⟨(blk_far (blk_far BK4.out NB4_5.out _) NB4_5.out _)⟩
 have BK5n : Aside0 (((w22.setCell ⟨gb5, 2, none⟩ (.int .u64 (IntKind.u64.wrap (p1_2 + (Int.tmod (IntKind.u64.wrap (a2 * b0)) 4294967296))))).setCell ⟨gb5, 3, none⟩ (.int .u64 (IntKind.u64.wrap (p1_3 + (IntKind.u64.wrap (Int.tdiv (IntKind.u64.wrap (a2 * b0)) 4294967296)))))).heap[gb5]? = some (.cells #[.int .u64 p1_0, .int .u64 p1_1, .int .u64 (IntKind.u64.wrap (p1_2 + (Int.tmod (IntKind.u64.wrap (a2 * b0)) 4294967296))), .int .u64 (IntKind.u64.wrap (p1_3 + (IntKind.u64.wrap (Int.tdiv (IntKind.u64.wrap (a2 * b0)) 4294967296)))), .int .u64 p1_4, .int .u64 p1_5] 74 (0, 0))) := ⟨(blk_put (cs := #[.int .u64 p1_0, .int .u64 p1_1, .int .u64 (IntKind.u64.wrap (p1_2 + (Int.tmod (IntKind.u64.wrap (a2 * b0)) 4294967296))), .int .u64 p1_3, .int .u64 p1_4, .int .u64 p1_5]) (blk_put (cs := #[.int .u64 p1_0, .int .u64 p1_1, .int .u64 p1_2, .int .u64 p1_3, .int .u64 p1_4, .int .u64 p1_5]) BK5.out 2 _ rfl) 3 _ rfl)⟩
 have HBn : Aside0 (Below w.heap.size w ((w22.setCell ⟨gb5, 2, none⟩ (.int .u64 (IntKind.u64.wrap (p1_2 + (Int.tmod (IntKind.u64.wrap (a2 * b0)) 4294967296))))).setCell ⟨gb5, 3, none⟩ (.int .u64 (IntKind.u64.wrap (p1_3 + (IntKind.u64.wrap (Int.tdiv (IntKind.u64.wrap (a2 * b0)) 4294967296))))))) := bw_
 clear BK2 BK3 BK4 BK5 HB
 generalize ((w22.setCell ⟨gb5, 2, none⟩ (.int .u64 (IntKind.u64.wrap (p1_2 + (Int.tmod (IntKind.u64.wrap (a2 * b0)) 4294967296))))).setCell ⟨gb5, 3, none⟩ (.int .u64 (IntKind.u64.wrap (p1_3 + (IntKind.u64.wrap (Int.tdiv (IntKind.u64.wrap (a2 * b0)) 4294967296)))))) = w23 at BK2n BK3n BK4n BK5n HBn ⊢
 have BK2 := BK2n
 clear BK2n
 have BK3 := BK3n
 clear BK3n
 have BK4 := BK4n
 clear BK4n
 have BK5 := BK5n
 clear BK5n
 have HB := HBn
 clear HBn
 rw [rounds_succ]
 go_wp2
 refine start_ (n := 8) (S := fun w' => w'.cell? ⟨gb2, 2, none⟩ = some (.int .u64 a2) ∧ w'.cell? ⟨gb3, 1, none⟩ = some (.int .u64 b1)) (ds := []) (bl_ 8 0) (by kernel_rfl) rfl (by kernel_rfl) ⟨(blk_cell BK2.out 2).trans rfl, (blk_cell BK3.out 1).trans rfl⟩ (fun hHeld => ?_); refine with_tabW spigotref21_Times.tab8 spigotref21_Times.bits8 (fun HT_ HW_ => ?_)
 replace BK2 := Aside0.mk (blk_drew BK2.out)
 replace BK3 := Aside0.mk (blk_drew BK3.out)
 replace BK4 := Aside0.mk (blk_drew BK4.out)
 replace BK5 := Aside0.mk (blk_drew BK5.out)
 replace HB := Aside0.mk (below_drew1 HB.out)
 generalize w23.drew = w24 at BK2 BK3 BK4 BK5 HB hHeld ⊢
 refine pa_ 0 (some 17) (bl_ 8 1) HT_ ?_
 refine pa_ 1 (some 18) (bl_ 8 3) HT_ ?_
 refine pa_ 3 (some 20) (bl_ 8 11) HT_ ?_
 refine pa_ 4 (some 21) (bl_ 8 27) HT_ ?_
 refine ta_ 2 (some 19) (bl_ 8 31) HT_ HW_ hHeld ?_
 refine ta_ 5 (some 22) (bl_ 8 63) HT_ HW_ hHeld ?_
 refine pa_ 6 (some 23) (bl_ 8 127) HT_ ?_
 refine pa_ 7 (some 8) (bl_ 8 255) HT_ ?_
 have hc2 := ce6_ BK2
 have hc3 := ce6_ BK3
 have hc4 := ce6_ BK4
 have hc5 := ce6_ BK5
 refine done_ (done_of HT_.out (by kernel_rfl)) ?_
 go_wp2
 clear hc2 hc3 hc4 hc5
 have BK2n : Aside0 (((w24.setCell ⟨gb5, 3, none⟩ (.int .u64 (IntKind.u64.wrap ((IntKind.u64.wrap (p1_3 + (IntKind.u64.wrap (Int.tdiv (IntKind.u64.wrap (a2 * b0)) 4294967296)))) + (Int.tmod (IntKind.u64.wrap (a2 * b1)) 4294967296))))).setCell ⟨gb5, 4, none⟩ (.int .u64 (IntKind.u64.wrap (p1_4 + (IntKind.u64.wrap (Int.tdiv (IntKind.u64.wrap (a2 * b1)) 4294967296)))))).heap[gb2]? = some (.cells #[.int .u64 a0, .int .u64 a1, .int .u64 a2, .int .u64 a3, .int .u64 a4, .int .u64 a5] 74 (0, 0))) := ⟨(blk_far (blk_far BK2.out NB2_5.out _) NB2_5.out _)⟩
 have BK3n : Aside0 (((w24.setCell ⟨gb5, 3, none⟩ (.int .u64 (IntKind.u64.wrap ((IntKind.u64.wrap (p1_3 + (IntKind.u64.wrap (Int.tdiv (IntKind.u64.wrap (a2 * b0)) 4294967296)))) + (Int.tmod (IntKind.u64.wrap (a2 * b1)) 4294967296))))).setCell ⟨gb5, 4, none⟩ (.int .u64 (IntKind.u64.wrap (p1_4 + (IntKind.u64.wrap (Int.tdiv (IntKind.u64.wrap (a2 * b1)) 4294967296)))))).heap[gb3]? = some (.cells #[.int .u64 b0, .int .u64 b1, .int .u64 b2, .int .u64 b3, .int .u64 b4, .int .u64 b5] 74 (0, 0))) := ⟨(blk_far (blk_far BK3.out NB3_5.out _) NB3_5.out _)⟩
 have BK4n : Aside0 (((w24.setCell ⟨gb5, 3, none⟩ (.int .u64 (IntKind.u64.wrap ((IntKind.u64.wrap (p1_3 + (IntKind.u64.wrap (Int.tdiv (IntKind.u64.wrap (a2 * b0)) 4294967296)))) + (Int.tmod (IntKind.u64.wrap (a2 * b1)) 4294967296))))).setCell ⟨gb5, 4, none⟩ (.int .u64 (IntKind.u64.wrap (p1_4 + (IntKind.u64.wrap (Int.tdiv (IntKind.u64.wrap (a2 * b1)) 4294967296)))))).heap[gb4]? = some (.cells #[.int .u64 0, .int .u64 0, .int .u64 0, .int .u64 0, .int .u64 0, .int .u64 0] 74 (0, 0))) := ⟨(blk_far (blk_far BK4.out NB4_5.out _) NB4_5.out _)⟩
 have BK5n : Aside0 (((w24.setCell ⟨gb5, 3, none⟩ (.int .u64 (IntKind.u64.wrap ((IntKind.u64.wrap (p1_3 + (IntKind.u64.wrap (Int.tdiv (IntKind.u64.wrap (a2 * b0)) 4294967296)))) + (Int.tmod (IntKind.u64.wrap (a2 * b1)) 4294967296))))).setCell ⟨gb5, 4, none⟩ (.int .u64 (IntKind.u64.wrap (p1_4 + (IntKind.u64.wrap (Int.tdiv (IntKind.u64.wrap (a2 * b1)) 4294967296)))))).heap[gb5]? = some (.cells #[.int .u64 p1_0, .int .u64 p1_1, .int .u64 (IntKind.u64.wrap (p1_2 + (Int.tmod (IntKind.u64.wrap (a2 * b0)) 4294967296))), .int .u64 (IntKind.u64.wrap ((IntKind.u64.wrap (p1_3 + (IntKind.u64.wrap (Int.tdiv (IntKind.u64.wrap (a2 * b0)) 4294967296)))) + (Int.tmod (IntKind.u64.wrap (a2 * b1)) 4294967296))), .int .u64 (IntKind.u64.wrap (p1_4 + (IntKind.u64.wrap (Int.tdiv (IntKind.u64.wrap (a2 * b1)) 4294967296)))), .int .u64 p1_5] 74 (0, 0))) := ⟨(blk_put (cs := #[.int .u64 p1_0, .int .u64 p1_1, .int .u64 (IntKind.u64.wrap (p1_2 + (Int.tmod (IntKind.u64.wrap (a2 * b0)) 4294967296))), .int .u64 (IntKind.u64.wrap ((IntKind.u64.wrap (p1_3 + (IntKind.u64.wrap (Int.tdiv (IntKind.u64.wrap (a2 * b0)) 4294967296)))) + (Int.tmod (IntKind.u64.wrap (a2 * b1)) 4294967296))), .int .u64 p1_4, .int .u64 p1_5]) (blk_put (cs := #[.int .u64 p1_0, .int .u64 p1_1, .int .u64 (IntKind.u64.wrap (p1_2 + (Int.tmod (IntKind.u64.wrap (a2 * b0)) 4294967296))), .int .u64 (IntKind.u64.wrap (p1_3 + (IntKind.u64.wrap (Int.tdiv (IntKind.u64.wrap (a2 * b0)) 4294967296)))), .int .u64 p1_4, .int .u64 p1_5]) BK5.out 3 _ rfl) 4 _ rfl)⟩
 have HBn : Aside0 (Below w.heap.size w ((w24.setCell ⟨gb5, 3, none⟩ (.int .u64 (IntKind.u64.wrap ((IntKind.u64.wrap (p1_3 + (IntKind.u64.wrap (Int.tdiv (IntKind.u64.wrap (a2 * b0)) 4294967296)))) + (Int.tmod (IntKind.u64.wrap (a2 * b1)) 4294967296))))).setCell ⟨gb5, 4, none⟩ (.int .u64 (IntKind.u64.wrap (p1_4 + (IntKind.u64.wrap (Int.tdiv (IntKind.u64.wrap (a2 * b1)) 4294967296))))))) := bw_
 clear BK2 BK3 BK4 BK5 HB
 generalize ((w24.setCell ⟨gb5, 3, none⟩ (.int .u64 (IntKind.u64.wrap ((IntKind.u64.wrap (p1_3 + (IntKind.u64.wrap (Int.tdiv (IntKind.u64.wrap (a2 * b0)) 4294967296)))) + (Int.tmod (IntKind.u64.wrap (a2 * b1)) 4294967296))))).setCell ⟨gb5, 4, none⟩ (.int .u64 (IntKind.u64.wrap (p1_4 + (IntKind.u64.wrap (Int.tdiv (IntKind.u64.wrap (a2 * b1)) 4294967296)))))) = w25 at BK2n BK3n BK4n BK5n HBn ⊢
 have BK2 := BK2n
 clear BK2n
 have BK3 := BK3n
 clear BK3n
 have BK4 := BK4n
 clear BK4n
 have BK5 := BK5n
 clear BK5n
 have HB := HBn
 clear HBn
 rw [rounds_succ]
 go_wp2
 refine start_ (n := 8) (S := fun w' => w'.cell? ⟨gb2, 2, none⟩ = some (.int .u64 a2) ∧ w'.cell? ⟨gb3, 2, none⟩ = some (.int .u64 b2)) (ds := []) (bl_ 8 0) (by kernel_rfl) rfl (by kernel_rfl) ⟨(blk_cell BK2.out 2).trans rfl, (blk_cell BK3.out 2).trans rfl⟩ (fun hHeld => ?_); refine with_tabW spigotref21_Times.tab8 spigotref21_Times.bits8 (fun HT_ HW_ => ?_)
 replace BK2 := Aside0.mk (blk_drew BK2.out)
 replace BK3 := Aside0.mk (blk_drew BK3.out)
 replace BK4 := Aside0.mk (blk_drew BK4.out)
 replace BK5 := Aside0.mk (blk_drew BK5.out)
 replace HB := Aside0.mk (below_drew1 HB.out)
 generalize w25.drew = w26 at BK2 BK3 BK4 BK5 HB hHeld ⊢
 refine pa_ 0 (some 17) (bl_ 8 1) HT_ ?_
 refine pa_ 1 (some 18) (bl_ 8 3) HT_ ?_
 refine pa_ 3 (some 20) (bl_ 8 11) HT_ ?_
 refine pa_ 4 (some 21) (bl_ 8 27) HT_ ?_
 refine ta_ 2 (some 19) (bl_ 8 31) HT_ HW_ hHeld ?_
 refine ta_ 5 (some 22) (bl_ 8 63) HT_ HW_ hHeld ?_
 refine pa_ 6 (some 23) (bl_ 8 127) HT_ ?_
 refine pa_ 7 (some 8) (bl_ 8 255) HT_ ?_
 have hc2 := ce6_ BK2
 have hc3 := ce6_ BK3
 have hc4 := ce6_ BK4
 have hc5 := ce6_ BK5
 refine done_ (done_of HT_.out (by kernel_rfl)) ?_
 go_wp2
 clear hc2 hc3 hc4 hc5
 have BK2n : Aside0 (((w26.setCell ⟨gb5, 4, none⟩ (.int .u64 (IntKind.u64.wrap ((IntKind.u64.wrap (p1_4 + (IntKind.u64.wrap (Int.tdiv (IntKind.u64.wrap (a2 * b1)) 4294967296)))) + (Int.tmod (IntKind.u64.wrap (a2 * b2)) 4294967296))))).setCell ⟨gb5, 5, none⟩ (.int .u64 (IntKind.u64.wrap (p1_5 + (IntKind.u64.wrap (Int.tdiv (IntKind.u64.wrap (a2 * b2)) 4294967296)))))).heap[gb2]? = some (.cells #[.int .u64 a0, .int .u64 a1, .int .u64 a2, .int .u64 a3, .int .u64 a4, .int .u64 a5] 74 (0, 0))) := ⟨(blk_far (blk_far BK2.out NB2_5.out _) NB2_5.out _)⟩
 have BK3n : Aside0 (((w26.setCell ⟨gb5, 4, none⟩ (.int .u64 (IntKind.u64.wrap ((IntKind.u64.wrap (p1_4 + (IntKind.u64.wrap (Int.tdiv (IntKind.u64.wrap (a2 * b1)) 4294967296)))) + (Int.tmod (IntKind.u64.wrap (a2 * b2)) 4294967296))))).setCell ⟨gb5, 5, none⟩ (.int .u64 (IntKind.u64.wrap (p1_5 + (IntKind.u64.wrap (Int.tdiv (IntKind.u64.wrap (a2 * b2)) 4294967296)))))).heap[gb3]? = some (.cells #[.int .u64 b0, .int .u64 b1, .int .u64 b2, .int .u64 b3, .int .u64 b4, .int .u64 b5] 74 (0, 0))) := ⟨(blk_far (blk_far BK3.out NB3_5.out _) NB3_5.out _)⟩
 have BK4n : Aside0 (((w26.setCell ⟨gb5, 4, none⟩ (.int .u64 (IntKind.u64.wrap ((IntKind.u64.wrap (p1_4 + (IntKind.u64.wrap (Int.tdiv (IntKind.u64.wrap (a2 * b1)) 4294967296)))) + (Int.tmod (IntKind.u64.wrap (a2 * b2)) 4294967296))))).setCell ⟨gb5, 5, none⟩ (.int .u64 (IntKind.u64.wrap (p1_5 + (IntKind.u64.wrap (Int.tdiv (IntKind.u64.wrap (a2 * b2)) 4294967296)))))).heap[gb4]? = some (.cells #[.int .u64 0, .int .u64 0, .int .u64 0, .int .u64 0, .int .u64 0, .int .u64 0] 74 (0, 0))) := ⟨(blk_far (blk_far BK4.out NB4_5.out _) NB4_5.out _)⟩
 have BK5n : Aside0 (((w26.setCell ⟨gb5, 4, none⟩ (.int .u64 (IntKind.u64.wrap ((IntKind.u64.wrap (p1_4 + (IntKind.u64.wrap (Int.tdiv (IntKind.u64.wrap (a2 * b1)) 4294967296)))) + (Int.tmod (IntKind.u64.wrap (a2 * b2)) 4294967296))))).setCell ⟨gb5, 5, none⟩ (.int .u64 (IntKind.u64.wrap (p1_5 + (IntKind.u64.wrap (Int.tdiv (IntKind.u64.wrap (a2 * b2)) 4294967296)))))).heap[gb5]? = some (.cells #[.int .u64 p1_0, .int .u64 p1_1, .int .u64 (IntKind.u64.wrap (p1_2 + (Int.tmod (IntKind.u64.wrap (a2 * b0)) 4294967296))), .int .u64 (IntKind.u64.wrap ((IntKind.u64.wrap (p1_3 + (IntKind.u64.wrap (Int.tdiv (IntKind.u64.wrap (a2 * b0)) 4294967296)))) + (Int.tmod (IntKind.u64.wrap (a2 * b1)) 4294967296))), .int .u64 (IntKind.u64.wrap ((IntKind.u64.wrap (p1_4 + (IntKind.u64.wrap (Int.tdiv (IntKind.u64.wrap (a2 * b1)) 4294967296)))) + (Int.tmod (IntKind.u64.wrap (a2 * b2)) 4294967296))), .int .u64 (IntKind.u64.wrap (p1_5 + (IntKind.u64.wrap (Int.tdiv (IntKind.u64.wrap (a2 * b2)) 4294967296))))] 74 (0, 0))) := ⟨(blk_put (cs := #[.int .u64 p1_0, .int .u64 p1_1, .int .u64 (IntKind.u64.wrap (p1_2 + (Int.tmod (IntKind.u64.wrap (a2 * b0)) 4294967296))), .int .u64 (IntKind.u64.wrap ((IntKind.u64.wrap (p1_3 + (IntKind.u64.wrap (Int.tdiv (IntKind.u64.wrap (a2 * b0)) 4294967296)))) + (Int.tmod (IntKind.u64.wrap (a2 * b1)) 4294967296))), .int .u64 (IntKind.u64.wrap ((IntKind.u64.wrap (p1_4 + (IntKind.u64.wrap (Int.tdiv (IntKind.u64.wrap (a2 * b1)) 4294967296)))) + (Int.tmod (IntKind.u64.wrap (a2 * b2)) 4294967296))), .int .u64 p1_5]) (blk_put (cs := #[.int .u64 p1_0, .int .u64 p1_1, .int .u64 (IntKind.u64.wrap (p1_2 + (Int.tmod (IntKind.u64.wrap (a2 * b0)) 4294967296))), .int .u64 (IntKind.u64.wrap ((IntKind.u64.wrap (p1_3 + (IntKind.u64.wrap (Int.tdiv (IntKind.u64.wrap (a2 * b0)) 4294967296)))) + (Int.tmod (IntKind.u64.wrap (a2 * b1)) 4294967296))), .int .u64 (IntKind.u64.wrap (p1_4 + (IntKind.u64.wrap (Int.tdiv (IntKind.u64.wrap (a2 * b1)) 4294967296)))), .int .u64 p1_5]) BK5.out 4 _ rfl) 5 _ rfl)⟩
 have HBn : Aside0 (Below w.heap.size w ((w26.setCell ⟨gb5, 4, none⟩ (.int .u64 (IntKind.u64.wrap ((IntKind.u64.wrap (p1_4 + (IntKind.u64.wrap (Int.tdiv (IntKind.u64.wrap (a2 * b1)) 4294967296)))) + (Int.tmod (IntKind.u64.wrap (a2 * b2)) 4294967296))))).setCell ⟨gb5, 5, none⟩ (.int .u64 (IntKind.u64.wrap (p1_5 + (IntKind.u64.wrap (Int.tdiv (IntKind.u64.wrap (a2 * b2)) 4294967296))))))) := bw_
 clear BK2 BK3 BK4 BK5 HB
 generalize ((w26.setCell ⟨gb5, 4, none⟩ (.int .u64 (IntKind.u64.wrap ((IntKind.u64.wrap (p1_4 + (IntKind.u64.wrap (Int.tdiv (IntKind.u64.wrap (a2 * b1)) 4294967296)))) + (Int.tmod (IntKind.u64.wrap (a2 * b2)) 4294967296))))).setCell ⟨gb5, 5, none⟩ (.int .u64 (IntKind.u64.wrap (p1_5 + (IntKind.u64.wrap (Int.tdiv (IntKind.u64.wrap (a2 * b2)) 4294967296)))))) = w27 at BK2n BK3n BK4n BK5n HBn ⊢
 have BK2 := BK2n
 clear BK2n
 have BK3 := BK3n
 clear BK3n
 have BK4 := BK4n
 clear BK4n
 have BK5 := BK5n
 clear BK5n
 have HB := HBn
 clear HBn
 rw [rounds_succ]
 have hc2 := ce6_ BK2
 have hc3 := ce6_ BK3
 have hc4 := ce6_ BK4
 have hc5 := ce6_ BK5
 go_wp2_with (go_at_call 56; refine (spigotref21_carried.calls _ _ _ _ _ _ r1 r2 r3 r4 r5 r6 _ h).mono ?_; rintro e w28 ⟨rfl, hb⟩; replace BK2 := bb_ BK2 hb; replace BK3 := bb_ BK3 hb; replace BK4 := bb_ BK4 hb; replace BK5 := bb_ BK5 hb; replace HB := bs_ w hb; clear hb hc2 hc3 hc4 hc5; have hc5 := ce6_ BK5)
 clear hc5
 have BK2n : Aside0 (((((((w28.setCell ⟨gb5, 0, none⟩ (.int .u64 r1)).setCell ⟨gb5, 1, none⟩ (.int .u64 r2)).setCell ⟨gb5, 2, none⟩ (.int .u64 r3)).setCell ⟨gb5, 3, none⟩ (.int .u64 r4)).setCell ⟨gb5, 4, none⟩ (.int .u64 r5)).setCell ⟨gb5, 5, none⟩ (.int .u64 r6)).heap[gb2]? = some (.cells #[.int .u64 a0, .int .u64 a1, .int .u64 a2, .int .u64 a3, .int .u64 a4, .int .u64 a5] 74 (0, 0))) := ⟨(blk_far (blk_far (blk_far (blk_far (blk_far (blk_far BK2.out NB2_5.out _) NB2_5.out _) NB2_5.out _) NB2_5.out _) NB2_5.out _) NB2_5.out _)⟩
 have BK3n : Aside0 (((((((w28.setCell ⟨gb5, 0, none⟩ (.int .u64 r1)).setCell ⟨gb5, 1, none⟩ (.int .u64 r2)).setCell ⟨gb5, 2, none⟩ (.int .u64 r3)).setCell ⟨gb5, 3, none⟩ (.int .u64 r4)).setCell ⟨gb5, 4, none⟩ (.int .u64 r5)).setCell ⟨gb5, 5, none⟩ (.int .u64 r6)).heap[gb3]? = some (.cells #[.int .u64 b0, .int .u64 b1, .int .u64 b2, .int .u64 b3, .int .u64 b4, .int .u64 b5] 74 (0, 0))) := ⟨(blk_far (blk_far (blk_far (blk_far (blk_far (blk_far BK3.out NB3_5.out _) NB3_5.out _) NB3_5.out _) NB3_5.out _) NB3_5.out _) NB3_5.out _)⟩
 have BK4n : Aside0 (((((((w28.setCell ⟨gb5, 0, none⟩ (.int .u64 r1)).setCell ⟨gb5, 1, none⟩ (.int .u64 r2)).setCell ⟨gb5, 2, none⟩ (.int .u64 r3)).setCell ⟨gb5, 3, none⟩ (.int .u64 r4)).setCell ⟨gb5, 4, none⟩ (.int .u64 r5)).setCell ⟨gb5, 5, none⟩ (.int .u64 r6)).heap[gb4]? = some (.cells #[.int .u64 0, .int .u64 0, .int .u64 0, .int .u64 0, .int .u64 0, .int .u64 0] 74 (0, 0))) := ⟨(blk_far (blk_far (blk_far (blk_far (blk_far (blk_far BK4.out NB4_5.out _) NB4_5.out _) NB4_5.out _) NB4_5.out _) NB4_5.out _) NB4_5.out _)⟩
 have BK5n : Aside0 (((((((w28.setCell ⟨gb5, 0, none⟩ (.int .u64 r1)).setCell ⟨gb5, 1, none⟩ (.int .u64 r2)).setCell ⟨gb5, 2, none⟩ (.int .u64 r3)).setCell ⟨gb5, 3, none⟩ (.int .u64 r4)).setCell ⟨gb5, 4, none⟩ (.int .u64 r5)).setCell ⟨gb5, 5, none⟩ (.int .u64 r6)).heap[gb5]? = some (.cells #[.int .u64 r1, .int .u64 r2, .int .u64 r3, .int .u64 r4, .int .u64 r5, .int .u64 r6] 74 (0, 0))) := ⟨(blk_put (cs := #[.int .u64 r1, .int .u64 r2, .int .u64 r3, .int .u64 r4, .int .u64 r5, .int .u64 (IntKind.u64.wrap (p1_5 + (IntKind.u64.wrap (Int.tdiv (IntKind.u64.wrap (a2 * b2)) 4294967296))))]) (blk_put (cs := #[.int .u64 r1, .int .u64 r2, .int .u64 r3, .int .u64 r4, .int .u64 (IntKind.u64.wrap ((IntKind.u64.wrap (p1_4 + (IntKind.u64.wrap (Int.tdiv (IntKind.u64.wrap (a2 * b1)) 4294967296)))) + (Int.tmod (IntKind.u64.wrap (a2 * b2)) 4294967296))), .int .u64 (IntKind.u64.wrap (p1_5 + (IntKind.u64.wrap (Int.tdiv (IntKind.u64.wrap (a2 * b2)) 4294967296))))]) (blk_put (cs := #[.int .u64 r1, .int .u64 r2, .int .u64 r3, .int .u64 (IntKind.u64.wrap ((IntKind.u64.wrap (p1_3 + (IntKind.u64.wrap (Int.tdiv (IntKind.u64.wrap (a2 * b0)) 4294967296)))) + (Int.tmod (IntKind.u64.wrap (a2 * b1)) 4294967296))), .int .u64 (IntKind.u64.wrap ((IntKind.u64.wrap (p1_4 + (IntKind.u64.wrap (Int.tdiv (IntKind.u64.wrap (a2 * b1)) 4294967296)))) + (Int.tmod (IntKind.u64.wrap (a2 * b2)) 4294967296))), .int .u64 (IntKind.u64.wrap (p1_5 + (IntKind.u64.wrap (Int.tdiv (IntKind.u64.wrap (a2 * b2)) 4294967296))))]) (blk_put (cs := #[.int .u64 r1, .int .u64 r2, .int .u64 (IntKind.u64.wrap (p1_2 + (Int.tmod (IntKind.u64.wrap (a2 * b0)) 4294967296))), .int .u64 (IntKind.u64.wrap ((IntKind.u64.wrap (p1_3 + (IntKind.u64.wrap (Int.tdiv (IntKind.u64.wrap (a2 * b0)) 4294967296)))) + (Int.tmod (IntKind.u64.wrap (a2 * b1)) 4294967296))), .int .u64 (IntKind.u64.wrap ((IntKind.u64.wrap (p1_4 + (IntKind.u64.wrap (Int.tdiv (IntKind.u64.wrap (a2 * b1)) 4294967296)))) + (Int.tmod (IntKind.u64.wrap (a2 * b2)) 4294967296))), .int .u64 (IntKind.u64.wrap (p1_5 + (IntKind.u64.wrap (Int.tdiv (IntKind.u64.wrap (a2 * b2)) 4294967296))))]) (blk_put (cs := #[.int .u64 r1, .int .u64 p1_1, .int .u64 (IntKind.u64.wrap (p1_2 + (Int.tmod (IntKind.u64.wrap (a2 * b0)) 4294967296))), .int .u64 (IntKind.u64.wrap ((IntKind.u64.wrap (p1_3 + (IntKind.u64.wrap (Int.tdiv (IntKind.u64.wrap (a2 * b0)) 4294967296)))) + (Int.tmod (IntKind.u64.wrap (a2 * b1)) 4294967296))), .int .u64 (IntKind.u64.wrap ((IntKind.u64.wrap (p1_4 + (IntKind.u64.wrap (Int.tdiv (IntKind.u64.wrap (a2 * b1)) 4294967296)))) + (Int.tmod (IntKind.u64.wrap (a2 * b2)) 4294967296))), .int .u64 (IntKind.u64.wrap (p1_5 + (IntKind.u64.wrap (Int.tdiv (IntKind.u64.wrap (a2 * b2)) 4294967296))))]) (blk_put (cs := #[.int .u64 p1_0, .int .u64 p1_1, .int .u64 (IntKind.u64.wrap (p1_2 + (Int.tmod (IntKind.u64.wrap (a2 * b0)) 4294967296))), .int .u64 (IntKind.u64.wrap ((IntKind.u64.wrap (p1_3 + (IntKind.u64.wrap (Int.tdiv (IntKind.u64.wrap (a2 * b0)) 4294967296)))) + (Int.tmod (IntKind.u64.wrap (a2 * b1)) 4294967296))), .int .u64 (IntKind.u64.wrap ((IntKind.u64.wrap (p1_4 + (IntKind.u64.wrap (Int.tdiv (IntKind.u64.wrap (a2 * b1)) 4294967296)))) + (Int.tmod (IntKind.u64.wrap (a2 * b2)) 4294967296))), .int .u64 (IntKind.u64.wrap (p1_5 + (IntKind.u64.wrap (Int.tdiv (IntKind.u64.wrap (a2 * b2)) 4294967296))))]) BK5.out 0 _ rfl) 1 _ rfl) 2 _ rfl) 3 _ rfl) 4 _ rfl) 5 _ rfl)⟩
 have HBn : Aside0 (Below w.heap.size w ((((((w28.setCell ⟨gb5, 0, none⟩ (.int .u64 r1)).setCell ⟨gb5, 1, none⟩ (.int .u64 r2)).setCell ⟨gb5, 2, none⟩ (.int .u64 r3)).setCell ⟨gb5, 3, none⟩ (.int .u64 r4)).setCell ⟨gb5, 4, none⟩ (.int .u64 r5)).setCell ⟨gb5, 5, none⟩ (.int .u64 r6))) := bw_
 clear BK2 BK3 BK4 BK5 HB
 generalize ((((((w28.setCell ⟨gb5, 0, none⟩ (.int .u64 r1)).setCell ⟨gb5, 1, none⟩ (.int .u64 r2)).setCell ⟨gb5, 2, none⟩ (.int .u64 r3)).setCell ⟨gb5, 3, none⟩ (.int .u64 r4)).setCell ⟨gb5, 4, none⟩ (.int .u64 r5)).setCell ⟨gb5, 5, none⟩ (.int .u64 r6)) = w29 at BK2n BK3n BK4n BK5n HBn ⊢
 have BK2 := BK2n
 clear BK2n
 have BK3 := BK3n
 clear BK3n
 have BK4 := BK4n
 clear BK4n
 have BK5 := BK5n
 clear BK5n
 have HB := HBn
 clear HBn
 rw [rounds_succ]
 have hc2 := ce6_ BK2
 have hc3 := ce6_ BK3
 have hc4 := ce6_ BK4
 have hc5 := ce6_ BK5
 go_wp2
 refine bodyPost_ret (results_cell_row rfl _ _ gb4 74 #[.int .u64 r1, .int .u64 r2, .int .u64 r3, .int .u64 r4, .int .u64 r5, .int .u64 r6] (0, 0) _ rfl (bp6_ (bq_ BK4)) Try.underlying74 rfl (by kernel_rfl)) rfl ?_
 exact fi_

end Go.Proofs.Ytcdmjdghmbdikaa.X
