-- written by xprint.py, a program of this session over the kit's print
import Derived.Test.YtnijohomnajngaaX0
import Derived.Test.YtnijohomnajngaaX5
import Derived.Test.YtnijohomnajngaaX9
namespace Go.Proofs.Ytnijohomnajngaa.X
open Go.RowKit Go.Proofs.YtnijohomnajngaaW.PrintWords Go.Proofs.YtnijohomnajngaaW.PrintLast Go.Proofs.YtnijohomnajngaaW.PrintMore
attribute [local go_sem] max2_int min2_int max_two min_two max_three min_three max_four min_four   -- for this text's walks alone
set_option linter.unusedVariables false
set_option linter.unusedSimpArgs false

/-! ### wide_Add: function 48 -/
def wide_Add.f (a0_0 : Int) (a0_1 : Int) (a1_0 : Int) (a1_1 : Int) : Option (Int × Int × Int) := (bits_Add64.f a0_1 a1_1 0).bind fun bt134 => ((bits_Add64.f a0_0 a1_0 bt134.2).bind fun bt136 => (if bt136.2 = 0 then (some (bt136.1, bt134.1, 0)) else (some (0, 0, 16))))
set_option maxHeartbeats 8000000 in
set_option maxRecDepth 100000 in
theorem wide_Add.calls (a0_0 : Int) (a0_1 : Int) (a1_0 : Int) (a1_1 : Int) (r1 : Int) (r2 : Int) (r3 : Int) (w : World) (h : wide_Add.f a0_0 a0_1 a1_0 a1_1 = some (r1, r2, r3)) :
  Calls Try.prog 48 #[.agg #[.int .u64 a0_0, .int .u64 a0_1], .agg #[.int .u64 a1_0, .int .u64 a1_1]] w fun e w' => e = .returned (.tuple #[.agg #[.int .u64 r1, .int .u64 r2], .int .i64 r3]) ∧ Below w.heap.size w w' := by
 have hu26 := Try.underlying26
 have HB := Aside0.mk (Below.refl w.heap.size w)
 have H : ((bits_Add64.f a0_1 a1_1 0).bind fun bt134 => ((bits_Add64.f a0_0 a1_0 bt134.2).bind fun bt136 => (if bt136.2 = 0 then (some (bt136.1, bt134.1, 0)) else (some (0, 0, 16))))) = some (r1, r2, r3) := h
 clear h
 obtain ⟨⟨t134, t135⟩, A3, H⟩ := bo_ H
 replace H : ((bits_Add64.f a0_0 a1_0 t135).bind fun bt136 => (if bt136.2 = 0 then (some (bt136.1, t134, 0)) else (some (0, 0, 16)))) = some (r1, r2, r3) := H
 obtain ⟨⟨t136, t137⟩, A4, H⟩ := bo_ H
 replace H : (if t137 = 0 then (some (t136, t134, 0)) else (some (0, 0, 16))) = some (r1, r2, r3) := H
 by_cases c5 : t137 = 0
 ·rw [if_pos c5] at H
  have c5b0 : (t137 == 0) = true := beq_iff_eq.mpr c5
  have c5b1 : (t137 != 0) = false := bne_eq_false_iff_eq.mpr c5
  clear c5
  simp only [Option.some.injEq, Prod.mk.injEq] at H
  obtain ⟨rfl, rfl, rfl⟩ := H
  go_enter Try.func48, Try.ntmps48
  go_wp2_with (first | ((with_reducible refine gate_dst (N := 2) rfl ?_); refine bx_ #[.int .u64 a0_0, .int .u64 a0_1] 26 ?_; intro gb131 hg w6 BK131 hb; have GW131 := bz_ w hg; have GE131 := GW131; replace HB := bs_ w hb; clear hb hg) | ((with_reducible refine gate_dst (N := 3) rfl ?_); refine bx_ #[.int .u64 a1_0, .int .u64 a1_1] 26 ?_; intro gb132 hg w7 BK132 hb; have GW132 := bz_ w hg; have GE132 := GW132; have NB131_132 := bn_ BK131 hg; have NB132_131 := bm_ BK131 hg; replace BK131 := bb_ BK131 hb; replace HB := bs_ w hb; clear hb hg) | ((with_reducible refine gate_dst (N := 4) rfl ?_); refine bx_ #[.int .u64 0, .int .u64 0] 26 ?_; intro gb133 hg w8 BK133 hb; have GW133 := bz_ w hg; have GE133 := GW133; have NB131_133 := bn_ BK131 hg; have NB133_131 := bm_ BK131 hg; have NB132_133 := bn_ BK132 hg; have NB133_132 := bm_ BK132 hg; replace BK131 := bb_ BK131 hb; replace BK132 := bb_ BK132 hb; replace HB := bs_ w hb; clear hb hg; have hnb9 := NB131_132.out; have hnc9 := NB132_131.out; have hnb10 := NB131_133.out; have hnc10 := NB133_131.out; obtain ⟨_, _, _, _⟩ := ce2_ BK131; have hnb12 := NB132_133.out; have hnc12 := NB133_132.out; obtain ⟨_, _, _, _⟩ := ce2_ BK132) | ((with_reducible refine gate_callee (f := 63) rfl ?_); refine goesXL_ (some 15) rfl rfl #[.int .u64 a0_1, .int .u64 a1_1, .int .u64 0] rfl (by (try simp only [List.map_toArray, List.map_cons, List.map_nil]); first | done | rfl | (simp only [List.length_drop, List.length_take]; rfl)) ?_; (with_reducible refine (bits_Add64.calls a0_1 a1_1 0 t134 t135 _ A3.out).mono ?_); rintro e w' ⟨rfl, ⟨nd, rfl⟩⟩; refine ⟨_, rfl, ?_⟩; (try (rw [drewN_self w8]; generalize hq_ : World.drewN w8 _ = w8; replace BK131 : Aside0 (w8.heap[gb131]? = some (.cells #[.int .u64 a0_0, .int .u64 a0_1] 26 (0, 0))) := ⟨by rw [← hq_]; exact (bq_ BK131)⟩; replace BK132 : Aside0 (w8.heap[gb132]? = some (.cells #[.int .u64 a1_0, .int .u64 a1_1] 26 (0, 0))) := ⟨by rw [← hq_]; exact (bq_ BK132)⟩; replace BK133 : Aside0 (w8.heap[gb133]? = some (.cells #[.int .u64 0, .int .u64 0] 26 (0, 0))) := ⟨by rw [← hq_]; exact (bq_ BK133)⟩; replace HB : Aside0 (Below w.heap.size w w8) := ⟨by rw [← hq_]; exact bh_⟩; clear hq_)); obtain ⟨_, _, _, _⟩ := ce2_ BK131; obtain ⟨_, _, _, _⟩ := ce2_ BK132) | ((with_reducible refine gate_callee (f := 63) rfl ?_); refine goesXL_ (some 24) rfl rfl #[.int .u64 a0_0, .int .u64 a1_0, .int .u64 t135] rfl (by (try simp only [List.map_toArray, List.map_cons, List.map_nil]); first | done | rfl | (simp only [List.length_drop, List.length_take]; rfl)) ?_; (with_reducible refine (bits_Add64.calls a0_0 a1_0 t135 t136 t137 _ A4.out).mono ?_); rintro e w' ⟨rfl, ⟨nd, rfl⟩⟩; refine ⟨_, rfl, ?_⟩; (try (rw [drewN_self w8]; generalize hq_ : World.drewN w8 _ = w8; replace BK131 : Aside0 (w8.heap[gb131]? = some (.cells #[.int .u64 a0_0, .int .u64 a0_1] 26 (0, 0))) := ⟨by rw [← hq_]; exact (bq_ BK131)⟩; replace BK132 : Aside0 (w8.heap[gb132]? = some (.cells #[.int .u64 a1_0, .int .u64 a1_1] 26 (0, 0))) := ⟨by rw [← hq_]; exact (bq_ BK132)⟩; replace BK133 : Aside0 (w8.heap[gb133]? = some (.cells #[.int .u64 0, .int .u64 0] 26 (0, 0))) := ⟨by rw [← hq_]; exact (bq_ BK133)⟩; replace HB : Aside0 (Below w.heap.size w w8) := ⟨by rw [← hq_]; exact bh_⟩; clear hq_)); obtain ⟨_, _, _, _⟩ := ce2_ BK133))
  refine bodyPost_ret (results_ct rfl _ _ gb133 26 #[.int .u64 t136, .int .u64 t134] (0, 0) _ rfl (bp2_ (bq_ BK133)) Try.underlying26 rfl (by kernel_rfl)) rfl ?_
  exact fi_
 ·rw [if_neg c5] at H
  have c5b0 : (t137 == 0) = false := beq_eq_false_iff_ne.mpr c5
  have c5b1 : (t137 != 0) = true := bne_iff_ne.mpr c5
  simp only [Option.some.injEq, Prod.mk.injEq] at H
  obtain ⟨rfl, rfl, rfl⟩ := H
  go_enter Try.func48, Try.ntmps48
  go_wp2_with (first | ((with_reducible refine gate_dst (N := 2) rfl ?_); refine bx_ #[.int .u64 a0_0, .int .u64 a0_1] 26 ?_; intro gb131 hg w17 BK131 hb; have GW131 := bz_ w hg; have GE131 := GW131; replace HB := bs_ w hb; clear hb hg) | ((with_reducible refine gate_dst (N := 3) rfl ?_); refine bx_ #[.int .u64 a1_0, .int .u64 a1_1] 26 ?_; intro gb132 hg w18 BK132 hb; have GW132 := bz_ w hg; have GE132 := GW132; have NB131_132 := bn_ BK131 hg; have NB132_131 := bm_ BK131 hg; replace BK131 := bb_ BK131 hb; replace HB := bs_ w hb; clear hb hg) | ((with_reducible refine gate_dst (N := 4) rfl ?_); refine bx_ #[.int .u64 0, .int .u64 0] 26 ?_; intro gb133 hg w19 BK133 hb; have GW133 := bz_ w hg; have GE133 := GW133; have NB131_133 := bn_ BK131 hg; have NB133_131 := bm_ BK131 hg; have NB132_133 := bn_ BK132 hg; have NB133_132 := bm_ BK132 hg; replace BK131 := bb_ BK131 hb; replace BK132 := bb_ BK132 hb; replace HB := bs_ w hb; clear hb hg; have hnb20 := NB131_132.out; have hnc20 := NB132_131.out; have hnb21 := NB131_133.out; have hnc21 := NB133_131.out; obtain ⟨_, _, _, _⟩ := ce2_ BK131; have hnb23 := NB132_133.out; have hnc23 := NB133_132.out; obtain ⟨_, _, _, _⟩ := ce2_ BK132) | ((with_reducible refine gate_callee (f := 63) rfl ?_); refine goesXL_ (some 15) rfl rfl #[.int .u64 a0_1, .int .u64 a1_1, .int .u64 0] rfl (by (try simp only [List.map_toArray, List.map_cons, List.map_nil]); first | done | rfl | (simp only [List.length_drop, List.length_take]; rfl)) ?_; (with_reducible refine (bits_Add64.calls a0_1 a1_1 0 t134 t135 _ A3.out).mono ?_); rintro e w' ⟨rfl, ⟨nd, rfl⟩⟩; refine ⟨_, rfl, ?_⟩; (try (rw [drewN_self w19]; generalize hq_ : World.drewN w19 _ = w19; replace BK131 : Aside0 (w19.heap[gb131]? = some (.cells #[.int .u64 a0_0, .int .u64 a0_1] 26 (0, 0))) := ⟨by rw [← hq_]; exact (bq_ BK131)⟩; replace BK132 : Aside0 (w19.heap[gb132]? = some (.cells #[.int .u64 a1_0, .int .u64 a1_1] 26 (0, 0))) := ⟨by rw [← hq_]; exact (bq_ BK132)⟩; replace BK133 : Aside0 (w19.heap[gb133]? = some (.cells #[.int .u64 0, .int .u64 0] 26 (0, 0))) := ⟨by rw [← hq_]; exact (bq_ BK133)⟩; replace HB : Aside0 (Below w.heap.size w w19) := ⟨by rw [← hq_]; exact bh_⟩; clear hq_)); obtain ⟨_, _, _, _⟩ := ce2_ BK131; obtain ⟨_, _, _, _⟩ := ce2_ BK132) | ((with_reducible refine gate_callee (f := 63) rfl ?_); refine goesXL_ (some 24) rfl rfl #[.int .u64 a0_0, .int .u64 a1_0, .int .u64 t135] rfl (by (try simp only [List.map_toArray, List.map_cons, List.map_nil]); first | done | rfl | (simp only [List.length_drop, List.length_take]; rfl)) ?_; (with_reducible refine (bits_Add64.calls a0_0 a1_0 t135 t136 t137 _ A4.out).mono ?_); rintro e w' ⟨rfl, ⟨nd, rfl⟩⟩; refine ⟨_, rfl, ?_⟩; (try (rw [drewN_self w19]; generalize hq_ : World.drewN w19 _ = w19; replace BK131 : Aside0 (w19.heap[gb131]? = some (.cells #[.int .u64 a0_0, .int .u64 a0_1] 26 (0, 0))) := ⟨by rw [← hq_]; exact (bq_ BK131)⟩; replace BK132 : Aside0 (w19.heap[gb132]? = some (.cells #[.int .u64 a1_0, .int .u64 a1_1] 26 (0, 0))) := ⟨by rw [← hq_]; exact (bq_ BK132)⟩; replace BK133 : Aside0 (w19.heap[gb133]? = some (.cells #[.int .u64 0, .int .u64 0] 26 (0, 0))) := ⟨by rw [← hq_]; exact (bq_ BK133)⟩; replace HB : Aside0 (Below w.heap.size w w19) := ⟨by rw [← hq_]; exact bh_⟩; clear hq_)); obtain ⟨_, _, _, _⟩ := ce2_ BK133))
  refine bodyPost_ret (results_ct rfl _ _ gb133 26 #[.int .u64 0, .int .u64 0] (0, 0) _ rfl (bp2_ (bq_ BK133)) Try.underlying26 rfl (by kernel_rfl)) rfl ?_
  exact fi_

/-! ### gcra_end: function 35 -/
def gcra_end.f (a0_0 : Int) (a0_1 : Int) (a0_2 : Int) (a1 : Int) : Option (Int × Int × Int) := (gcra_at.f a0_0 a0_1 a0_2 a1).bind fun bt140 => ((gcra_tokens.f a0_0 a0_1 a0_2 a0_0).bind fun bt142 => ((wide_Add.f bt140.1 bt140.2 bt142.1 bt142.2).bind fun bt144 => (some (bt144.1, bt144.2.1, bt144.2.2))))
def gcra_end.T1 : Bool × List (List Nat × List Nat) := (true, [([], []), ([], []), ([0, 1], [0, 1]), ([], []), ([], []), ([4], [4]), ([3, 5, 2], [3, 5]), ([2, 6, 6], [2, 6]), ([7], [7]), ([7], [7]), ([8, 7, 0, 1, 2, 3, 4, 5, 6, 7, 8, 9], [8]), ([9, 10, 0, 1, 2, 3, 4, 5, 6, 7, 8, 9, 10], [9])])
def gcra_end.B1 : List Nat := [0, 0, 3, 0, 0, 16, 63, 127, 255, 255, 1023, 2047]
theorem gcra_end.tab1 : rtab .any (opsOf Try.f35 1) = gcra_end.T1 := by kernel_rfl
theorem gcra_end.bits1 : waitsOk gcra_end.T1.2 gcra_end.B1 = true := by kernel_rfl
set_option maxHeartbeats 8000000 in
set_option maxRecDepth 100000 in
theorem gcra_end.calls (a0_0 : Int) (a0_1 : Int) (a0_2 : Int) (a1 : Int) (r1 : Int) (r2 : Int) (r3 : Int) (w : World) (h : gcra_end.f a0_0 a0_1 a0_2 a1 = some (r1, r2, r3)) :
  Calls Try.prog 35 #[.agg #[.int .i64 a0_0, .int .i64 a0_1, .int .i64 a0_2], .int .u64 a1] w fun e w' => e = .returned (.tuple #[.agg #[.int .u64 r1, .int .u64 r2], .int .i64 r3]) ∧ Below w.heap.size w w' := by
 have hu23 := Try.underlying23
 have hu26 := Try.underlying26
 have HB := Aside0.mk (Below.refl w.heap.size w)
 have H : ((gcra_at.f a0_0 a0_1 a0_2 a1).bind fun bt140 => ((gcra_tokens.f a0_0 a0_1 a0_2 a0_0).bind fun bt142 => ((wide_Add.f bt140.1 bt140.2 bt142.1 bt142.2).bind fun bt144 => (some (bt144.1, bt144.2.1, bt144.2.2))))) = some (r1, r2, r3) := h
 clear h
 obtain ⟨⟨t140, t141⟩, A3, H⟩ := bo_ H
 try dsimp only at H
 obtain ⟨⟨t142, t143⟩, A4, H⟩ := bo_ H
 replace H : ((wide_Add.f t140 t141 t142 t143).bind fun bt144 => (some (bt144.1, bt144.2.1, bt144.2.2))) = some (r1, r2, r3) := H
 obtain ⟨⟨t144, t145, t146⟩, A5, H⟩ := bo_ H
 replace H : (some (t144, t145, t146)) = some (r1, r2, r3) := H
 simp only [Option.some.injEq, Prod.mk.injEq] at H
 obtain ⟨rfl, rfl, rfl⟩ := H
 go_enter Try.func35, Try.ntmps35
 try go_wp2_with (first | ((with_reducible refine gate_dst (N := 2) rfl ?_); refine bx_ #[.int .i64 a0_0, .int .i64 a0_1, .int .i64 a0_2] 23 ?_; intro gb138 hg w6 BK138 hb; have GW138 := bz_ w hg; replace HB := bs_ w hb; clear hb hg) | ((with_reducible refine gate_dst (N := 4) rfl ?_); refine bx_ #[.int .u64 0, .int .u64 0] 26 ?_; intro gb139 hg w7 BK139 hb; have GW139 := bz_ w hg; have NB138_139 := bn_ BK138 hg; have NB139_138 := bm_ BK138 hg; replace BK138 := bb_ BK138 hb; replace HB := bs_ w hb; clear hb hg))
 replace BK138 := Aside0.mk (blk_drew BK138.out)
 replace BK139 := Aside0.mk (blk_drew BK139.out)
 replace HB := Aside0.mk (below_drew1 HB.out)
 refine start_ (n := 12) (S := fun w' => w'.cell? ⟨gb138, 0, none⟩ = some (.int .i64 a0_0) ∧ w'.cell? ⟨gb138, 1, none⟩ = some (.int .i64 a0_1) ∧ w'.cell? ⟨gb138, 2, none⟩ = some (.int .i64 a0_2)) (ds := []) (bl_ 12 0) (by kernel_rfl) rfl (by kernel_rfl) (cc3_ BK138) (fun hHeld => ?_); refine with_tabW gcra_end.tab1 gcra_end.bits1 (fun HT_ HW_ => ?_)
 generalize w7.drew = w8 at BK138 BK139 HB hHeld ⊢
 refine pa_ 1 (some 7) (bl_ 12 2) HT_ ?_
 refine pa_ 4 (some 10) (bl_ 12 18) HT_ ?_
 refine ta_ 0 (some 6) (bl_ 12 19) HT_ HW_ hHeld ?_
 refine ta_ 3 (some 9) (bl_ 12 27) HT_ HW_ hHeld ?_
 refine ta_ 5 (some 11) (bl_ 12 59) HT_ HW_ hHeld ?_
 refine oa_ 2 (some 8) (bl_ 12 63) HT_ fun K hK => ?_
 refine goesB_ Try.func31 #[.agg #[.int .i64 a0_0, .int .i64 a0_1, .int .i64 a0_2], .int .u64 a1] ?_
 with_reducible refine (gcra_at.calls a0_0 a0_1 a0_2 a1 t140 t141 _ A3.out).mono ?_
 rintro e w9 ⟨rfl, hb⟩
 refine ⟨_, rfl, ?_⟩
 replace BK138 := bb_ BK138 hb
 replace BK139 := bb_ BK139 hb
 replace HB := bs_ w hb
 clear hb
 refine hK.out _ _ (cc3_ BK138) (fun hHeld => ?_)
 clear hK K
 refine nm_ (some 8) ?_
 refine oa_ 6 (some 12) (bl_ 12 127) HT_ fun K hK => ?_
 refine goesB_ Try.func36 #[.agg #[.int .i64 a0_0, .int .i64 a0_1, .int .i64 a0_2], .int .i64 a0_0] ?_
 with_reducible refine (gcra_tokens.calls a0_0 a0_1 a0_2 a0_0 t142 t143 _ A4.out).mono ?_
 rintro e w10 ⟨rfl, hb⟩
 refine ⟨_, rfl, ?_⟩
 replace BK138 := bb_ BK138 hb
 replace BK139 := bb_ BK139 hb
 replace HB := bs_ w hb
 clear hb
 refine hK.out _ _ (cc3_ BK138) (fun hHeld => ?_)
 clear hK K
 refine nm_ (some 12) ?_
 refine oa_ 7 (some 13) (bl_ 12 255) HT_ fun K hK => ?_
 refine goesB_ Try.func48 #[.agg #[.int .u64 t140, .int .u64 t141], .agg #[.int .u64 t142, .int .u64 t143]] ?_
 with_reducible refine (wide_Add.calls t140 t141 t142 t143 t144 t145 t146 _ A5.out).mono ?_
 rintro e w11 ⟨rfl, hb⟩
 refine ⟨_, rfl, ?_⟩
 replace BK138 := bb_ BK138 hb
 replace BK139 := bb_ BK139 hb
 replace HB := bs_ w hb
 clear hb
 refine hK.out _ _ (cc3_ BK138) (fun hHeld => ?_)
 clear hK K
 refine nm_ (some 13) ?_
 refine pa_ 8 (some 14) (bl_ 12 511) HT_ ?_
 refine pa_ 9 (some 15) (bl_ 12 1023) HT_ ?_
 refine oa_ 10 none (bl_ 12 2047) HT_ fun K hK => ?_
 have hs12 : w11.cell? ⟨gb139, 0, none⟩ = some (.int .u64 0) := (blk_cell BK139.out 0).trans rfl
 have hfs12 := blk_frozen BK139.out 0
 have hns12_0 := NB138_139.out
 have hms12_0 := NB139_138.out
 have hs13 : w11.cell? ⟨gb139, 1, none⟩ = some (.int .u64 0) := (blk_cell BK139.out 1).trans rfl
 have hfs13 := blk_frozen BK139.out 1
 have hns13_0 := NB138_139.out
 have hms13_0 := NB139_138.out
 refine sk_ ?_
 refine hK.out _ _ (cf3_ hHeld) (fun hHeld => ?_)
 clear hK K
 refine pa_ 11 (some 5) (bl_ 12 4095) HT_ ?_
 refine done_ (done_of HT_.out (by kernel_rfl)) ?_
 try go_wp2
 refine bodyPost_ret (results_ct rfl _ _ gb139 26 #[.int .u64 t144, .int .u64 t145] (0, 0) _ rfl (bp2_ (bq_ BK139)) Try.underlying26 rfl (by kernel_rfl)) rfl ?_
 exact fi_

/-! ### wide_Of: function 37 -/
def wide_Of.f (a0 : Int) : Option (Int × Int) := some (0, a0)
set_option maxHeartbeats 8000000 in
set_option maxRecDepth 100000 in
theorem wide_Of.calls (a0 : Int) (r1 : Int) (r2 : Int) (w : World) (h : wide_Of.f a0 = some (r1, r2)) :
  Calls Try.prog 37 #[.int .u64 a0] w fun e w' => e = .returned (.agg #[.int .u64 r1, .int .u64 r2]) ∧ Below w.heap.size w w' := by
 have hu26 := Try.underlying26
 have HB := Aside0.mk (Below.refl w.heap.size w)
 have H : (some (0, a0)) = some (r1, r2) := h
 clear h
 simp only [Option.some.injEq, Prod.mk.injEq] at H
 obtain ⟨rfl, rfl⟩ := H
 go_enter Try.func37, Try.ntmps37
 go_wp2_with (first | ((with_reducible refine gate_dst (N := 2) rfl ?_); refine bx_ #[.int .u64 0, .int .u64 0] 26 ?_; intro gb147 hg w2 BK147 hb; have GW147 := bz_ w hg; replace HB := bs_ w hb; clear hb hg; obtain ⟨_, _, _, _⟩ := ce2_ BK147))
 refine bodyPost_ret (results_cell_row rfl _ _ gb147 26 #[.int .u64 0, .int .u64 a0] (0, 0) _ rfl (bp2_ (bq_ BK147)) Try.underlying26 rfl (by kernel_rfl)) rfl ?_
 exact fi_

end Go.Proofs.Ytnijohomnajngaa.X
