-- written by xprint.py, a program of this session over the kit's print
import Derived.Test.YtcdmjdghmbdikaaX0
namespace Go.Proofs.Ytcdmjdghmbdikaa.X
open Go.RowKit Go.Proofs.YtcdmjdghmbdikaaW.PrintWords Go.Proofs.YtcdmjdghmbdikaaW.PrintLast Go.Proofs.YtcdmjdghmbdikaaW.PrintMore
attribute [local go_sem] max2_int min2_int max_two min_two max_three min_three max_four min_four   -- for this text's walks alone
set_option linter.unusedVariables false
set_option linter.unusedSimpArgs false

/-! ### bits_Add64: function 41 -/
def bits_Add64.f (a0 : Int) (a1 : Int) (a2 : Int) : Option (Int × Int) := if 0 ≤ a0 ∧ 0 ≤ a1 ∧ 0 ≤ a2 ∧ a2 ≤ 1 then some ((a0 + a1 + a2) % 18446744073709551616, (a0 + a1 + a2) / 18446744073709551616) else none
theorem bits_Add64.calls (a0 : Int) (a1 : Int) (a2 : Int) (r1 : Int) (r2 : Int) (w : World) (h : bits_Add64.f a0 a1 a2 = some (r1, r2)) :
    CallsX Try.prog 41 #[.int .u64 a0, .int .u64 a1, .int .u64 a2] w fun e w' => e = .returned (.tuple #[.int .u64 r1, .int .u64 r2]) ∧ Drawn0 w w' := by
  unfold bits_Add64.f at h
  split at h
  case isFalse => cases h
  rename_i hu
  obtain ⟨h0, h1, h2, h3⟩ := hu
  simp only [Option.some.injEq, Prod.mk.injEq] at h
  obtain ⟨rfl, rfl⟩ := h
  refine ⟨_, w, ?_, rfl, Drawn0.refl _⟩
  rw [run_callFunc_extern Try.func41 (by kernel_rfl) (by kernel_rfl) (by kernel_rfl) (e := add64Entry) (by kernel_rfl), run_add64 a0 a1 a2 h0 h1 h2 h3]
  rfl

/-! ### tally_add: function 49 -/
def tally_add.f (a0 : Int) (a1 : Int) : Option (Int) := (bits_Add64.f a0 a1 0).bind fun bt101 => (if bt101.2 > 0 then (some 18446744073709551615) else (some bt101.1))
set_option maxHeartbeats 8000000 in
set_option maxRecDepth 100000 in
theorem tally_add.calls (a0 : Int) (a1 : Int) (r : Int) (w : World) (h : tally_add.f a0 a1 = some r) :
  Calls Try.prog 49 #[.int .u64 a0, .int .u64 a1] w fun e w' => e = .returned (.int .u64 r) ∧ Drawn0 w w' := by
 have H : ((bits_Add64.f a0 a1 0).bind fun bt101 => (if bt101.2 > 0 then (some 18446744073709551615) else (some bt101.1))) = some r := h
 clear h
 have H0_ := bo_ H; clear H; obtain ⟨⟨t101, t102⟩, A3, H⟩ := H0_
 replace H : (if t102 > 0 then (some 18446744073709551615) else (some t101)) = some r := H
 by_cases c4 : t102 > 0
 ·rw [if_pos c4] at H
  have c4b0 : decide (0 < t102) = true := decide_eq_true c4
  clear c4
  obtain rfl := Option.some.inj H
  go_enter Try.func49, Try.ntmps49
  go_wp2_with (first | ((with_reducible refine gate_callee (f := 41) rfl ?_); refine goesXL_ (some 10) rfl rfl #[.int .u64 a0, .int .u64 a1, .int .u64 0] rfl (by (try simp only [List.map_toArray, List.map_cons, List.map_nil]); first | done | rfl | (simp only [List.length_drop, List.length_take]; rfl)) ?_; (with_reducible refine (bits_Add64.calls a0 a1 0 t101 t102 _ A3.out).mono ?_); rintro e w' ⟨rfl, ⟨nd, rfl⟩⟩; refine ⟨_, rfl, ?_⟩))
  go_ret
  exact ⟨by first | rfl | (simp; done) | (simp [*]; done), by repeat (first | exact Drawn0.refl _ | apply Drawn0.step)⟩
 ·rw [if_neg c4] at H
  have c4b0 : decide (0 < t102) = false := decide_eq_false c4
  clear c4
  obtain rfl := Option.some.inj H
  go_enter Try.func49, Try.ntmps49
  go_wp2_with (first | ((with_reducible refine gate_callee (f := 41) rfl ?_); refine goesXL_ (some 10) rfl rfl #[.int .u64 a0, .int .u64 a1, .int .u64 0] rfl (by (try simp only [List.map_toArray, List.map_cons, List.map_nil]); first | done | rfl | (simp only [List.length_drop, List.length_take]; rfl)) ?_; (with_reducible refine (bits_Add64.calls a0 a1 0 t101 t102 _ A3.out).mono ?_); rintro e w' ⟨rfl, ⟨nd, rfl⟩⟩; refine ⟨_, rfl, ?_⟩))
  go_ret
  exact ⟨by first | rfl | (simp; done) | (simp [*]; done), by repeat (first | exact Drawn0.refl _ | apply Drawn0.step)⟩

/-! ### tally_Add: function 22 -/
def tally_Add.f (a0_0 : Int) (a0_1 : Int) (a0_2 : Int) (a1_0 : Int) (a1_1 : Int) (a1_2 : Int) : Option (Int × Int × Int) := (tally_add.f a0_0 a1_0).bind fun t106 => ((tally_add.f a0_1 a1_1).bind fun t107 => ((tally_add.f a0_2 a1_2).bind fun t108 => (some (t106, t107, t108))))
def tally_Add.T1 : Bool × List (List Nat × List Nat) := (true, [([], []), ([0], [0]), ([], []), ([2], [2]), ([1, 3], [1, 3]), ([], []), ([5], [5]), ([], []), ([7], [7]), ([6, 8, 4], [6, 8]), ([], []), ([10], [10]), ([], []), ([12], [12]), ([11, 13, 9], [11, 13]), ([4, 9, 14], [4, 9, 14]), ([15, 14, 0, 1, 2, 3, 4, 5, 6, 7, 8, 9, 10, 11, 12, 13, 14, 15], [15])])
def tally_Add.B1 : List Nat := [0, 1, 0, 4, 15, 0, 32, 0, 128, 511, 0, 1024, 0, 4096, 16383, 32767, 65535]
theorem tally_Add.tab1 : rtab .any (opsOf Try.f22 1) = tally_Add.T1 := by kernel_rfl
theorem tally_Add.bits1 : waitsOk tally_Add.T1.2 tally_Add.B1 = true := by kernel_rfl
set_option maxHeartbeats 8000000 in
set_option maxRecDepth 100000 in
theorem tally_Add.calls (a0_0 : Int) (a0_1 : Int) (a0_2 : Int) (a1_0 : Int) (a1_1 : Int) (a1_2 : Int) (r1 : Int) (r2 : Int) (r3 : Int) (w : World) (h : tally_Add.f a0_0 a0_1 a0_2 a1_0 a1_1 a1_2 = some (r1, r2, r3)) :
  Calls Try.prog 22 #[.agg #[.int .u64 a0_0, .int .u64 a0_1, .int .u64 a0_2], .agg #[.int .u64 a1_0, .int .u64 a1_1, .int .u64 a1_2]] w fun e w' => e = .returned (.agg #[.int .u64 r1, .int .u64 r2, .int .u64 r3]) ∧ Below w.heap.size w w' := by
 have hu25 := Try.underlying25
 have HB := Aside0.mk (Below.refl w.heap.size w)
 have H : ((tally_add.f a0_0 a1_0).bind fun t106 => ((tally_add.f a0_1 a1_1).bind fun t107 => ((tally_add.f a0_2 a1_2).bind fun t108 => (some (t106, t107, t108))))) = some (r1, r2, r3) := h
 clear h
 have H0_ := bo_ H; clear H; obtain ⟨t106, A3, H⟩ := H0_
 replace H : ((tally_add.f a0_1 a1_1).bind fun t107 => ((tally_add.f a0_2 a1_2).bind fun t108 => (some (t106, t107, t108)))) = some (r1, r2, r3) := H
 have H0_ := bo_ H; clear H; obtain ⟨t107, A4, H⟩ := H0_
 replace H : ((tally_add.f a0_2 a1_2).bind fun t108 => (some (t106, t107, t108))) = some (r1, r2, r3) := H
 have H0_ := bo_ H; clear H; obtain ⟨t108, A5, H⟩ := H0_
 replace H : (some (t106, t107, t108)) = some (r1, r2, r3) := H
 simp only [Option.some.injEq, Prod.mk.injEq] at H
 obtain ⟨rfl, rfl, rfl⟩ := H
 go_enter Try.func22, Try.ntmps22
 try go_wp2_with (first | ((with_reducible refine gate_dst (N := 2) rfl ?_); refine bx_ #[.int .u64 a0_0, .int .u64 a0_1, .int .u64 a0_2] 25 ?_; intro gb103 hg w6 BK103 hb; have GW103 := bz_ w hg; replace HB := bs_ w hb; clear hb hg) | ((with_reducible refine gate_dst (N := 3) rfl ?_); refine bx_ #[.int .u64 a1_0, .int .u64 a1_1, .int .u64 a1_2] 25 ?_; intro gb104 hg w7 BK104 hb; have GW104 := bz_ w hg; have NB103_104 := bn_ BK103 hg; have NB104_103 := bm_ BK103 hg; replace BK103 := bb_ BK103 hb; replace HB := bs_ w hb; clear hb hg) | ((with_reducible refine gate_dst (N := 4) rfl ?_); refine bx_ #[.int .u64 0, .int .u64 0, .int .u64 0] 25 ?_; intro gb105 hg w8 BK105 hb; have GW105 := bz_ w hg; have NB103_105 := bn_ BK103 hg; have NB105_103 := bm_ BK103 hg; have NB104_105 := bn_ BK104 hg; have NB105_104 := bm_ BK104 hg; replace BK103 := bb_ BK103 hb; replace BK104 := bb_ BK104 hb; replace HB := bs_ w hb; clear hb hg))
 replace BK103 := Aside0.mk (blk_drew BK103.out)
 replace BK104 := Aside0.mk (blk_drew BK104.out)
 replace BK105 := Aside0.mk (blk_drew BK105.out)
 replace HB := Aside0.mk (below_drew1 HB.out)
 refine start_ (n := 17) (S := fun w' => w'.cell? ⟨gb103, 0, none⟩ = some (.int .u64 a0_0) ∧ w'.cell? ⟨gb103, 1, none⟩ = some (.int .u64 a0_1) ∧ w'.cell? ⟨gb103, 2, none⟩ = some (.int .u64 a0_2) ∧ w'.cell? ⟨gb104, 0, none⟩ = some (.int .u64 a1_0) ∧ w'.cell? ⟨gb104, 1, none⟩ = some (.int .u64 a1_1) ∧ w'.cell? ⟨gb104, 2, none⟩ = some (.int .u64 a1_2)) (ds := []) (bl_ 17 0) (by kernel_rfl) rfl (by kernel_rfl) ⟨(blk_cell BK103.out 0).trans rfl, (blk_cell BK103.out 1).trans rfl, (blk_cell BK103.out 2).trans rfl, (blk_cell BK104.out 0).trans rfl, (blk_cell BK104.out 1).trans rfl, (blk_cell BK104.out 2).trans rfl⟩ (fun hHeld => ?_); refine with_tabW tally_Add.tab1 tally_Add.bits1 (fun HT_ HW_ => ?_)
 generalize w8.drew = w9 at BK103 BK104 BK105 HB hHeld ⊢
 refine pa_ 0 (some 5) (bl_ 17 1) HT_ ?_
 refine pa_ 2 (some 7) (bl_ 17 5) HT_ ?_
 refine pa_ 5 (some 10) (bl_ 17 37) HT_ ?_
 refine pa_ 7 (some 12) (bl_ 17 165) HT_ ?_
 refine pa_ 10 (some 15) (bl_ 17 1189) HT_ ?_
 refine pa_ 12 (some 17) (bl_ 17 5285) HT_ ?_
 refine ta_ 1 (some 6) (bl_ 17 5287) HT_ HW_ hHeld ?_
 refine ta_ 3 (some 8) (bl_ 17 5295) HT_ HW_ hHeld ?_
 refine ta_ 6 (some 11) (bl_ 17 5359) HT_ HW_ hHeld ?_
 refine ta_ 8 (some 13) (bl_ 17 5615) HT_ HW_ hHeld ?_
 refine ta_ 11 (some 16) (bl_ 17 7663) HT_ HW_ hHeld ?_
 refine ta_ 13 (some 18) (bl_ 17 15855) HT_ HW_ hHeld ?_
 refine oa_ 4 (some 9) (bl_ 17 15871) HT_ fun K hK => ?_
 refine goesB_ Try.func49 #[.int .u64 a0_0, .int .u64 a1_0] ?_
 with_reducible refine (tally_add.calls a0_0 a1_0 t106 _ A3.out).mono ?_
 rintro e w' ⟨rfl, ⟨nd, rfl⟩⟩
 refine ⟨_, rfl, ?_⟩
 refine hK.out _ _ ⟨(blk_cell BK103.out 0).trans rfl, (blk_cell BK103.out 1).trans rfl, (blk_cell BK103.out 2).trans rfl, (blk_cell BK104.out 0).trans rfl, (blk_cell BK104.out 1).trans rfl, (blk_cell BK104.out 2).trans rfl⟩ (fun hHeld => ?_)
 clear hK K
 refine nm_ (some 9) ?_
 refine oa_ 9 (some 14) (bl_ 17 16383) HT_ fun K hK => ?_
 refine goesB_ Try.func49 #[.int .u64 a0_1, .int .u64 a1_1] ?_
 with_reducible refine (tally_add.calls a0_1 a1_1 t107 _ A4.out).mono ?_
 rintro e w' ⟨rfl, ⟨nd, rfl⟩⟩
 refine ⟨_, rfl, ?_⟩
 refine hK.out _ _ ⟨(blk_cell BK103.out 0).trans rfl, (blk_cell BK103.out 1).trans rfl, (blk_cell BK103.out 2).trans rfl, (blk_cell BK104.out 0).trans rfl, (blk_cell BK104.out 1).trans rfl, (blk_cell BK104.out 2).trans rfl⟩ (fun hHeld => ?_)
 clear hK K
 refine nm_ (some 14) ?_
 refine oa_ 14 (some 19) (bl_ 17 32767) HT_ fun K hK => ?_
 refine goesB_ Try.func49 #[.int .u64 a0_2, .int .u64 a1_2] ?_
 with_reducible refine (tally_add.calls a0_2 a1_2 t108 _ A5.out).mono ?_
 rintro e w' ⟨rfl, ⟨nd, rfl⟩⟩
 refine ⟨_, rfl, ?_⟩
 refine hK.out _ _ ⟨(blk_cell BK103.out 0).trans rfl, (blk_cell BK103.out 1).trans rfl, (blk_cell BK103.out 2).trans rfl, (blk_cell BK104.out 0).trans rfl, (blk_cell BK104.out 1).trans rfl, (blk_cell BK104.out 2).trans rfl⟩ (fun hHeld => ?_)
 clear hK K
 refine nm_ (some 19) ?_
 refine pa_ 15 (some 20) (bl_ 17 65535) HT_ ?_
 refine oa_ 16 none (bl_ 17 131071) HT_ fun K hK => ?_
 have hs10 : w9.cell? ⟨gb105, 0, none⟩ = some (.int .u64 0) := (blk_cell BK105.out 0).trans rfl
 have hfs10 := blk_frozen BK105.out 0
 have hns10_0 := NB103_105.out
 have hns10_1 := NB104_105.out
 have hms10_0 := NB105_103.out
 have hms10_1 := NB105_104.out
 have hs11 : w9.cell? ⟨gb105, 1, none⟩ = some (.int .u64 0) := (blk_cell BK105.out 1).trans rfl
 have hfs11 := blk_frozen BK105.out 1
 have hns11_0 := NB103_105.out
 have hns11_1 := NB104_105.out
 have hms11_0 := NB105_103.out
 have hms11_1 := NB105_104.out
 have hs12 : w9.cell? ⟨gb105, 2, none⟩ = some (.int .u64 0) := (blk_cell BK105.out 2).trans rfl
 have hfs12 := blk_frozen BK105.out 2
 have hns12_0 := NB103_105.out
 have hns12_1 := NB104_105.out
 have hms12_0 := NB105_103.out
 have hms12_1 := NB105_104.out
 refine sk_ ?_
 refine hK.out _ _ ⟨((cell_far (p := ⟨gb105, _, none⟩) NB103_105.out _).trans (((cell_far (p := ⟨gb105, _, none⟩) NB103_105.out _).trans (((cell_far (p := ⟨gb105, _, none⟩) NB103_105.out _).trans (hHeld.1)))))), ((cell_far (p := ⟨gb105, _, none⟩) NB103_105.out _).trans (((cell_far (p := ⟨gb105, _, none⟩) NB103_105.out _).trans (((cell_far (p := ⟨gb105, _, none⟩) NB103_105.out _).trans (hHeld.2.1)))))), ((cell_far (p := ⟨gb105, _, none⟩) NB103_105.out _).trans (((cell_far (p := ⟨gb105, _, none⟩) NB103_105.out _).trans (((cell_far (p := ⟨gb105, _, none⟩) NB103_105.out _).trans (hHeld.2.2.1)))))), ((cell_far (p := ⟨gb105, _, none⟩) NB104_105.out _).trans (((cell_far (p := ⟨gb105, _, none⟩) NB104_105.out _).trans (((cell_far (p := ⟨gb105, _, none⟩) NB104_105.out _).trans (hHeld.2.2.2.1)))))), ((cell_far (p := ⟨gb105, _, none⟩) NB104_105.out _).trans (((cell_far (p := ⟨gb105, _, none⟩) NB104_105.out _).trans (((cell_far (p := ⟨gb105, _, none⟩) NB104_105.out _).trans (hHeld.2.2.2.2.1)))))), ((cell_far (p := ⟨gb105, _, none⟩) NB104_105.out _).trans (((cell_far (p := ⟨gb105, _, none⟩) NB104_105.out _).trans (((cell_far (p := ⟨gb105, _, none⟩) NB104_105.out _).trans (hHeld.2.2.2.2.2))))))⟩ (fun hHeld => ?_)
 clear hK K
 refine done_ (done_of HT_.out (by kernel_rfl)) ?_
 try go_wp2
 refine bodyPost_ret (results_cell_row rfl _ _ gb105 25 #[.int .u64 t106, .int .u64 t107, .int .u64 t108] (0, 0) _ rfl (bp3_ (bq_ BK105)) Try.underlying25 rfl (by kernel_rfl)) rfl ?_
 exact fi_

end Go.Proofs.Ytcdmjdghmbdikaa.X
