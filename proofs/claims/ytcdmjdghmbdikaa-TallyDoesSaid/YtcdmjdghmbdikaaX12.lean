-- written by xprint.py, a program of this session over the kit's print
import Derived.Test.YtcdmjdghmbdikaaX0
import Derived.Test.YtcdmjdghmbdikaaX1
import Derived.Test.YtcdmjdghmbdikaaX4
import Derived.Test.YtcdmjdghmbdikaaX11
namespace Go.Proofs.Ytcdmjdghmbdikaa.X
open Go.RowKit Go.Proofs.YtcdmjdghmbdikaaW.PrintWords Go.Proofs.YtcdmjdghmbdikaaW.PrintLast Go.Proofs.YtcdmjdghmbdikaaW.PrintMore
attribute [local go_sem] max2_int min2_int max_two min_two max_three min_three max_four min_four   -- for this text's walks alone
set_option linter.unusedVariables false
set_option linter.unusedSimpArgs false

attribute [local go_sem high] eqA25
/-! ### tally_Count: function 20 -/
def tally_Count.f (a0_0 : Int) (a0_1 : Int) (a0_2 : Int) (a1 : Bool) (a2 : Int) : Option (Int × Int × Int) := if a1 = true then ((tally_add.f a0_0 1).bind fun t165 => ((tally_add.f a0_2 (IntKind.u64.wrap (a2))).bind fun t166 => (some (t165, a0_1, t166)))) else ((tally_add.f a0_1 1).bind fun t167 => (some (a0_0, t167, a0_2)))
def tally_Count.T4 : Bool × List (List Nat × List Nat) := (true, [([], []), ([0], [0]), ([1], [1]), ([], []), ([3], [3]), ([], []), ([5], [5]), ([4, 6, 2], [4, 6]), ([0, 1, 2, 3, 4], []), ([8, 2, 7, 0, 1, 2, 3, 4], [2, 8]), ([0, 1, 2, 3, 4, 5, 6, 7, 8, 9], []), ([10, 7, 9, 0, 1, 2, 3, 4, 5, 6, 7, 8, 9], [7, 10])])
def tally_Count.B4 : List Nat := [0, 1, 3, 0, 8, 0, 32, 127, 31, 511, 1023, 2047]
theorem tally_Count.tab4 : rtab .any (opsOf Try.f20 4) = tally_Count.T4 := by kernel_rfl
theorem tally_Count.bits4 : waitsOk tally_Count.T4.2 tally_Count.B4 = true := by kernel_rfl
set_option maxHeartbeats 8000000 in
set_option maxRecDepth 100000 in
theorem tally_Count.calls (a0_0 : Int) (a0_1 : Int) (a0_2 : Int) (a1 : Bool) (a2 : Int) (r1 : Int) (r2 : Int) (r3 : Int) (w : World) (h : tally_Count.f a0_0 a0_1 a0_2 a1 a2 = some (r1, r2, r3)) :
  Calls Try.prog 20 #[.agg #[.int .u64 a0_0, .int .u64 a0_1, .int .u64 a0_2], .bool a1, .int .u32 a2] w fun e w' => e = .returned (.agg #[.int .u64 r1, .int .u64 r2, .int .u64 r3]) ∧ Below w.heap.size w w' := by
 have hu25 := Try.underlying25
 have HB := Aside0.mk (Below.refl w.heap.size w)
 have H : (if a1 = true then ((tally_add.f a0_0 1).bind fun t165 => ((tally_add.f a0_2 (IntKind.u64.wrap (a2))).bind fun t166 => (some (t165, a0_1, t166)))) else ((tally_add.f a0_1 1).bind fun t167 => (some (a0_0, t167, a0_2)))) = some (r1, r2, r3) := h
 clear h
 by_cases c4 : a1 = true
 ·subst c4
  rw [if_pos rfl] at H
  try dsimp only at H
  have H0_ := bo_ H; clear H; obtain ⟨t165, A5, H⟩ := H0_
  replace H : ((tally_add.f a0_2 (IntKind.u64.wrap (a2))).bind fun t166 => (some (t165, a0_1, t166))) = some (r1, r2, r3) := H
  have H0_ := bo_ H; clear H; obtain ⟨t166, A6, H⟩ := H0_
  replace H : (some (t165, a0_1, t166)) = some (r1, r2, r3) := H
  simp only [Option.some.injEq, Prod.mk.injEq] at H
  obtain ⟨rfl, rfl, rfl⟩ := H
  go_enter Try.func20, Try.ntmps20
  try go_wp2_with (first | ((with_reducible refine gate_dst (N := 3) rfl ?_); refine bx_ #[.int .u64 a0_0, .int .u64 a0_1, .int .u64 a0_2] 25 ?_; intro gb163 hg w7 BK163 hb; have GW163 := bz_ w hg; have GE163 := GW163; replace HB := bs_ w hb; clear hb hg) | ((with_reducible refine gate_dst (N := 6) rfl ?_); refine bx_ #[.int .u64 0, .int .u64 0, .int .u64 0] 25 ?_; intro gb164 hg w8 BK164 hb; have GW164 := bz_ w hg; have GE164 := GW164; have NB163_164 := bn_ BK163 hg; have NB164_163 := bm_ BK163 hg; replace BK163 := bb_ BK163 hb; replace HB := bs_ w hb; clear hb hg))
  replace BK163 := Aside0.mk (blk_drew BK163.out)
  replace BK164 := Aside0.mk (blk_drew BK164.out)
  replace HB := Aside0.mk (below_drew1 HB.out)
  refine start_ (n := 12) (S := fun w' => w'.cell? ⟨gb163, 0, none⟩ = some (.int .u64 a0_0) ∧ w'.cell? ⟨gb163, 1, none⟩ = some (.int .u64 a0_1) ∧ w'.cell? ⟨gb163, 2, none⟩ = some (.int .u64 a0_2)) (ds := [9, 11]) (bl_ 12 0) (by kernel_rfl) rfl (by kernel_rfl) (cc3_ BK163) (fun hHeld => ?_); refine with_tabW tally_Count.tab4 tally_Count.bits4 (fun HT_ HW_ => ?_)
  generalize w8.drew = w9 at BK163 BK164 HB hHeld ⊢
  refine pa_ 0 (some 14) (bl_ 12 1) HT_ ?_
  refine pa_ 3 (some 17) (bl_ 12 9) HT_ ?_
  refine pa_ 5 (some 19) (bl_ 12 41) HT_ ?_
  refine pa_ 6 (some 20) (bl_ 12 105) HT_ ?_
  refine ta_ 1 (some 15) (bl_ 12 107) HT_ HW_ hHeld ?_
  refine ta_ 4 (some 18) (bl_ 12 123) HT_ HW_ hHeld ?_
  refine oa_ 2 (some 16) (bl_ 12 127) HT_ fun K hK => ?_
  refine goesB_ Try.func49 #[.int .u64 a0_0, .int .u64 1] ?_
  with_reducible refine (tally_add.calls a0_0 1 t165 _ A5.out).mono ?_
  rintro e w' ⟨rfl, ⟨nd, rfl⟩⟩
  refine ⟨_, rfl, ?_⟩
  refine hK.out _ _ (cc3_ BK163) (fun hHeld => ?_)
  clear hK K
  refine nm_ (some 16) ?_
  refine pa_ 8 (some 22) (bl_ 12 383) HT_ ?_
  refine oa_ 7 (some 21) (bl_ 12 511) HT_ fun K hK => ?_
  refine goesB_ Try.func49 #[.int .u64 a0_2, .int .u64 (IntKind.u64.wrap (a2))] ?_
  with_reducible refine (tally_add.calls a0_2 (IntKind.u64.wrap (a2)) t166 _ A6.out).mono ?_
  rintro e w' ⟨rfl, ⟨nd, rfl⟩⟩
  refine ⟨_, rfl, ?_⟩
  refine hK.out _ _ (cc3_ BK163) (fun hHeld => ?_)
  clear hK K
  refine nm_ (some 21) ?_
  refine last_ (i := 9) (N := none) (bl_ 12 1023) rfl rfl (one_of HT_.out (by kernel_rfl)) (by decide) (fun K hK => ?_)
  have hs10 : w9.cell? ⟨gb163, 0, none⟩ = some (.int .u64 a0_0) := (blk_cell BK163.out 0).trans rfl
  have hfs10 := blk_frozen BK163.out 0
  have hns10_1 := NB164_163.out
  have hms10_1 := NB163_164.out
  refine sk_ ?_
  refine hK.out _ _ ?_
  clear hK K
  refine pa_ 10 (some 23) (bl_ 12 2047) HT_ ?_
  refine last_ (i := 11) (N := none) (bl_ 12 4095) rfl rfl (one_of HT_.out (by kernel_rfl)) (by decide) (fun K hK => ?_)
  have hs11 : w9.cell? ⟨gb163, 2, none⟩ = some (.int .u64 a0_2) := (blk_cell BK163.out 2).trans rfl
  have hfs11 := blk_frozen BK163.out 2
  have hns11_1 := NB164_163.out
  have hms11_1 := NB163_164.out
  refine sk_ ?_
  refine hK.out _ _ ?_
  clear hK K
  refine done_ (done_of HT_.out (by kernel_rfl)) ?_
  replace hn163_164 := NB163_164.out
  replace hn164_163 := NB164_163.out
  replace hc163 := ce3_ BK163
  replace hc164 := ce3_ BK164
  try go_wp2
  refine bodyPost_ret (results_cell_row rfl _ _ gb164 25 #[.int .u64 t165, .int .u64 a0_1, .int .u64 t166] (0, 0) _ rfl (bp3_ (bt_ BK164)) Try.underlying25 rfl (by kernel_rfl)) rfl ?_
  exact fi_
 ·replace c4 := Bool.eq_false_iff.mpr c4
  subst c4
  rw [if_neg (show ¬ (false = true) by decide)] at H
  try dsimp only at H
  have H0_ := bo_ H; clear H; obtain ⟨t167, A15, H⟩ := H0_
  replace H : (some (a0_0, t167, a0_2)) = some (r1, r2, r3) := H
  simp only [Option.some.injEq, Prod.mk.injEq] at H
  obtain ⟨rfl, rfl, rfl⟩ := H
  go_enter Try.func20, Try.ntmps20
  go_wp2_with (first | ((with_reducible refine gate_dst (N := 3) rfl ?_); refine bx_ #[.int .u64 a0_0, .int .u64 a0_1, .int .u64 a0_2] 25 ?_; intro gb163 hg w16 BK163 hb; have GW163 := bz_ w hg; have GE163 := GW163; replace HB := bs_ w hb; clear hb hg) | ((with_reducible refine gate_dst (N := 6) rfl ?_); refine bx_ #[.int .u64 0, .int .u64 0, .int .u64 0] 25 ?_; intro gb164 hg w17 BK164 hb; have GW164 := bz_ w hg; have GE164 := GW164; have NB163_164 := bn_ BK163 hg; have NB164_163 := bm_ BK163 hg; replace BK163 := bb_ BK163 hb; replace HB := bs_ w hb; clear hb hg; replace hn163_164 := NB163_164.out; replace hn164_163 := NB164_163.out; replace hc163 := ce3_ BK163) | ((with_reducible refine gate_callee (f := 49) rfl ?_); refine goesA_ (some 11) Try.func49 #[.int .u64 a0_1, .int .u64 1] ?_; (with_reducible refine (tally_add.calls a0_1 1 t167 _ A15.out).mono ?_); rintro e w' ⟨rfl, ⟨nd, rfl⟩⟩; refine ⟨_, rfl, ?_⟩; (try ((first | generalize hq_ : World.drewN w17 _ = w17 | (rw [drewN_self w17]; generalize hq_ : World.drewN w17 _ = w17)); replace BK163 : Aside0 (w17.heap[gb163]? = some (.cells #[.int .u64 a0_0, .int .u64 a0_1, .int .u64 a0_2] 25 (0, 0))) := ⟨by rw [← hq_]; exact (bq_ BK163)⟩; replace BK164 : Aside0 (w17.heap[gb164]? = some (.cells #[.int .u64 0, .int .u64 0, .int .u64 0] 25 (0, 0))) := ⟨by rw [← hq_]; exact (bq_ BK164)⟩; replace HB : Aside0 (Below w.heap.size w w17) := ⟨by rw [← hq_]; exact bh_⟩; clear hq_)); replace hc163 := ce3_ BK163; replace hc164 := ce3_ BK164))
  refine bodyPost_ret (results_cell_row rfl _ _ gb164 25 #[.int .u64 a0_0, .int .u64 t167, .int .u64 a0_2] (0, 0) _ rfl (bp3_ (bt_ BK164)) Try.underlying25 rfl (by kernel_rfl)) rfl ?_
  exact fi_

/-! ### spigotlaw21_alive: function 17 -/
def spigotlaw21_alive.f (k : Nat)  : Option (Bool) := (tally_Count.f 0 0 0 true 2).bind fun bt168 => ((tally_Count.f bt168.1 bt168.2.1 bt168.2.2 true 0).bind fun bt171 => ((tally_Count.f bt171.1 bt171.2.1 bt171.2.2 false 9).bind fun bt174 => ((tally_Count.f bt174.1 bt174.2.1 bt174.2.2 true 5).bind fun bt177 => ((tally_Share.f k bt177.1 bt177.2.1 bt177.2.2 100).bind fun bt181 => ((tally_Count.f 0 0 18446744073709551613 true 5).bind fun bt183 => (if (bt177.1 == 3 && (bt177.2.1 == 1 && (bt177.2.2 == 7))) = true then (if bt181.2 = 0 then (if bt181.1 = 75 then (some (bt183.1 == 1 && (bt183.2.1 == 0 && (bt183.2.2 == 18446744073709551615)))) else (none)) else (none)) else (none)))))))
theorem spigotlaw21_alive.mono : ∀ k, LeO (spigotlaw21_alive.f k ) (spigotlaw21_alive.f (k + 1) ) := by
  intro  k
  unfold spigotlaw21_alive.f
  repeat' first
      | (with_reducible exact tally_Share.mono _ _ _ _ _)
      | (with_reducible exact LeO.refl _)
      | (with_reducible exact LeO.none _)
      | (with_reducible refine LeO.ite ?_ ?_)
      | (with_reducible refine LeO.bind ?_ (fun _ => ?_))
      | exact tally_Share.mono _ _ _ _ _
      | exact LeO.none _
      | refine LeO.ite ?_ ?_
      | refine LeO.bind ?_ (fun _ => ?_)
set_option maxHeartbeats 8000000 in
set_option maxRecDepth 100000 in
theorem spigotlaw21_alive.calls (k : Nat)  (r : Bool) (w : World) (h : spigotlaw21_alive.f k  = some r) :
  Calls Try.prog 17 #[] w fun e w' => e = .returned (.bool r) ∧ Below w.heap.size w w' := by
 have hu25 := Try.underlying25
 have HB := Aside0.mk (Below.refl w.heap.size w)
 have H : ((tally_Count.f 0 0 0 true 2).bind fun bt168 => ((tally_Count.f bt168.1 bt168.2.1 bt168.2.2 true 0).bind fun bt171 => ((tally_Count.f bt171.1 bt171.2.1 bt171.2.2 false 9).bind fun bt174 => ((tally_Count.f bt174.1 bt174.2.1 bt174.2.2 true 5).bind fun bt177 => ((tally_Share.f k bt177.1 bt177.2.1 bt177.2.2 100).bind fun bt181 => ((tally_Count.f 0 0 18446744073709551613 true 5).bind fun bt183 => (if (bt177.1 == 3 && (bt177.2.1 == 1 && (bt177.2.2 == 7))) = true then (if bt181.2 = 0 then (if bt181.1 = 75 then (some (bt183.1 == 1 && (bt183.2.1 == 0 && (bt183.2.2 == 18446744073709551615)))) else (none)) else (none)) else (none)))))))) = some r := h
 clear h
 have H0_ := bo_ H; clear H; obtain ⟨⟨t168, t169, t170⟩, A1, H⟩ := H0_
 try dsimp only at H
 have H0_ := bo_ H; clear H; obtain ⟨⟨t171, t172, t173⟩, A2, H⟩ := H0_
 try dsimp only at H
 have H0_ := bo_ H; clear H; obtain ⟨⟨t174, t175, t176⟩, A3, H⟩ := H0_
 try dsimp only at H
 have H0_ := bo_ H; clear H; obtain ⟨⟨t177, t178, t179⟩, A4, H⟩ := H0_
 try dsimp only at H
 have H0_ := bo_ H; clear H; obtain ⟨⟨t181, t182⟩, A5, H⟩ := H0_
 try dsimp only at H
 have H0_ := bo_ H; clear H; obtain ⟨⟨t183, t184, t185⟩, A6, H⟩ := H0_
 try dsimp only at H
 by_cases c7 : (t177 == 3 && (t178 == 1 && (t179 == 7))) = true
 rotate_left
 ·rw [if_neg c7] at H; exact absurd H (by simp)
 rw [if_pos c7] at H
 have c7b0 : (t177 == 3 && (t178 == 1 && (t179 == 7))) = true := c7
 (try (have c7b1 : decide (t177 = 3 && (t178 == 1 && (t179 == 7))) = true := by simpa using c7))
 (try (have c7b2 : (t177 == 3 && (t178 == 1 && (t179 == 7))) = true := by simpa using c7))
 clear c7
 obtain ⟨c8b0, c8b1, H⟩ := ct_ H
 obtain ⟨c9b0, c9b1, H⟩ := ct_ H
 obtain rfl := Option.some.inj H
 go_enter Try.func17, Try.ntmps17
 go_wp2_with (first | ((with_reducible refine gate_callee (f := 20) rfl ?_); (try refine ug_ (by rfl) ?_); refine goesA_ (some 6) Try.func20 #[.agg #[.int .u64 0, .int .u64 0, .int .u64 0], .bool true, .int .u32 2] ?_; (with_reducible refine (tally_Count.calls 0 0 0 true 2 t168 t169 t170 _ A1.out).mono ?_); rintro e w10 ⟨rfl, hb⟩; refine ⟨_, rfl, ?_⟩; replace HB := bs_ w hb; clear hb) | ((with_reducible refine gate_callee (f := 20) rfl ?_); (try refine ug_ (by rfl) ?_); refine goesA_ (some 7) Try.func20 #[.agg #[.int .u64 t168, .int .u64 t169, .int .u64 t170], .bool true, .int .u32 0] ?_; (with_reducible refine (tally_Count.calls t168 t169 t170 true 0 t171 t172 t173 _ A2.out).mono ?_); rintro e w11 ⟨rfl, hb⟩; refine ⟨_, rfl, ?_⟩; replace HB := bs_ w hb; clear hb) | ((with_reducible refine gate_callee (f := 20) rfl ?_); (try refine ug_ (by rfl) ?_); refine goesA_ (some 8) Try.func20 #[.agg #[.int .u64 t171, .int .u64 t172, .int .u64 t173], .bool false, .int .u32 9] ?_; (with_reducible refine (tally_Count.calls t171 t172 t173 false 9 t174 t175 t176 _ A3.out).mono ?_); rintro e w12 ⟨rfl, hb⟩; refine ⟨_, rfl, ?_⟩; replace HB := bs_ w hb; clear hb) | ((with_reducible refine gate_callee (f := 20) rfl ?_); (try refine ug_ (by rfl) ?_); refine goesA_ (some 9) Try.func20 #[.agg #[.int .u64 t174, .int .u64 t175, .int .u64 t176], .bool true, .int .u32 5] ?_; (with_reducible refine (tally_Count.calls t174 t175 t176 true 5 t177 t178 t179 _ A4.out).mono ?_); rintro e w13 ⟨rfl, hb⟩; refine ⟨_, rfl, ?_⟩; replace HB := bs_ w hb; clear hb) | ((with_reducible refine gate_dst (N := 1) rfl ?_); (try refine ug_ (by rfl) ?_); refine bx_ #[.int .u64 0, .int .u64 0, .int .u64 0] 25 ?_; intro gb180 hg w14 BK180 hb; have GW180 := bz_ w hg; replace HB := bs_ w hb; clear hb hg; replace hc180 := ce3_ BK180) | ((with_reducible refine gate_callee (f := 18) rfl ?_); (try refine ug_ (by rfl) ?_); refine goesA_ (some 12) Try.func18 #[.agg #[.int .u64 t177, .int .u64 t178, .int .u64 t179], .int .u64 100] ?_; (with_reducible refine (tally_Share.calls k t177 t178 t179 100 t181 t182 _ A5.out).mono ?_); rintro e w16 ⟨rfl, hb⟩; refine ⟨_, rfl, ?_⟩; replace BK180 := Aside0.mk (blk_below (g := gb180) (o := .cells #[.int .u64 t177, .int .u64 t178, .int .u64 t179] 25 (0, 0)) (bp3_ (bq_ BK180)) hb); replace HB := bs_ w hb; clear hb) | ((with_reducible refine gate_callee (f := 20) rfl ?_); (try refine ug_ (by rfl) ?_); refine goesA_ (some 16) Try.func20 #[.agg #[.int .u64 0, .int .u64 0, .int .u64 18446744073709551613], .bool true, .int .u32 5] ?_; (with_reducible refine (tally_Count.calls 0 0 18446744073709551613 true 5 t183 t184 t185 _ A6.out).mono ?_); rintro e w17 ⟨rfl, hb⟩; refine ⟨_, rfl, ?_⟩; replace BK180 := bb_ BK180 hb; replace HB := bs_ w hb; clear hb) | ((with_reducible refine gate_dst (N := 4) rfl ?_); (try refine ug_ (by rfl) ?_); refine bx_ #[.int .u64 0, .int .u64 0, .int .u64 0] 25 ?_; intro gb186 hg w18 BK186 hb; have GW186 := bz_ w hg; have NB180_186 := bn_ BK180 hg; have NB186_180 := bm_ BK180 hg; replace BK180 := bb_ BK180 hb; replace HB := bs_ w hb; clear hb hg; replace hn186_180 := NB186_180.out; replace hn180_186 := NB180_186.out; replace hc186 := ce3_ BK186; replace hc180 := ce3_ BK180))
 go_ret
 exact fi_

end Go.Proofs.Ytcdmjdghmbdikaa.X
