-- written by xprint.py, a program of this session over the kit's print
import Derived.Test.YtnijohomnajngaaX0
import Derived.Test.YtnijohomnajngaaX5
import Derived.Test.YtnijohomnajngaaX7
namespace Go.Proofs.Ytnijohomnajngaa.X
open Go.RowKit Go.Proofs.YtnijohomnajngaaW.PrintWords Go.Proofs.YtnijohomnajngaaW.PrintLast Go.Proofs.YtnijohomnajngaaW.PrintMore
attribute [local go_sem] max2_int min2_int max_two min_two max_three min_three max_four min_four   -- for this text's walks alone
set_option linter.unusedVariables false
set_option linter.unusedSimpArgs false

/-! ### gcra_end: function 35 -/
def gcra_end.f (a0_0 : Int) (a0_1 : Int) (a0_2 : Int) (a1 : Int) : Option (Int × Int × Int) := (gcra_at.f a0_0 a0_1 a0_2 a1).bind fun bt140 => ((gcra_tokens.f a0_0 a0_1 a0_2 a0_0).bind fun bt142 => ((wide_Add.f bt140.1 bt140.2 bt142.1 bt142.2).bind fun bt144 => (some (bt144.1, bt144.2.1, bt144.2.2))))
def gcra_end.T1 : Bool × List (List Nat × List Nat) := (true, [([], []), ([], []), ([0, 1], [0, 1]), ([], []), ([], []), ([4], [4]), ([3, 5, 2], [3, 5]), ([2, 6, 6], [2, 6]), ([7], [7]), ([7], [7]), ([8, 7, 0, 1, 2, 3, 4, 5, 6, 7, 8, 9], [8]), ([9, 10, 0, 1, 2, 3, 4, 5, 6, 7, 8, 9, 10], [9])])
def gcra_end.B1 : List Nat := [0, 0, 3, 0, 0, 16, 63, 127, 255, 255, 1023, 2047]
theorem gcra_end.tab1 : rtab .any (opsOf Try.f35 1) = gcra_end.T1 := by kernel_rfl
theorem gcra_end.bits1 : waitsOk gcra_end.T1.2 gcra_end.B1 = true := by kernel_rfl
set_option maxHeartbeats 8000000 in
set_option maxRecDepth 100000 in
theorem gcra_end.calls (a0_0 : Int) (a0_1 : Int) (a0_2 : Int) (a1 : Int) (r1 : Int) (r2 : Int) (r3 : Int) (w : World) (h : gcra_end.f a0_0 a0_1 a0_2 a1 = some (r1, r2, r3)) :
  Calls Try.prog 35 #[.agg #[.int .i64 a0_0, .int .i64 a0_1, .int .i64 a0_2], .int .u64 a1] w fun e w' => e = .returned (.tuple #[.agg #[.int .u64 r1, .int .u64 r2], .int .i64 r3]) ∧ Below w.heap.size w w' := by
 have hu23 := Try.underlying23
 have hu26 := Try.underlying26
 have HB := Aside0.mk (Below.refl w.heap.size w)
 have H : ((gcra_at.f a0_0 a0_1 a0_2 a1).bind fun bt140 => ((gcra_tokens.f a0_0 a0_1 a0_2 a0_0).bind fun bt142 => ((wide_Add.f bt140.1 bt140.2 bt142.1 bt142.2).bind fun bt144 => (some (bt144.1, bt144.2.1, bt144.2.2))))) = some (r1, r2, r3) := h
 clear h
 have H0_ := bo_ H; clear H; obtain ⟨⟨t140, t141⟩, A3, H⟩ := H0_
 try dsimp only at H
 have H0_ := bo_ H; clear H; obtain ⟨⟨t142, t143⟩, A4, H⟩ := H0_
 replace H : ((wide_Add.f t140 t141 t142 t143).bind fun bt144 => (some (bt144.1, bt144.2.1, bt144.2.2))) = some (r1, r2, r3) := H
 have H0_ := bo_ H; clear H; obtain ⟨⟨t144, t145, t146⟩, A5, H⟩ := H0_
 replace H : (some (t144, t145, t146)) = some (r1, r2, r3) := H
 simp only [Option.some.injEq, Prod.mk.injEq] at H
 obtain ⟨rfl, rfl, rfl⟩ := H
 go_enter Try.func35, Try.ntmps35
 try go_wp2_with (first | ((with_reducible refine gate_dst (N := 2) rfl ?_); refine bx_ #[.int .i64 a0_0, .int .i64 a0_1, .int .i64 a0_2] 23 ?_; intro gb138 hg w6 BK138 hb; have GW138 := bz_ w hg; replace HB := bs_ w hb; clear hb hg) | ((with_reducible refine gate_dst (N := 4) rfl ?_); refine bx_ #[.int .u64 0, .int .u64 0] 26 ?_; intro gb139 hg w7 BK139 hb; have GW139 := bz_ w hg; have NB138_139 := bn_ BK138 hg; have NB139_138 := bm_ BK138 hg; replace BK138 := bb_ BK138 hb; replace HB := bs_ w hb; clear hb hg))
 replace BK138 := Aside0.mk (blk_drew BK138.out)
 replace BK139 := Aside0.mk (blk_drew BK139.out)
 replace HB := Aside0.mk (below_drew1 HB.out)
 refine start_ (n := 12) (S := fun w' => w'.cell? ⟨gb138, 0, none⟩ = some (.int .i64 a0_0) ∧ w'.cell? ⟨gb138, 1, none⟩ = some (.int .i64 a0_1) ∧ w'.cell? ⟨gb138, 2, none⟩ = some (.int .i64 a0_2)) (ds := []) (bl_ 12 0) (by kernel_rfl) rfl (by kernel_rfl) (cc3_ BK138) (fun hHeld => ?_); refine with_tabW gcra_end.tab1 gcra_end.bits1 (fun HT_ HW_ => ?_)
 generalize w7.drew = w8 at BK138 BK139 HB hHeld ⊢
 refine pa_ 1 (some 7) (bl_ 12 2) HT_ ?_
 refine pa_ 4 (some 10) (bl_ 12 18) HT_ ?_
 refine ta_ 0 (some 6) (bl_ 12 19) HT_ HW_ hHeld ?_
 refine ta_ 3 (some 9) (bl_ 12 27) HT_ HW_ hHeld ?_
 refine ta_ 5 (some 11) (bl_ 12 59) HT_ HW_ hHeld ?_
 refine oa_ 2 (some 8) (bl_ 12 63) HT_ fun K hK => ?_
 refine goesB_ Try.func31 #[.agg #[.int .i64 a0_0, .int .i64 a0_1, .int .i64 a0_2], .int .u64 a1] ?_
 with_reducible refine (gcra_at.calls a0_0 a0_1 a0_2 a1 t140 t141 _ A3.out).mono ?_
 rintro e w9 ⟨rfl, hb⟩
 refine ⟨_, rfl, ?_⟩
 replace BK138 := bb_ BK138 hb
 replace BK139 := bb_ BK139 hb
 replace HB := bs_ w hb
 clear hb
 refine hK.out _ _ (cc3_ BK138) (fun hHeld => ?_)
 clear hK K
 refine nm_ (some 8) ?_
 refine oa_ 6 (some 12) (bl_ 12 127) HT_ fun K hK => ?_
 refine goesB_ Try.func36 #[.agg #[.int .i64 a0_0, .int .i64 a0_1, .int .i64 a0_2], .int .i64 a0_0] ?_
 with_reducible refine (gcra_tokens.calls a0_0 a0_1 a0_2 a0_0 t142 t143 _ A4.out).mono ?_
 rintro e w10 ⟨rfl, hb⟩
 refine ⟨_, rfl, ?_⟩
 replace BK138 := bb_ BK138 hb
 replace BK139 := bb_ BK139 hb
 replace HB := bs_ w hb
 clear hb
 refine hK.out _ _ (cc3_ BK138) (fun hHeld => ?_)
 clear hK K
 refine nm_ (some 12) ?_
 refine oa_ 7 (some 13) (bl_ 12 255) HT_ fun K hK => ?_
 refine goesB_ Try.func48 #[.agg #[.int .u64 t140, .int .u64 t141], .agg #[.int .u64 t142, .int .u64 t143]] ?_
 with_reducible refine (wide_Add.calls t140 t141 t142 t143 t144 t145 t146 _ A5.out).mono ?_
 rintro e w11 ⟨rfl, hb⟩
 refine ⟨_, rfl, ?_⟩
 replace BK138 := bb_ BK138 hb
 replace BK139 := bb_ BK139 hb
 replace HB := bs_ w hb
 clear hb
 refine hK.out _ _ (cc3_ BK138) (fun hHeld => ?_)
 clear hK K
 refine nm_ (some 13) ?_
 refine pa_ 8 (some 14) (bl_ 12 511) HT_ ?_
 refine pa_ 9 (some 15) (bl_ 12 1023) HT_ ?_
 refine oa_ 10 none (bl_ 12 2047) HT_ fun K hK => ?_
 have hs12 : w11.cell? ⟨gb139, 0, none⟩ = some (.int .u64 0) := (blk_cell BK139.out 0).trans rfl
 have hfs12 := blk_frozen BK139.out 0
 have hns12_0 := NB138_139.out
 have hms12_0 := NB139_138.out
 have hs13 : w11.cell? ⟨gb139, 1, none⟩ = some (.int .u64 0) := (blk_cell BK139.out 1).trans rfl
 have hfs13 := blk_frozen BK139.out 1
 have hns13_0 := NB138_139.out
 have hms13_0 := NB139_138.out
 refine sk_ ?_
 refine hK.out _ _ (cf3_ hHeld) (fun hHeld => ?_)
 clear hK K
 refine pa_ 11 (some 5) (bl_ 12 4095) HT_ ?_
 refine done_ (done_of HT_.out (by kernel_rfl)) ?_
 try go_wp2
 refine bodyPost_ret (results_ct rfl _ _ gb139 26 #[.int .u64 t144, .int .u64 t145] (0, 0) _ rfl (bp2_ (bq_ BK139)) Try.underlying26 rfl (by kernel_rfl)) rfl ?_
 exact fi_

/-! ### wide_Of: function 37 -/
def wide_Of.f (a0 : Int) : Option (Int × Int) := some (0, a0)
set_option maxHeartbeats 8000000 in
set_option maxRecDepth 100000 in
theorem wide_Of.calls (a0 : Int) (r1 : Int) (r2 : Int) (w : World) (h : wide_Of.f a0 = some (r1, r2)) :
  Calls Try.prog 37 #[.int .u64 a0] w fun e w' => e = .returned (.agg #[.int .u64 r1, .int .u64 r2]) ∧ Below w.heap.size w w' := by
 have hu26 := Try.underlying26
 have HB := Aside0.mk (Below.refl w.heap.size w)
 have H : (some (0, a0)) = some (r1, r2) := h
 clear h
 simp only [Option.some.injEq, Prod.mk.injEq] at H
 obtain ⟨rfl, rfl⟩ := H
 go_enter Try.func37, Try.ntmps37
 go_wp2_with (first | ((with_reducible refine gate_dst (N := 2) rfl ?_); refine bx_ #[.int .u64 0, .int .u64 0] 26 ?_; intro gb147 hg w2 BK147 hb; have GW147 := bz_ w hg; replace HB := bs_ w hb; clear hb hg; replace hc147 := ce2_ BK147))
 refine bodyPost_ret (results_cell_row rfl _ _ gb147 26 #[.int .u64 0, .int .u64 a0] (0, 0) _ rfl (bp2_ (bq_ BK147)) Try.underlying26 rfl (by kernel_rfl)) rfl ?_
 exact fi_

/-! ### bits_Sub64: function 57 -/
def bits_Sub64.f (a0 : Int) (a1 : Int) (a2 : Int) : Option (Int × Int) := if 0 ≤ a0 ∧ 0 ≤ a1 ∧ a1 < 18446744073709551616 ∧ 0 ≤ a2 ∧ a2 ≤ 1 then some ((a0 - a1 - a2) % 18446744073709551616, if a0 < a1 + a2 then 1 else 0) else none
def bits_Sub64.entry : Array Value → Sem Value := fun args => do
  let (x, y, b) ← Extern.MathBitsCarry.three "Sub64" args
  pure (Extern.MathBitsCarry.pair ((x + Extern.MathBitsCarry.m64 - y - b) % Extern.MathBitsCarry.m64) (if x < y + b then 1 else 0))
theorem bits_Sub64.run (x y b : Nat) (hb : b ≤ 1) (w : World) :
    (bits_Sub64.entry #[.int .u64 x, .int .u64 y, .int .u64 b]).run Try.prog w =
      .ok (.tuple #[.int .u64 (((x + 18446744073709551616 - y - b) % 18446744073709551616 : Nat) : Int), .int .u64 ((if x < y + b then 1 else 0 : Nat) : Int)]) w := by
  have : b = 0 ∨ b = 1 := by omega
  rcases this with rfl | rfl <;> rfl
theorem bits_Sub64.calls (a0 : Int) (a1 : Int) (a2 : Int) (r1 : Int) (r2 : Int) (w : World) (h : bits_Sub64.f a0 a1 a2 = some (r1, r2)) :
    CallsX Try.prog 57 #[.int .u64 a0, .int .u64 a1, .int .u64 a2] w fun e w' => e = .returned (.tuple #[.int .u64 r1, .int .u64 r2]) ∧ Drawn0 w w' := by
  unfold bits_Sub64.f at h
  split at h
  case isFalse => cases h
  rename_i hu
  obtain ⟨h0, h1, h1', h2, h3⟩ := hu
  simp only [Option.some.injEq, Prod.mk.injEq] at h
  obtain ⟨rfl, rfl⟩ := h
  refine ⟨_, w, ?_, rfl, Drawn0.refl _⟩
  obtain ⟨x, rfl⟩ := Int.eq_ofNat_of_zero_le h0
  obtain ⟨y, rfl⟩ := Int.eq_ofNat_of_zero_le h1
  obtain ⟨b, rfl⟩ := Int.eq_ofNat_of_zero_le h2
  have e1 : ((x : Int) - y - b) % 18446744073709551616 = (((x + 18446744073709551616 - y - b) % 18446744073709551616 : Nat) : Int) := by omega
  have e2 : (if (x : Int) < y + b then 1 else 0 : Int) = ((if x < y + b then 1 else 0 : Nat) : Int) := by split <;> split <;> omega
  rw [e1, e2, run_callFunc_extern Try.func57 (by kernel_rfl) (by kernel_rfl) (by kernel_rfl) (e := bits_Sub64.entry) (by kernel_rfl), bits_Sub64.run x y b (by omega)]
  rfl

/-! ### wide_Sub: function 38 -/
def wide_Sub.f (a0_0 : Int) (a0_1 : Int) (a1_0 : Int) (a1_1 : Int) : Option (Int × Int × Int) := (bits_Sub64.f a0_1 a1_1 0).bind fun bt151 => ((bits_Sub64.f a0_0 a1_0 bt151.2).bind fun bt153 => (if bt153.2 = 0 then (some (bt153.1, bt151.1, 0)) else (some (0, 0, 16))))
set_option maxHeartbeats 8000000 in
set_option maxRecDepth 100000 in
theorem wide_Sub.calls (a0_0 : Int) (a0_1 : Int) (a1_0 : Int) (a1_1 : Int) (r1 : Int) (r2 : Int) (r3 : Int) (w : World) (h : wide_Sub.f a0_0 a0_1 a1_0 a1_1 = some (r1, r2, r3)) :
  Calls Try.prog 38 #[.agg #[.int .u64 a0_0, .int .u64 a0_1], .agg #[.int .u64 a1_0, .int .u64 a1_1]] w fun e w' => e = .returned (.tuple #[.agg #[.int .u64 r1, .int .u64 r2], .int .i64 r3]) ∧ Below w.heap.size w w' := by
 have hu26 := Try.underlying26
 have HB := Aside0.mk (Below.refl w.heap.size w)
 have H : ((bits_Sub64.f a0_1 a1_1 0).bind fun bt151 => ((bits_Sub64.f a0_0 a1_0 bt151.2).bind fun bt153 => (if bt153.2 = 0 then (some (bt153.1, bt151.1, 0)) else (some (0, 0, 16))))) = some (r1, r2, r3) := h
 clear h
 have H0_ := bo_ H; clear H; obtain ⟨⟨t151, t152⟩, A3, H⟩ := H0_
 replace H : ((bits_Sub64.f a0_0 a1_0 t152).bind fun bt153 => (if bt153.2 = 0 then (some (bt153.1, t151, 0)) else (some (0, 0, 16)))) = some (r1, r2, r3) := H
 have H0_ := bo_ H; clear H; obtain ⟨⟨t153, t154⟩, A4, H⟩ := H0_
 replace H : (if t154 = 0 then (some (t153, t151, 0)) else (some (0, 0, 16))) = some (r1, r2, r3) := H
 by_cases c5 : t154 = 0
 ·rw [if_pos c5] at H
  have c5b0 : (t154 == 0) = true := beq_iff_eq.mpr c5
  have c5b1 : (t154 != 0) = false := bne_eq_false_iff_eq.mpr c5
  clear c5
  simp only [Option.some.injEq, Prod.mk.injEq] at H
  obtain ⟨rfl, rfl, rfl⟩ := H
  go_enter Try.func38, Try.ntmps38
  go_wp2_with (first | ((with_reducible refine gate_dst (N := 2) rfl ?_); refine bx_ #[.int .u64 a0_0, .int .u64 a0_1] 26 ?_; intro gb148 hg w6 BK148 hb; have GW148 := bz_ w hg; have GE148 := GW148; replace HB := bs_ w hb; clear hb hg) | ((with_reducible refine gate_dst (N := 3) rfl ?_); refine bx_ #[.int .u64 a1_0, .int .u64 a1_1] 26 ?_; intro gb149 hg w7 BK149 hb; have GW149 := bz_ w hg; have GE149 := GW149; have NB148_149 := bn_ BK148 hg; have NB149_148 := bm_ BK148 hg; replace BK148 := bb_ BK148 hb; replace HB := bs_ w hb; clear hb hg) | ((with_reducible refine gate_dst (N := 4) rfl ?_); refine bx_ #[.int .u64 0, .int .u64 0] 26 ?_; intro gb150 hg w8 BK150 hb; have GW150 := bz_ w hg; have GE150 := GW150; have NB148_150 := bn_ BK148 hg; have NB150_148 := bm_ BK148 hg; have NB149_150 := bn_ BK149 hg; have NB150_149 := bm_ BK149 hg; replace BK148 := bb_ BK148 hb; replace BK149 := bb_ BK149 hb; replace HB := bs_ w hb; clear hb hg; replace hn148_149 := NB148_149.out; replace hn149_148 := NB149_148.out; replace hn148_150 := NB148_150.out; replace hn150_148 := NB150_148.out; replace hc148 := ce2_ BK148; replace hn149_150 := NB149_150.out; replace hn150_149 := NB150_149.out; replace hc149 := ce2_ BK149) | ((with_reducible refine gate_callee (f := 57) rfl ?_); refine goesXL_ (some 15) rfl rfl #[.int .u64 a0_1, .int .u64 a1_1, .int .u64 0] rfl (by (try simp only [List.map_toArray, List.map_cons, List.map_nil]); first | done | rfl | (simp only [List.length_drop, List.length_take]; rfl)) ?_; (with_reducible refine (bits_Sub64.calls a0_1 a1_1 0 t151 t152 _ A3.out).mono ?_); rintro e w' ⟨rfl, ⟨nd, rfl⟩⟩; refine ⟨_, rfl, ?_⟩; (try ((first | generalize hq_ : World.drewN w8 _ = w8 | (rw [drewN_self w8]; generalize hq_ : World.drewN w8 _ = w8)); replace BK148 : Aside0 (w8.heap[gb148]? = some (.cells #[.int .u64 a0_0, .int .u64 a0_1] 26 (0, 0))) := ⟨by rw [← hq_]; exact (bq_ BK148)⟩; replace BK149 : Aside0 (w8.heap[gb149]? = some (.cells #[.int .u64 a1_0, .int .u64 a1_1] 26 (0, 0))) := ⟨by rw [← hq_]; exact (bq_ BK149)⟩; replace BK150 : Aside0 (w8.heap[gb150]? = some (.cells #[.int .u64 0, .int .u64 0] 26 (0, 0))) := ⟨by rw [← hq_]; exact (bq_ BK150)⟩; replace HB : Aside0 (Below w.heap.size w w8) := ⟨by rw [← hq_]; exact bh_⟩; clear hq_)); replace hc148 := ce2_ BK148; replace hc149 := ce2_ BK149) | ((with_reducible refine gate_callee (f := 57) rfl ?_); refine goesXL_ (some 24) rfl rfl #[.int .u64 a0_0, .int .u64 a1_0, .int .u64 t152] rfl (by (try simp only [List.map_toArray, List.map_cons, List.map_nil]); first | done | rfl | (simp only [List.length_drop, List.length_take]; rfl)) ?_; (with_reducible refine (bits_Sub64.calls a0_0 a1_0 t152 t153 t154 _ A4.out).mono ?_); rintro e w' ⟨rfl, ⟨nd, rfl⟩⟩; refine ⟨_, rfl, ?_⟩; (try ((first | generalize hq_ : World.drewN w8 _ = w8 | (rw [drewN_self w8]; generalize hq_ : World.drewN w8 _ = w8)); replace BK148 : Aside0 (w8.heap[gb148]? = some (.cells #[.int .u64 a0_0, .int .u64 a0_1] 26 (0, 0))) := ⟨by rw [← hq_]; exact (bq_ BK148)⟩; replace BK149 : Aside0 (w8.heap[gb149]? = some (.cells #[.int .u64 a1_0, .int .u64 a1_1] 26 (0, 0))) := ⟨by rw [← hq_]; exact (bq_ BK149)⟩; replace BK150 : Aside0 (w8.heap[gb150]? = some (.cells #[.int .u64 0, .int .u64 0] 26 (0, 0))) := ⟨by rw [← hq_]; exact (bq_ BK150)⟩; replace HB : Aside0 (Below w.heap.size w w8) := ⟨by rw [← hq_]; exact bh_⟩; clear hq_)); replace hc150 := ce2_ BK150))
  refine bodyPost_ret (results_ct rfl _ _ gb150 26 #[.int .u64 t153, .int .u64 t151] (0, 0) _ rfl (bp2_ (bq_ BK150)) Try.underlying26 rfl (by kernel_rfl)) rfl ?_
  exact fi_
 ·rw [if_neg c5] at H
  have c5b0 : (t154 == 0) = false := beq_eq_false_iff_ne.mpr c5
  have c5b1 : (t154 != 0) = true := bne_iff_ne.mpr c5
  simp only [Option.some.injEq, Prod.mk.injEq] at H
  obtain ⟨rfl, rfl, rfl⟩ := H
  go_enter Try.func38, Try.ntmps38
  go_wp2_with (first | ((with_reducible refine gate_dst (N := 2) rfl ?_); refine bx_ #[.int .u64 a0_0, .int .u64 a0_1] 26 ?_; intro gb148 hg w17 BK148 hb; have GW148 := bz_ w hg; have GE148 := GW148; replace HB := bs_ w hb; clear hb hg) | ((with_reducible refine gate_dst (N := 3) rfl ?_); refine bx_ #[.int .u64 a1_0, .int .u64 a1_1] 26 ?_; intro gb149 hg w18 BK149 hb; have GW149 := bz_ w hg; have GE149 := GW149; have NB148_149 := bn_ BK148 hg; have NB149_148 := bm_ BK148 hg; replace BK148 := bb_ BK148 hb; replace HB := bs_ w hb; clear hb hg) | ((with_reducible refine gate_dst (N := 4) rfl ?_); refine bx_ #[.int .u64 0, .int .u64 0] 26 ?_; intro gb150 hg w19 BK150 hb; have GW150 := bz_ w hg; have GE150 := GW150; have NB148_150 := bn_ BK148 hg; have NB150_148 := bm_ BK148 hg; have NB149_150 := bn_ BK149 hg; have NB150_149 := bm_ BK149 hg; replace BK148 := bb_ BK148 hb; replace BK149 := bb_ BK149 hb; replace HB := bs_ w hb; clear hb hg; replace hn148_149 := NB148_149.out; replace hn149_148 := NB149_148.out; replace hn148_150 := NB148_150.out; replace hn150_148 := NB150_148.out; replace hc148 := ce2_ BK148; replace hn149_150 := NB149_150.out; replace hn150_149 := NB150_149.out; replace hc149 := ce2_ BK149) | ((with_reducible refine gate_callee (f := 57) rfl ?_); refine goesXL_ (some 15) rfl rfl #[.int .u64 a0_1, .int .u64 a1_1, .int .u64 0] rfl (by (try simp only [List.map_toArray, List.map_cons, List.map_nil]); first | done | rfl | (simp only [List.length_drop, List.length_take]; rfl)) ?_; (with_reducible refine (bits_Sub64.calls a0_1 a1_1 0 t151 t152 _ A3.out).mono ?_); rintro e w' ⟨rfl, ⟨nd, rfl⟩⟩; refine ⟨_, rfl, ?_⟩; (try ((first | generalize hq_ : World.drewN w19 _ = w19 | (rw [drewN_self w19]; generalize hq_ : World.drewN w19 _ = w19)); replace BK148 : Aside0 (w19.heap[gb148]? = some (.cells #[.int .u64 a0_0, .int .u64 a0_1] 26 (0, 0))) := ⟨by rw [← hq_]; exact (bq_ BK148)⟩; replace BK149 : Aside0 (w19.heap[gb149]? = some (.cells #[.int .u64 a1_0, .int .u64 a1_1] 26 (0, 0))) := ⟨by rw [← hq_]; exact (bq_ BK149)⟩; replace BK150 : Aside0 (w19.heap[gb150]? = some (.cells #[.int .u64 0, .int .u64 0] 26 (0, 0))) := ⟨by rw [← hq_]; exact (bq_ BK150)⟩; replace HB : Aside0 (Below w.heap.size w w19) := ⟨by rw [← hq_]; exact bh_⟩; clear hq_)); replace hc148 := ce2_ BK148; replace hc149 := ce2_ BK149) | ((with_reducible refine gate_callee (f := 57) rfl ?_); refine goesXL_ (some 24) rfl rfl #[.int .u64 a0_0, .int .u64 a1_0, .int .u64 t152] rfl (by (try simp only [List.map_toArray, List.map_cons, List.map_nil]); first | done | rfl | (simp only [List.length_drop, List.length_take]; rfl)) ?_; (with_reducible refine (bits_Sub64.calls a0_0 a1_0 t152 t153 t154 _ A4.out).mono ?_); rintro e w' ⟨rfl, ⟨nd, rfl⟩⟩; refine ⟨_, rfl, ?_⟩; (try ((first | generalize hq_ : World.drewN w19 _ = w19 | (rw [drewN_self w19]; generalize hq_ : World.drewN w19 _ = w19)); replace BK148 : Aside0 (w19.heap[gb148]? = some (.cells #[.int .u64 a0_0, .int .u64 a0_1] 26 (0, 0))) := ⟨by rw [← hq_]; exact (bq_ BK148)⟩; replace BK149 : Aside0 (w19.heap[gb149]? = some (.cells #[.int .u64 a1_0, .int .u64 a1_1] 26 (0, 0))) := ⟨by rw [← hq_]; exact (bq_ BK149)⟩; replace BK150 : Aside0 (w19.heap[gb150]? = some (.cells #[.int .u64 0, .int .u64 0] 26 (0, 0))) := ⟨by rw [← hq_]; exact (bq_ BK150)⟩; replace HB : Aside0 (Below w.heap.size w w19) := ⟨by rw [← hq_]; exact bh_⟩; clear hq_)); replace hc150 := ce2_ BK150))
  refine bodyPost_ret (results_ct rfl _ _ gb150 26 #[.int .u64 0, .int .u64 0] (0, 0) _ rfl (bp2_ (bq_ BK150)) Try.underlying26 rfl (by kernel_rfl)) rfl ?_
  exact fi_

end Go.Proofs.Ytnijohomnajngaa.X
