-- written by xprint.py, a program of this session over the kit's print
import Derived.Test.YtiifhbaabnpkeaaX0
import Derived.Test.YtiifhbaabnpkeaaX5
import Derived.Test.YtiifhbaabnpkeaaX18
import Derived.Test.YtiifhbaabnpkeaaX20
namespace Go.Proofs.Ytiifhbaabnpkeaa.X
open Go.RowKit Go.Proofs.YtiifhbaabnpkeaaW.PrintWords Go.Proofs.YtiifhbaabnpkeaaW.PrintLast Go.Proofs.YtiifhbaabnpkeaaW.PrintMore
attribute [local go_sem] max2_int min2_int max_two min_two max_three min_three max_four min_four   -- for this text's walks alone
set_option linter.unusedVariables false
set_option linter.unusedSimpArgs false

/-! ### spigottop_bounded04: function 12 -/
def spigottop_bounded04.j0 : Nat → Int → Bool → Int → Int → Int → Int → Int → Int → Int → Int → Int → Int → Int → Int → Int → Int → Option (Bool)
  | 0, _, _, _, _, _, _, _, _, _, _, _, _, _, _, _, _ => none
  | k + 1, x2, x81, x255000, x255001, x255002, x255003, x255004, x255005, x260000, x260001, x266000, x266001, x274000, x274001, x280000, x280001 => if x81 = true then (some false) else (if x255005 = x2 then ((wide_Cmp.f k x280000 x280001 x266000 x266001).bind fun t280 => (if t280 ≤ 0 then ((wide_Cmp.f k x274000 x274001 x260000 x260001).bind fun t281 => (some (decide (t281 ≤ 0)))) else (some false))) else (some false))
def spigottop_bounded04.f (k : Nat) (a0_0 : Int) (a0_1 : Int) (a0_2 : Int) (a1 : Int) (a2 : Int) (a3_0 : Int) (a3_1 : Int) (a3_2 : Int) (a3_3 : Int) (a3_4 : Int) (a3_5 : Int) (a4 : Int) : Option (Bool) := (clock_Since.f a1 a2).bind fun bt255 => ((wide_Mul.f (IntKind.u64.wrap (a0_0)) (IntKind.u64.wrap (a0_2))).bind fun bt257 => ((wide_Mul.f bt255.1 (IntKind.u64.wrap (a0_1))).bind fun bt260 => ((wide_Add.f bt257.1 bt257.2 bt260.1 bt260.2).bind fun bt262 => ((wide_Mul.f (IntKind.u64.wrap (a3_3)) (IntKind.u64.wrap (a0_2))).bind fun bt266 => ((wide_Of.f (IntKind.u64.wrap (a3_4))).bind fun bt268 => ((wide_Add.f bt266.1 bt266.2 bt268.1 bt268.2).bind fun bt270 => ((wide_Mul.f a4 (IntKind.u64.wrap (a0_2))).bind fun bt274 => ((wide_Add.f bt270.1 bt270.2.1 bt274.1 bt274.2).bind fun bt276 => (if bt255.2 = 0 then (if bt262.2.2 = 0 then (if bt270.2.2 = 0 then (spigottop_bounded04.j0 k a2 (bt276.2.2 != 0) a3_0 a3_1 a3_2 a3_3 a3_4 a3_5 bt257.1 bt257.2 bt262.1 bt262.2.1 bt270.1 bt270.2.1 bt276.1 bt276.2.1) else (spigottop_bounded04.j0 k a2 true a3_0 a3_1 a3_2 a3_3 a3_4 a3_5 bt257.1 bt257.2 bt262.1 bt262.2.1 bt270.1 bt270.2.1 bt276.1 bt276.2.1)) else (spigottop_bounded04.j0 k a2 true a3_0 a3_1 a3_2 a3_3 a3_4 a3_5 bt257.1 bt257.2 bt262.1 bt262.2.1 bt270.1 bt270.2.1 bt276.1 bt276.2.1)) else (spigottop_bounded04.j0 k a2 true a3_0 a3_1 a3_2 a3_3 a3_4 a3_5 bt257.1 bt257.2 bt262.1 bt262.2.1 bt270.1 bt270.2.1 bt276.1 bt276.2.1))))))))))
theorem spigottop_bounded04.mono_l : ∀ k, (∀ y0 y1 y2 y3 y4 y5 y6 y7 y8 y9 y10 y11 y12 y13 y14 y15, LeO (spigottop_bounded04.j0 k y0 y1 y2 y3 y4 y5 y6 y7 y8 y9 y10 y11 y12 y13 y14 y15) (spigottop_bounded04.j0 (k + 1) y0 y1 y2 y3 y4 y5 y6 y7 y8 y9 y10 y11 y12 y13 y14 y15))
  | 0 => fun _ _ _ _ _ _ _ _ _ _ _ _ _ _ _ _ r h => by simp [spigottop_bounded04.j0] at h
  | k + 1 => by
    have ih0 := spigottop_bounded04.mono_l k
    · intro y0 y1 y2 y3 y4 y5 y6 y7 y8 y9 y10 y11 y12 y13 y14 y15
      unfold spigottop_bounded04.j0
      repeat' first
      | (with_reducible exact ih0 _ _ _ _ _ _ _ _ _ _ _ _ _ _ _ _)
      | (with_reducible exact wide_Cmp.mono _ _ _ _ _)
      | (with_reducible exact LeO.refl _)
      | (with_reducible exact LeO.none _)
      | (with_reducible refine LeO.ite ?_ ?_)
      | (with_reducible refine LeO.bind ?_ (fun _ => ?_))
      | exact ih0 _ _ _ _ _ _ _ _ _ _ _ _ _ _ _ _
      | exact wide_Cmp.mono _ _ _ _ _
      | exact LeO.none _
      | refine LeO.ite ?_ ?_
      | refine LeO.bind ?_ (fun _ => ?_)
theorem spigottop_bounded04.mono : ∀ a0 a1 a2 a3 a4 a5 a6 a7 a8 a9 a10 a11 k, LeO (spigottop_bounded04.f k a0 a1 a2 a3 a4 a5 a6 a7 a8 a9 a10 a11) (spigottop_bounded04.f (k + 1) a0 a1 a2 a3 a4 a5 a6 a7 a8 a9 a10 a11) := by
  intro a0 a1 a2 a3 a4 a5 a6 a7 a8 a9 a10 a11 k
  have ih0 := spigottop_bounded04.mono_l k
  unfold spigottop_bounded04.f
  repeat' first
      | (with_reducible exact ih0 _ _ _ _ _ _ _ _ _ _ _ _ _ _ _ _)
      | (with_reducible exact wide_Cmp.mono _ _ _ _ _)
      | (with_reducible exact LeO.refl _)
      | (with_reducible exact LeO.none _)
      | (with_reducible refine LeO.ite ?_ ?_)
      | (with_reducible refine LeO.bind ?_ (fun _ => ?_))
      | exact ih0 _ _ _ _ _ _ _ _ _ _ _ _ _ _ _ _
      | exact wide_Cmp.mono _ _ _ _ _
      | exact LeO.none _
      | refine LeO.ite ?_ ?_
      | refine LeO.bind ?_ (fun _ => ?_)
def spigottop_bounded04.T3 : Bool × List (List Nat × List Nat) := (true, [([], []), ([], []), ([], []), ([2], [2]), ([3], [3]), ([1, 4], [1, 4]), ([0, 5, 5], [0, 5]), ([6], [6]), ([7], [7]), ([7], [7]), ([], []), ([10, 8, 6, 0, 1, 2, 3, 4, 5, 6, 7, 8, 10], [8, 10]), ([9, 11, 0, 1, 2, 3, 4, 5, 6, 7, 8, 9, 10, 11], [9])])
def spigottop_bounded04.B3 : List Nat := [0, 0, 0, 4, 12, 30, 63, 127, 255, 255, 0, 1535, 4095]
theorem spigottop_bounded04.tab3 : rtab .any (opsOf Try.f12 3) = spigottop_bounded04.T3 := by kernel_rfl
theorem spigottop_bounded04.bits3 : waitsOk spigottop_bounded04.T3.2 spigottop_bounded04.B3 = true := by kernel_rfl
def spigottop_bounded04.T4 : Bool × List (List Nat × List Nat) := (true, [([], []), ([0], [0]), ([1], [1]), ([], []), ([3], [3]), ([4], [4]), ([2, 5], [2, 5]), ([], []), ([7], [7]), ([8], [8]), ([9, 6], [9]), ([6, 10, 10], [6, 10]), ([11], [11]), ([12], [12]), ([12], [12]), ([], []), ([15, 13, 11, 0, 1, 2, 3, 4, 5, 6, 7, 8, 9, 10, 11, 12, 13, 15], [13, 15]), ([14, 16, 0, 1, 2, 3, 4, 5, 6, 7, 8, 9, 10, 11, 12, 13, 14, 15, 16], [14])])
def spigottop_bounded04.B4 : List Nat := [0, 1, 3, 0, 8, 24, 63, 0, 128, 384, 1023, 2047, 4095, 8191, 8191, 0, 49151, 131071]
theorem spigottop_bounded04.tab4 : rtab .any (opsOf Try.f12 4) = spigottop_bounded04.T4 := by kernel_rfl
theorem spigottop_bounded04.bits4 : waitsOk spigottop_bounded04.T4.2 spigottop_bounded04.B4 = true := by kernel_rfl
def spigottop_bounded04.T5 : Bool × List (List Nat × List Nat) := (true, [([], []), ([], []), ([], []), ([2], [2]), ([3], [3]), ([1, 4], [1, 4]), ([0, 5, 5], [0, 5]), ([6], [6]), ([7], [7]), ([7], [7]), ([], []), ([10, 8, 6, 0, 1, 2, 3, 4, 5, 6, 7, 8, 10], [8, 10]), ([9, 11, 0, 1, 2, 3, 4, 5, 6, 7, 8, 9, 10, 11], [9])])
def spigottop_bounded04.B5 : List Nat := [0, 0, 0, 4, 12, 30, 63, 127, 255, 255, 0, 1535, 4095]
theorem spigottop_bounded04.tab5 : rtab .any (opsOf Try.f12 5) = spigottop_bounded04.T5 := by kernel_rfl
theorem spigottop_bounded04.bits5 : waitsOk spigottop_bounded04.T5.2 spigottop_bounded04.B5 = true := by kernel_rfl
set_option maxHeartbeats 8000000 in
set_option maxRecDepth 100000 in
theorem spigottop_bounded04.calls (k : Nat) (a0_0 : Int) (a0_1 : Int) (a0_2 : Int) (a1 : Int) (a2 : Int) (a3_0 : Int) (a3_1 : Int) (a3_2 : Int) (a3_3 : Int) (a3_4 : Int) (a3_5 : Int) (a4 : Int) (r : Bool) (w : World) (h : spigottop_bounded04.f k a0_0 a0_1 a0_2 a1 a2 a3_0 a3_1 a3_2 a3_3 a3_4 a3_5 a4 = some r) :
  Calls Try.prog 12 #[.agg #[.int .i64 a0_0, .int .i64 a0_1, .int .i64 a0_2], .int .u64 a1, .int .u64 a2, .agg #[.int .i64 a3_0, .int .i64 a3_1, .int .i64 a3_2, .int .i64 a3_3, .int .i64 a3_4, .int .u64 a3_5], .int .u64 a4] w fun e w' => e = .returned (.bool r) ∧ Below w.heap.size w w' := by
 have hu30 := Try.underlying30
 have hu32 := Try.underlying32
 have hu59 := Try.underlying59
 have HB := Aside0.mk (Below.refl w.heap.size w)
 have H : ((clock_Since.f a1 a2).bind fun bt255 => ((wide_Mul.f (IntKind.u64.wrap (a0_0)) (IntKind.u64.wrap (a0_2))).bind fun bt257 => ((wide_Mul.f bt255.1 (IntKind.u64.wrap (a0_1))).bind fun bt260 => ((wide_Add.f bt257.1 bt257.2 bt260.1 bt260.2).bind fun bt262 => ((wide_Mul.f (IntKind.u64.wrap (a3_3)) (IntKind.u64.wrap (a0_2))).bind fun bt266 => ((wide_Of.f (IntKind.u64.wrap (a3_4))).bind fun bt268 => ((wide_Add.f bt266.1 bt266.2 bt268.1 bt268.2).bind fun bt270 => ((wide_Mul.f a4 (IntKind.u64.wrap (a0_2))).bind fun bt274 => ((wide_Add.f bt270.1 bt270.2.1 bt274.1 bt274.2).bind fun bt276 => (if bt255.2 = 0 then (if bt262.2.2 = 0 then (if bt270.2.2 = 0 then (spigottop_bounded04.j0 k a2 (bt276.2.2 != 0) a3_0 a3_1 a3_2 a3_3 a3_4 a3_5 bt257.1 bt257.2 bt262.1 bt262.2.1 bt270.1 bt270.2.1 bt276.1 bt276.2.1) else (spigottop_bounded04.j0 k a2 true a3_0 a3_1 a3_2 a3_3 a3_4 a3_5 bt257.1 bt257.2 bt262.1 bt262.2.1 bt270.1 bt270.2.1 bt276.1 bt276.2.1)) else (spigottop_bounded04.j0 k a2 true a3_0 a3_1 a3_2 a3_3 a3_4 a3_5 bt257.1 bt257.2 bt262.1 bt262.2.1 bt270.1 bt270.2.1 bt276.1 bt276.2.1)) else (spigottop_bounded04.j0 k a2 true a3_0 a3_1 a3_2 a3_3 a3_4 a3_5 bt257.1 bt257.2 bt262.1 bt262.2.1 bt270.1 bt270.2.1 bt276.1 bt276.2.1))))))))))) = some r := h
 clear h
 have H0_ := bo_ H; clear H; obtain ⟨⟨t255, t256⟩, A6, H⟩ := H0_
 try dsimp only at H
 have H0_ := bo_ H; clear H; obtain ⟨⟨t257, t258⟩, A7, H⟩ := H0_
 try dsimp only at H
 have H0_ := bo_ H; clear H; obtain ⟨⟨t260, t261⟩, A8, H⟩ := H0_
 try dsimp only at H
 have H0_ := bo_ H; clear H; obtain ⟨⟨t262, t263, t264⟩, A9, H⟩ := H0_
 try dsimp only at H
 have H0_ := bo_ H; clear H; obtain ⟨⟨t266, t267⟩, A10, H⟩ := H0_
 try dsimp only at H
 have H0_ := bo_ H; clear H; obtain ⟨⟨t268, t269⟩, A11, H⟩ := H0_
 try dsimp only at H
 have H0_ := bo_ H; clear H; obtain ⟨⟨t270, t271, t272⟩, A12, H⟩ := H0_
 try dsimp only at H
 have H0_ := bo_ H; clear H; obtain ⟨⟨t274, t275⟩, A13, H⟩ := H0_
 try dsimp only at H
 have H0_ := bo_ H; clear H; obtain ⟨⟨t276, t277, t278⟩, A14, H⟩ := H0_
 try dsimp only at H
 have HC15 := Aside0.mk H
 clear H
 go_enter Try.func12, Try.ntmps12
 try go_wp2_with (first | ((with_reducible refine gate_dst (N := 5) rfl ?_); (try refine ug_ (by rfl) ?_); refine bx_ #[.int .i64 a0_0, .int .i64 a0_1, .int .i64 a0_2] 30 ?_; intro gb253 hg w16 BK253 hb; have GW253 := bz_ w hg; replace HB := bs_ w hb; clear hb hg) | ((with_reducible refine gate_dst (N := 8) rfl ?_); (try refine ug_ (by rfl) ?_); refine bx_ #[.int .i64 a3_0, .int .i64 a3_1, .int .i64 a3_2, .int .i64 a3_3, .int .i64 a3_4, .int .u64 a3_5] 32 ?_; intro gb254 hg w17 BK254 hb; have GW254 := bz_ w hg; have NB253_254 := bn_ BK253 hg; have NB254_253 := bm_ BK253 hg; replace BK253 := bb_ BK253 hb; replace HB := bs_ w hb; clear hb hg) | ((with_reducible refine gate_callee (f := 20) rfl ?_); (try refine ug_ (by rfl) ?_); refine goesA_ (some 23) Try.func20 #[.int .u64 a1, .int .u64 a2] ?_; (with_reducible refine (clock_Since.calls a1 a2 t255 t256 _ A6.out).mono ?_); rintro e w' ⟨rfl, ⟨nd, rfl⟩⟩; refine ⟨_, rfl, ?_⟩; (try ((first | generalize hq_ : World.drewN w17 _ = w17 | (rw [drewN_self w17]; generalize hq_ : World.drewN w17 _ = w17)); replace BK253 : Aside0 (w17.heap[gb253]? = some (.cells #[.int .i64 a0_0, .int .i64 a0_1, .int .i64 a0_2] 30 (0, 0))) := ⟨by rw [← hq_]; exact (bq_ BK253)⟩; replace BK254 : Aside0 (w17.heap[gb254]? = some (.cells #[.int .i64 a3_0, .int .i64 a3_1, .int .i64 a3_2, .int .i64 a3_3, .int .i64 a3_4, .int .u64 a3_5] 32 (0, 0))) := ⟨by rw [← hq_]; exact (bq_ BK254)⟩; replace HB : Aside0 (Below w.heap.size w w17) := ⟨by rw [← hq_]; exact bh_⟩; clear hq_)); replace hn253_254 := NB253_254.out; replace hn254_253 := NB254_253.out; replace hc253 := ce3_ BK253) | ((with_reducible refine gate_callee (f := 21) rfl ?_); (try refine ug_ (by rfl) ?_); refine goesA_ (some 32) Try.func21 #[.int .u64 (IntKind.u64.wrap (a0_0)), .int .u64 (IntKind.u64.wrap (a0_2))] ?_; (with_reducible refine (wide_Mul.calls (IntKind.u64.wrap (a0_0)) (IntKind.u64.wrap (a0_2)) t257 t258 _ A7.out).mono ?_); rintro e w20 ⟨rfl, hb⟩; refine ⟨_, rfl, ?_⟩; replace BK253 := bb_ BK253 hb; replace BK254 := bb_ BK254 hb; replace HB := bs_ w hb; clear hb) | ((with_reducible refine gate_dst (N := 13) rfl ?_); (try refine ug_ (by rfl) ?_); refine bx_ #[.int .u64 0, .int .u64 0] 59 ?_; intro gb259 hg w21 BK259 hb; have GW259 := bz_ w hg; have NB253_259 := bn_ BK253 hg; have NB259_253 := bm_ BK253 hg; have NB254_259 := bn_ BK254 hg; have NB259_254 := bm_ BK254 hg; replace BK253 := bb_ BK253 hb; replace BK254 := bb_ BK254 hb; replace HB := bs_ w hb; clear hb hg; replace hn259_253 := NB259_253.out; replace hn253_259 := NB253_259.out; replace hn259_254 := NB259_254.out; replace hn254_259 := NB254_259.out; replace hc259 := ce2_ BK259))
 have n0_ : Aside0 (((w21.setCell ⟨gb259, 0, none⟩ (.int .u64 t257)).setCell ⟨gb259, 1, none⟩ (.int .u64 t258)).heap[gb253]? = some (.cells #[.int .i64 a0_0, .int .i64 a0_1, .int .i64 a0_2] 30 (0, 0))) := ⟨(bt_ BK253)⟩
 have n1_ : Aside0 (((w21.setCell ⟨gb259, 0, none⟩ (.int .u64 t257)).setCell ⟨gb259, 1, none⟩ (.int .u64 t258)).heap[gb254]? = some (.cells #[.int .i64 a3_0, .int .i64 a3_1, .int .i64 a3_2, .int .i64 a3_3, .int .i64 a3_4, .int .u64 a3_5] 32 (0, 0))) := ⟨(bt_ BK254)⟩
 have n2_ : Aside0 (((w21.setCell ⟨gb259, 0, none⟩ (.int .u64 t257)).setCell ⟨gb259, 1, none⟩ (.int .u64 t258)).heap[gb259]? = some (.cells #[.int .u64 t257, .int .u64 t258] 59 (0, 0))) := ⟨(bp2_ (bq_ BK259))⟩
 have n3_ : Aside0 (Below w.heap.size w ((w21.setCell ⟨gb259, 0, none⟩ (.int .u64 t257)).setCell ⟨gb259, 1, none⟩ (.int .u64 t258))) := bw_
 (try clear BK253)
 (try clear BK254)
 (try clear BK259)
 (try clear HB)
 generalize ((w21.setCell ⟨gb259, 0, none⟩ (.int .u64 t257)).setCell ⟨gb259, 1, none⟩ (.int .u64 t258)) = w25 at n0_ n1_ n2_ n3_ ⊢
 have BK253 := n0_
 have BK254 := n1_
 have BK259 := n2_
 have HB := n3_
 clear n0_ n1_ n2_ n3_
 replace BK253 := Aside0.mk (blk_drew BK253.out)
 replace BK254 := Aside0.mk (blk_drew BK254.out)
 replace BK259 := Aside0.mk (blk_drew BK259.out)
 replace HB := Aside0.mk (below_drew1 HB.out)
 refine start_ (n := 13) (S := fun w' => w'.cell? ⟨gb259, 0, none⟩ = some (.int .u64 t257) ∧ w'.cell? ⟨gb259, 1, none⟩ = some (.int .u64 t258) ∧ w'.cell? ⟨gb253, 0, none⟩ = some (.int .i64 a0_0) ∧ w'.cell? ⟨gb253, 1, none⟩ = some (.int .i64 a0_1) ∧ w'.cell? ⟨gb253, 2, none⟩ = some (.int .i64 a0_2)) (ds := []) (bl_ 13 0) (by kernel_rfl) rfl (by kernel_rfl) ⟨(blk_cell BK259.out 0).trans rfl, (blk_cell BK259.out 1).trans rfl, (blk_cell BK253.out 0).trans rfl, (blk_cell BK253.out 1).trans rfl, (blk_cell BK253.out 2).trans rfl⟩ (fun hHeld => ?_); refine with_tabW spigottop_bounded04.tab3 spigottop_bounded04.bits3 (fun HT_ HW_ => ?_)
 generalize w25.drew = w26 at BK253 BK254 BK259 HB hHeld ⊢
 refine pa_ 1 (some 35) (bl_ 13 2) HT_ ?_
 refine pa_ 2 (some 36) (bl_ 13 6) HT_ ?_
 refine ta_ 0 (some 34) (bl_ 13 7) HT_ HW_ hHeld ?_
 refine ta_ 3 (some 37) (bl_ 13 15) HT_ HW_ hHeld ?_
 refine pa_ 4 (some 38) (bl_ 13 31) HT_ ?_
 refine join_ (σ := Nat) 2 (bl_ 13 2047) (fun s_ => [(39, .agg #[.int .u64 t260, .int .u64 t261]), (40, .tuple #[.agg #[.int .u64 t262, .int .u64 t263], .int .i64 t264]), (14, .pointer (some ⟨s_, 0, none⟩)), (33, .tuple #[.agg #[.int .u64 t262, .int .u64 t263], .int .i64 t264]), (41, .agg #[.int .u64 t262, .int .u64 t263]), (42, .int .i64 t264)]) (fun s_ w' => (w'.cell? ⟨gb259, 0, none⟩ = some (.int .u64 t257) ∧ w'.cell? ⟨gb259, 1, none⟩ = some (.int .u64 t258) ∧ w'.cell? ⟨gb253, 0, none⟩ = some (.int .i64 a0_0) ∧ w'.cell? ⟨gb253, 1, none⟩ = some (.int .i64 a0_1) ∧ w'.cell? ⟨gb253, 2, none⟩ = some (.int .i64 a0_2)) ∧ (w'.heap[gb253]? = some (.cells #[.int .i64 a0_0, .int .i64 a0_1, .int .i64 a0_2] 30 (0, 0))) ∧ (w'.heap[gb254]? = some (.cells #[.int .i64 a3_0, .int .i64 a3_1, .int .i64 a3_2, .int .i64 a3_3, .int .i64 a3_4, .int .u64 a3_5] 32 (0, 0))) ∧ (w'.heap[gb259]? = some (.cells #[.int .u64 t257, .int .u64 t258] 59 (0, 0))) ∧ (w'.heap[s_]? = some (.cells #[.int .u64 0, .int .u64 0] 59 (0, 0))) ∧ (w.heap.size ≤ s_) ∧ (w.heap.size ≤ s_) ∧ (gb253 ≠ s_) ∧ (s_ ≠ gb253) ∧ (gb254 ≠ s_) ∧ (s_ ≠ gb254) ∧ (gb259 ≠ s_) ∧ (s_ ≠ gb259) ∧ (Below w.heap.size w w')) ?_ ?_
 rotate_left
 ·intro hCont
  refine tw_ 5 10 (some 39) (some 14) (bl_ 13 63) (bl_ 13 1055) HT_ (fun K hK => ?_) fun K hK => ?_
  ·refine goesB_ Try.func21 #[.int .u64 t255, .int .u64 (IntKind.u64.wrap (a0_1))] ?_
   with_reducible refine (wide_Mul.calls t255 (IntKind.u64.wrap (a0_1)) t260 t261 _ A8.out).mono ?_
   rintro e w27 ⟨rfl, hb⟩
   refine ⟨_, rfl, ?_⟩
   replace BK253 := bb_ BK253 hb
   replace BK254 := bb_ BK254 hb
   replace BK259 := bb_ BK259 hb
   replace HB := bs_ w hb
   clear hb
   refine hK.out _ _ ⟨(blk_cell BK259.out 0).trans rfl, (blk_cell BK259.out 1).trans rfl, (blk_cell BK253.out 0).trans rfl, (blk_cell BK253.out 1).trans rfl, (blk_cell BK253.out 2).trans rfl⟩ (fun hHeld => ?_)
   clear hK K
   refine nm_ (some 39) ?_
   refine tw_ 6 10 (some 40) (some 14) (bl_ 13 127) (bl_ 13 1087) HT_ (fun K hK => ?_) fun K hK => ?_
   ·refine goesB_ Try.func22 #[.agg #[.int .u64 t257, .int .u64 t258], .agg #[.int .u64 t260, .int .u64 t261]] ?_
    with_reducible refine (wide_Add.calls t257 t258 t260 t261 t262 t263 t264 _ A9.out).mono ?_
    rintro e w28 ⟨rfl, hb⟩
    refine ⟨_, rfl, ?_⟩
    replace BK253 := bb_ BK253 hb
    replace BK254 := bb_ BK254 hb
    replace BK259 := bb_ BK259 hb
    replace HB := bs_ w hb
    clear hb
    refine hK.out _ _ ⟨(blk_cell BK259.out 0).trans rfl, (blk_cell BK259.out 1).trans rfl, (blk_cell BK253.out 0).trans rfl, (blk_cell BK253.out 1).trans rfl, (blk_cell BK253.out 2).trans rfl⟩ (fun hHeld => ?_)
    clear hK K
    refine nm_ (some 40) ?_
    refine pa_ 7 (some 33) (bl_ 13 255) HT_ ?_
    refine pa_ 8 (some 41) (bl_ 13 511) HT_ ?_
    refine pa_ 9 (some 42) (bl_ 13 1023) HT_ ?_
    refine oa_ 10 (some 14) (bl_ 13 2047) HT_ fun K hK => ?_
    refine bs2_ #[.int .u64 0, .int .u64 0] 59 ?_
    intro gb265 hg w29 BK265 hb
    have GW265 := bz_ w hg
    have GE265 := GW265
    have NB253_265 := bn_ BK253 hg
    have NB265_253 := bm_ BK253 hg
    have NB254_265 := bn_ BK254 hg
    have NB265_254 := bm_ BK254 hg
    have NB259_265 := bn_ BK259 hg
    have NB265_259 := bm_ BK259 hg
    replace BK253 := bb_ BK253 hb
    replace BK254 := bb_ BK254 hb
    replace BK259 := bb_ BK259 hb
    replace HB := bs_ w hb
    clear hb hg
    refine hK.out _ _ ⟨(blk_cell BK259.out 0).trans rfl, (blk_cell BK259.out 1).trans rfl, (blk_cell BK253.out 0).trans rfl, (blk_cell BK253.out 1).trans rfl, (blk_cell BK253.out 2).trans rfl⟩ (fun hHeld => ?_)
    clear hK K
    refine nm_ (some 14) ?_
    exact no_ (hCont (gb265) _ ⟨hHeld, (bq_ BK253), (bq_ BK254), (bq_ BK259), (bq_ BK265), GW265.out, GE265.out, NB253_265.out, NB265_253.out, NB254_265.out, NB265_254.out, NB259_265.out, NB265_259.out, bh_⟩)
   ·refine bs2_ #[.int .u64 0, .int .u64 0] 59 ?_
    intro gb265 hg w28 BK265 hb
    have GW265 := bz_ w hg
    have GE265 := GW265
    have NB253_265 := bn_ BK253 hg
    have NB265_253 := bm_ BK253 hg
    have NB254_265 := bn_ BK254 hg
    have NB265_254 := bm_ BK254 hg
    have NB259_265 := bn_ BK259 hg
    have NB265_259 := bm_ BK259 hg
    replace BK253 := bb_ BK253 hb
    replace BK254 := bb_ BK254 hb
    replace BK259 := bb_ BK259 hb
    replace HB := bs_ w hb
    clear hb hg
    refine hK.out _ _ ⟨(blk_cell BK259.out 0).trans rfl, (blk_cell BK259.out 1).trans rfl, (blk_cell BK253.out 0).trans rfl, (blk_cell BK253.out 1).trans rfl, (blk_cell BK253.out 2).trans rfl⟩ (fun hHeld => ?_)
    clear hK K
    refine nm_ (some 14) ?_
    refine oa_ 6 (some 40) (bl_ 13 1151) HT_ fun K hK => ?_
    refine goesB_ Try.func22 #[.agg #[.int .u64 t257, .int .u64 t258], .agg #[.int .u64 t260, .int .u64 t261]] ?_
    with_reducible refine (wide_Add.calls t257 t258 t260 t261 t262 t263 t264 _ A9.out).mono ?_
    rintro e w29 ⟨rfl, hb⟩
    refine ⟨_, rfl, ?_⟩
    replace BK253 := bb_ BK253 hb
    replace BK254 := bb_ BK254 hb
    replace BK259 := bb_ BK259 hb
    replace BK265 := bb_ BK265 hb
    replace HB := bs_ w hb
    clear hb
    refine hK.out _ _ ⟨(blk_cell BK259.out 0).trans rfl, (blk_cell BK259.out 1).trans rfl, (blk_cell BK253.out 0).trans rfl, (blk_cell BK253.out 1).trans rfl, (blk_cell BK253.out 2).trans rfl⟩ (fun hHeld => ?_)
    clear hK K
    refine nm_ (some 40) ?_
    refine pa_ 7 (some 33) (bl_ 13 1279) HT_ ?_
    refine pa_ 8 (some 41) (bl_ 13 1535) HT_ ?_
    refine pa_ 9 (some 42) (bl_ 13 2047) HT_ ?_
    exact no_ (hCont (gb265) _ ⟨hHeld, (bq_ BK253), (bq_ BK254), (bq_ BK259), (bq_ BK265), GW265.out, GE265.out, NB253_265.out, NB265_253.out, NB254_265.out, NB265_254.out, NB259_265.out, NB265_259.out, bh_⟩)
  ·refine bs2_ #[.int .u64 0, .int .u64 0] 59 ?_
   intro gb265 hg w27 BK265 hb
   have GW265 := bz_ w hg
   have GE265 := GW265
   have NB253_265 := bn_ BK253 hg
   have NB265_253 := bm_ BK253 hg
   have NB254_265 := bn_ BK254 hg
   have NB265_254 := bm_ BK254 hg
   have NB259_265 := bn_ BK259 hg
   have NB265_259 := bm_ BK259 hg
   replace BK253 := bb_ BK253 hb
   replace BK254 := bb_ BK254 hb
   replace BK259 := bb_ BK259 hb
   replace HB := bs_ w hb
   clear hb hg
   refine hK.out _ _ ⟨(blk_cell BK259.out 0).trans rfl, (blk_cell BK259.out 1).trans rfl, (blk_cell BK253.out 0).trans rfl, (blk_cell BK253.out 1).trans rfl, (blk_cell BK253.out 2).trans rfl⟩ (fun hHeld => ?_)
   clear hK K
   refine nm_ (some 14) ?_
   refine oa_ 5 (some 39) (bl_ 13 1087) HT_ fun K hK => ?_
   refine goesB_ Try.func21 #[.int .u64 t255, .int .u64 (IntKind.u64.wrap (a0_1))] ?_
   with_reducible refine (wide_Mul.calls t255 (IntKind.u64.wrap (a0_1)) t260 t261 _ A8.out).mono ?_
   rintro e w28 ⟨rfl, hb⟩
   refine ⟨_, rfl, ?_⟩
   replace BK253 := bb_ BK253 hb
   replace BK254 := bb_ BK254 hb
   replace BK259 := bb_ BK259 hb
   replace BK265 := bb_ BK265 hb
   replace HB := bs_ w hb
   clear hb
   refine hK.out _ _ ⟨(blk_cell BK259.out 0).trans rfl, (blk_cell BK259.out 1).trans rfl, (blk_cell BK253.out 0).trans rfl, (blk_cell BK253.out 1).trans rfl, (blk_cell BK253.out 2).trans rfl⟩ (fun hHeld => ?_)
   clear hK K
   refine nm_ (some 39) ?_
   refine oa_ 6 (some 40) (bl_ 13 1151) HT_ fun K hK => ?_
   refine goesB_ Try.func22 #[.agg #[.int .u64 t257, .int .u64 t258], .agg #[.int .u64 t260, .int .u64 t261]] ?_
   with_reducible refine (wide_Add.calls t257 t258 t260 t261 t262 t263 t264 _ A9.out).mono ?_
   rintro e w29 ⟨rfl, hb⟩
   refine ⟨_, rfl, ?_⟩
   replace BK253 := bb_ BK253 hb
   replace BK254 := bb_ BK254 hb
   replace BK259 := bb_ BK259 hb
   replace BK265 := bb_ BK265 hb
   replace HB := bs_ w hb
   clear hb
   refine hK.out _ _ ⟨(blk_cell BK259.out 0).trans rfl, (blk_cell BK259.out 1).trans rfl, (blk_cell BK253.out 0).trans rfl, (blk_cell BK253.out 1).trans rfl, (blk_cell BK253.out 2).trans rfl⟩ (fun hHeld => ?_)
   clear hK K
   refine nm_ (some 40) ?_
   refine pa_ 7 (some 33) (bl_ 13 1279) HT_ ?_
   refine pa_ 8 (some 41) (bl_ 13 1535) HT_ ?_
   refine pa_ 9 (some 42) (bl_ 13 2047) HT_ ?_
   exact no_ (hCont (gb265) _ ⟨hHeld, (bq_ BK253), (bq_ BK254), (bq_ BK259), (bq_ BK265), GW265.out, GE265.out, NB253_265.out, NB265_253.out, NB254_265.out, NB265_254.out, NB259_265.out, NB265_259.out, bh_⟩)
 rintro gb265 w30 ⟨hS_, h0_, h1_, h2_, h3_, h4_, h5_, h6_, h7_, h8_, h9_, h10_, h11_, h12_⟩
 have BK265 := Aside0.mk h3_
 have GW265 := Aside0.mk h4_
 have GE265 := Aside0.mk h5_
 have NB253_265 := Aside0.mk h6_
 have NB265_253 := Aside0.mk h7_
 have NB254_265 := Aside0.mk h8_
 have NB265_254 := Aside0.mk h9_
 have NB259_265 := Aside0.mk h10_
 have NB265_259 := Aside0.mk h11_
 replace BK253 := Aside0.mk h0_
 replace BK254 := Aside0.mk h1_
 replace BK259 := Aside0.mk h2_
 replace HB := Aside0.mk h12_
 clear h0_ h1_ h2_ h3_ h4_ h5_ h6_ h7_ h8_ h9_ h10_ h11_ h12_
 have hHeld := hS_
 refine nq_ ?_
 refine oa_ 11 none (bl_ 13 4095) HT_ fun K hK => ?_
 have hs31 : w30.cell? ⟨gb265, 0, none⟩ = some (.int .u64 0) := (blk_cell BK265.out 0).trans rfl
 have hfs31 := blk_frozen BK265.out 0
 have hns31_0 := NB253_265.out
 have hns31_1 := NB254_265.out
 have hns31_2 := NB259_265.out
 have hms31_0 := NB265_253.out
 have hms31_1 := NB265_254.out
 have hms31_2 := NB265_259.out
 have hs32 : w30.cell? ⟨gb265, 1, none⟩ = some (.int .u64 0) := (blk_cell BK265.out 1).trans rfl
 have hfs32 := blk_frozen BK265.out 1
 have hns32_0 := NB253_265.out
 have hns32_1 := NB254_265.out
 have hns32_2 := NB259_265.out
 have hms32_0 := NB265_253.out
 have hms32_1 := NB265_254.out
 have hms32_2 := NB265_259.out
 refine sk_ ?_
 refine hK.out _ _ ⟨((cell_far (p := ⟨gb265, _, none⟩) NB259_265.out _).trans (((cell_far (p := ⟨gb265, _, none⟩) NB259_265.out _).trans (hHeld.1)))), ((cell_far (p := ⟨gb265, _, none⟩) NB259_265.out _).trans (((cell_far (p := ⟨gb265, _, none⟩) NB259_265.out _).trans (hHeld.2.1)))), ((cell_far (p := ⟨gb265, _, none⟩) NB253_265.out _).trans (((cell_far (p := ⟨gb265, _, none⟩) NB253_265.out _).trans (hHeld.2.2.1)))), ((cell_far (p := ⟨gb265, _, none⟩) NB253_265.out _).trans (((cell_far (p := ⟨gb265, _, none⟩) NB253_265.out _).trans (hHeld.2.2.2.1)))), ((cell_far (p := ⟨gb265, _, none⟩) NB253_265.out _).trans (((cell_far (p := ⟨gb265, _, none⟩) NB253_265.out _).trans (hHeld.2.2.2.2))))⟩ (fun hHeld => ?_)
 clear hK K
 refine pa_ 12 (some 15) (bl_ 13 8191) HT_ ?_
 refine done_ (done_of HT_.out (by kernel_rfl)) ?_
 try go_wp2
 have n0_ : Aside0 (((w30.setCell ⟨gb265, 0, none⟩ (.int .u64 t262)).setCell ⟨gb265, 1, none⟩ (.int .u64 t263)).heap[gb253]? = some (.cells #[.int .i64 a0_0, .int .i64 a0_1, .int .i64 a0_2] 30 (0, 0))) := ⟨(bt_ BK253)⟩
 have n1_ : Aside0 (((w30.setCell ⟨gb265, 0, none⟩ (.int .u64 t262)).setCell ⟨gb265, 1, none⟩ (.int .u64 t263)).heap[gb254]? = some (.cells #[.int .i64 a3_0, .int .i64 a3_1, .int .i64 a3_2, .int .i64 a3_3, .int .i64 a3_4, .int .u64 a3_5] 32 (0, 0))) := ⟨(bt_ BK254)⟩
 have n2_ : Aside0 (((w30.setCell ⟨gb265, 0, none⟩ (.int .u64 t262)).setCell ⟨gb265, 1, none⟩ (.int .u64 t263)).heap[gb259]? = some (.cells #[.int .u64 t257, .int .u64 t258] 59 (0, 0))) := ⟨(bt_ BK259)⟩
 have n3_ : Aside0 (((w30.setCell ⟨gb265, 0, none⟩ (.int .u64 t262)).setCell ⟨gb265, 1, none⟩ (.int .u64 t263)).heap[gb265]? = some (.cells #[.int .u64 t262, .int .u64 t263] 59 (0, 0))) := ⟨(bp2_ (bq_ BK265))⟩
 have n4_ : Aside0 (Below w.heap.size w ((w30.setCell ⟨gb265, 0, none⟩ (.int .u64 t262)).setCell ⟨gb265, 1, none⟩ (.int .u64 t263))) := bw_
 (try clear BK253)
 (try clear BK254)
 (try clear BK259)
 (try clear BK265)
 (try clear HB)
 generalize ((w30.setCell ⟨gb265, 0, none⟩ (.int .u64 t262)).setCell ⟨gb265, 1, none⟩ (.int .u64 t263)) = w33 at n0_ n1_ n2_ n3_ n4_ ⊢
 have BK253 := n0_
 have BK254 := n1_
 have BK259 := n2_
 have BK265 := n3_
 have HB := n4_
 clear n0_ n1_ n2_ n3_ n4_
 replace BK253 := Aside0.mk (blk_drew BK253.out)
 replace BK254 := Aside0.mk (blk_drew BK254.out)
 replace BK259 := Aside0.mk (blk_drew BK259.out)
 replace BK265 := Aside0.mk (blk_drew BK265.out)
 replace HB := Aside0.mk (below_drew1 HB.out)
 refine start_ (n := 18) (S := fun w' => w'.cell? ⟨gb254, 0, none⟩ = some (.int .i64 a3_0) ∧ w'.cell? ⟨gb254, 1, none⟩ = some (.int .i64 a3_1) ∧ w'.cell? ⟨gb254, 2, none⟩ = some (.int .i64 a3_2) ∧ w'.cell? ⟨gb254, 3, none⟩ = some (.int .i64 a3_3) ∧ w'.cell? ⟨gb254, 4, none⟩ = some (.int .i64 a3_4) ∧ w'.cell? ⟨gb254, 5, none⟩ = some (.int .u64 a3_5) ∧ w'.cell? ⟨gb253, 0, none⟩ = some (.int .i64 a0_0) ∧ w'.cell? ⟨gb253, 1, none⟩ = some (.int .i64 a0_1) ∧ w'.cell? ⟨gb253, 2, none⟩ = some (.int .i64 a0_2)) (ds := []) (bl_ 18 0) (by kernel_rfl) rfl (by kernel_rfl) ⟨(blk_cell BK254.out 0).trans rfl, (blk_cell BK254.out 1).trans rfl, (blk_cell BK254.out 2).trans rfl, (blk_cell BK254.out 3).trans rfl, (blk_cell BK254.out 4).trans rfl, (blk_cell BK254.out 5).trans rfl, (blk_cell BK253.out 0).trans rfl, (blk_cell BK253.out 1).trans rfl, (blk_cell BK253.out 2).trans rfl⟩ (fun hHeld => ?_); refine with_tabW spigottop_bounded04.tab4 spigottop_bounded04.bits4 (fun HT_ HW_ => ?_)
 generalize w33.drew = w34 at BK253 BK254 BK259 BK265 HB hHeld ⊢
 refine pa_ 0 (some 44) (bl_ 18 1) HT_ ?_
 refine pa_ 3 (some 47) (bl_ 18 9) HT_ ?_
 refine pa_ 7 (some 51) (bl_ 18 137) HT_ ?_
 refine ta_ 1 (some 45) (bl_ 18 139) HT_ HW_ hHeld ?_
 refine pa_ 2 (some 46) (bl_ 18 143) HT_ ?_
 refine ta_ 4 (some 48) (bl_ 18 159) HT_ HW_ hHeld ?_
 refine pa_ 5 (some 49) (bl_ 18 191) HT_ ?_
 refine ta_ 8 (some 52) (bl_ 18 447) HT_ HW_ hHeld ?_
 refine pa_ 9 (some 53) (bl_ 18 959) HT_ ?_
 refine join_ (σ := Nat) 2 (bl_ 18 65535) (fun s_ => [(50, .agg #[.int .u64 t266, .int .u64 t267]), (54, .agg #[.int .u64 t268, .int .u64 t269]), (55, .tuple #[.agg #[.int .u64 t270, .int .u64 t271], .int .i64 t272]), (16, .pointer (some ⟨s_, 0, none⟩)), (43, .tuple #[.agg #[.int .u64 t270, .int .u64 t271], .int .i64 t272]), (56, .agg #[.int .u64 t270, .int .u64 t271]), (57, .int .i64 t272)]) (fun s_ w' => (w'.cell? ⟨gb254, 0, none⟩ = some (.int .i64 a3_0) ∧ w'.cell? ⟨gb254, 1, none⟩ = some (.int .i64 a3_1) ∧ w'.cell? ⟨gb254, 2, none⟩ = some (.int .i64 a3_2) ∧ w'.cell? ⟨gb254, 3, none⟩ = some (.int .i64 a3_3) ∧ w'.cell? ⟨gb254, 4, none⟩ = some (.int .i64 a3_4) ∧ w'.cell? ⟨gb254, 5, none⟩ = some (.int .u64 a3_5) ∧ w'.cell? ⟨gb253, 0, none⟩ = some (.int .i64 a0_0) ∧ w'.cell? ⟨gb253, 1, none⟩ = some (.int .i64 a0_1) ∧ w'.cell? ⟨gb253, 2, none⟩ = some (.int .i64 a0_2)) ∧ (w'.heap[gb253]? = some (.cells #[.int .i64 a0_0, .int .i64 a0_1, .int .i64 a0_2] 30 (0, 0))) ∧ (w'.heap[gb254]? = some (.cells #[.int .i64 a3_0, .int .i64 a3_1, .int .i64 a3_2, .int .i64 a3_3, .int .i64 a3_4, .int .u64 a3_5] 32 (0, 0))) ∧ (w'.heap[gb259]? = some (.cells #[.int .u64 t257, .int .u64 t258] 59 (0, 0))) ∧ (w'.heap[gb265]? = some (.cells #[.int .u64 t262, .int .u64 t263] 59 (0, 0))) ∧ (w'.heap[s_]? = some (.cells #[.int .u64 0, .int .u64 0] 59 (0, 0))) ∧ (w.heap.size ≤ s_) ∧ (w.heap.size ≤ s_) ∧ (gb253 ≠ s_) ∧ (s_ ≠ gb253) ∧ (gb254 ≠ s_) ∧ (s_ ≠ gb254) ∧ (gb259 ≠ s_) ∧ (s_ ≠ gb259) ∧ (gb265 ≠ s_) ∧ (s_ ≠ gb265) ∧ (Below w.heap.size w w')) ?_ ?_
 rotate_left
 ·intro hCont
  refine tw_ 6 15 (some 50) (some 16) (bl_ 18 1023) (bl_ 18 33727) HT_ (fun K hK => ?_) fun K hK => ?_
  ·refine goesB_ Try.func21 #[.int .u64 (IntKind.u64.wrap (a3_3)), .int .u64 (IntKind.u64.wrap (a0_2))] ?_
   with_reducible refine (wide_Mul.calls (IntKind.u64.wrap (a3_3)) (IntKind.u64.wrap (a0_2)) t266 t267 _ A10.out).mono ?_
   rintro e w35 ⟨rfl, hb⟩
   refine ⟨_, rfl, ?_⟩
   replace BK253 := bb_ BK253 hb
   replace BK254 := bb_ BK254 hb
   replace BK259 := bb_ BK259 hb
   replace BK265 := bb_ BK265 hb
   replace HB := bs_ w hb
   clear hb
   refine hK.out _ _ ⟨(blk_cell BK254.out 0).trans rfl, (blk_cell BK254.out 1).trans rfl, (blk_cell BK254.out 2).trans rfl, (blk_cell BK254.out 3).trans rfl, (blk_cell BK254.out 4).trans rfl, (blk_cell BK254.out 5).trans rfl, (blk_cell BK253.out 0).trans rfl, (blk_cell BK253.out 1).trans rfl, (blk_cell BK253.out 2).trans rfl⟩ (fun hHeld => ?_)
   clear hK K
   refine nm_ (some 50) ?_
   refine tw_ 10 15 (some 54) (some 16) (bl_ 18 2047) (bl_ 18 33791) HT_ (fun K hK => ?_) fun K hK => ?_
   ·refine goesB_ Try.func23 #[.int .u64 (IntKind.u64.wrap (a3_4))] ?_
    with_reducible refine (wide_Of.calls (IntKind.u64.wrap (a3_4)) t268 t269 _ A11.out).mono ?_
    rintro e w36 ⟨rfl, hb⟩
    refine ⟨_, rfl, ?_⟩
    replace BK253 := bb_ BK253 hb
    replace BK254 := bb_ BK254 hb
    replace BK259 := bb_ BK259 hb
    replace BK265 := bb_ BK265 hb
    replace HB := bs_ w hb
    clear hb
    refine hK.out _ _ ⟨(blk_cell BK254.out 0).trans rfl, (blk_cell BK254.out 1).trans rfl, (blk_cell BK254.out 2).trans rfl, (blk_cell BK254.out 3).trans rfl, (blk_cell BK254.out 4).trans rfl, (blk_cell BK254.out 5).trans rfl, (blk_cell BK253.out 0).trans rfl, (blk_cell BK253.out 1).trans rfl, (blk_cell BK253.out 2).trans rfl⟩ (fun hHeld => ?_)
    clear hK K
    refine nm_ (some 54) ?_
    refine tw_ 11 15 (some 55) (some 16) (bl_ 18 4095) (bl_ 18 34815) HT_ (fun K hK => ?_) fun K hK => ?_
    ·refine goesB_ Try.func22 #[.agg #[.int .u64 t266, .int .u64 t267], .agg #[.int .u64 t268, .int .u64 t269]] ?_
     with_reducible refine (wide_Add.calls t266 t267 t268 t269 t270 t271 t272 _ A12.out).mono ?_
     rintro e w37 ⟨rfl, hb⟩
     refine ⟨_, rfl, ?_⟩
     replace BK253 := bb_ BK253 hb
     replace BK254 := bb_ BK254 hb
     replace BK259 := bb_ BK259 hb
     replace BK265 := bb_ BK265 hb
     replace HB := bs_ w hb
     clear hb
     refine hK.out _ _ ⟨(blk_cell BK254.out 0).trans rfl, (blk_cell BK254.out 1).trans rfl, (blk_cell BK254.out 2).trans rfl, (blk_cell BK254.out 3).trans rfl, (blk_cell BK254.out 4).trans rfl, (blk_cell BK254.out 5).trans rfl, (blk_cell BK253.out 0).trans rfl, (blk_cell BK253.out 1).trans rfl, (blk_cell BK253.out 2).trans rfl⟩ (fun hHeld => ?_)
     clear hK K
     refine nm_ (some 55) ?_
     refine pa_ 12 (some 43) (bl_ 18 8191) HT_ ?_
     refine pa_ 13 (some 56) (bl_ 18 16383) HT_ ?_
     refine pa_ 14 (some 57) (bl_ 18 32767) HT_ ?_
     refine oa_ 15 (some 16) (bl_ 18 65535) HT_ fun K hK => ?_
     refine bs2_ #[.int .u64 0, .int .u64 0] 59 ?_
     intro gb273 hg w38 BK273 hb
     have GW273 := bz_ w hg
     have GE273 := GW273
     have NB253_273 := bn_ BK253 hg
     have NB273_253 := bm_ BK253 hg
     have NB254_273 := bn_ BK254 hg
     have NB273_254 := bm_ BK254 hg
     have NB259_273 := bn_ BK259 hg
     have NB273_259 := bm_ BK259 hg
     have NB265_273 := bn_ BK265 hg
     have NB273_265 := bm_ BK265 hg
     replace BK253 := bb_ BK253 hb
     replace BK254 := bb_ BK254 hb
     replace BK259 := bb_ BK259 hb
     replace BK265 := bb_ BK265 hb
     replace HB := bs_ w hb
     clear hb hg
     refine hK.out _ _ ⟨(blk_cell BK254.out 0).trans rfl, (blk_cell BK254.out 1).trans rfl, (blk_cell BK254.out 2).trans rfl, (blk_cell BK254.out 3).trans rfl, (blk_cell BK254.out 4).trans rfl, (blk_cell BK254.out 5).trans rfl, (blk_cell BK253.out 0).trans rfl, (blk_cell BK253.out 1).trans rfl, (blk_cell BK253.out 2).trans rfl⟩ (fun hHeld => ?_)
     clear hK K
     refine nm_ (some 16) ?_
     exact no_ (hCont (gb273) _ ⟨hHeld, (bq_ BK253), (bq_ BK254), (bq_ BK259), (bq_ BK265), (bq_ BK273), GW273.out, GE273.out, NB253_273.out, NB273_253.out, NB254_273.out, NB273_254.out, NB259_273.out, NB273_259.out, NB265_273.out, NB273_265.out, bh_⟩)
    ·refine bs2_ #[.int .u64 0, .int .u64 0] 59 ?_
     intro gb273 hg w37 BK273 hb
     have GW273 := bz_ w hg
     have GE273 := GW273
     have NB253_273 := bn_ BK253 hg
     have NB273_253 := bm_ BK253 hg
     have NB254_273 := bn_ BK254 hg
     have NB273_254 := bm_ BK254 hg
     have NB259_273 := bn_ BK259 hg
     have NB273_259 := bm_ BK259 hg
     have NB265_273 := bn_ BK265 hg
     have NB273_265 := bm_ BK265 hg
     replace BK253 := bb_ BK253 hb
     replace BK254 := bb_ BK254 hb
     replace BK259 := bb_ BK259 hb
     replace BK265 := bb_ BK265 hb
     replace HB := bs_ w hb
     clear hb hg
     refine hK.out _ _ ⟨(blk_cell BK254.out 0).trans rfl, (blk_cell BK254.out 1).trans rfl, (blk_cell BK254.out 2).trans rfl, (blk_cell BK254.out 3).trans rfl, (blk_cell BK254.out 4).trans rfl, (blk_cell BK254.out 5).trans rfl, (blk_cell BK253.out 0).trans rfl, (blk_cell BK253.out 1).trans rfl, (blk_cell BK253.out 2).trans rfl⟩ (fun hHeld => ?_)
     clear hK K
     refine nm_ (some 16) ?_
     refine oa_ 11 (some 55) (bl_ 18 36863) HT_ fun K hK => ?_
     refine goesB_ Try.func22 #[.agg #[.int .u64 t266, .int .u64 t267], .agg #[.int .u64 t268, .int .u64 t269]] ?_
     with_reducible refine (wide_Add.calls t266 t267 t268 t269 t270 t271 t272 _ A12.out).mono ?_
     rintro e w38 ⟨rfl, hb⟩
     refine ⟨_, rfl, ?_⟩
     replace BK253 := bb_ BK253 hb
     replace BK254 := bb_ BK254 hb
     replace BK259 := bb_ BK259 hb
     replace BK265 := bb_ BK265 hb
     replace BK273 := bb_ BK273 hb
     replace HB := bs_ w hb
     clear hb
     refine hK.out _ _ ⟨(blk_cell BK254.out 0).trans rfl, (blk_cell BK254.out 1).trans rfl, (blk_cell BK254.out 2).trans rfl, (blk_cell BK254.out 3).trans rfl, (blk_cell BK254.out 4).trans rfl, (blk_cell BK254.out 5).trans rfl, (blk_cell BK253.out 0).trans rfl, (blk_cell BK253.out 1).trans rfl, (blk_cell BK253.out 2).trans rfl⟩ (fun hHeld => ?_)
     clear hK K
     refine nm_ (some 55) ?_
     refine pa_ 12 (some 43) (bl_ 18 40959) HT_ ?_
     refine pa_ 13 (some 56) (bl_ 18 49151) HT_ ?_
     refine pa_ 14 (some 57) (bl_ 18 65535) HT_ ?_
     exact no_ (hCont (gb273) _ ⟨hHeld, (bq_ BK253), (bq_ BK254), (bq_ BK259), (bq_ BK265), (bq_ BK273), GW273.out, GE273.out, NB253_273.out, NB273_253.out, NB254_273.out, NB273_254.out, NB259_273.out, NB273_259.out, NB265_273.out, NB273_265.out, bh_⟩)
   ·refine bs2_ #[.int .u64 0, .int .u64 0] 59 ?_
    intro gb273 hg w36 BK273 hb
    have GW273 := bz_ w hg
    have GE273 := GW273
    have NB253_273 := bn_ BK253 hg
    have NB273_253 := bm_ BK253 hg
    have NB254_273 := bn_ BK254 hg
    have NB273_254 := bm_ BK254 hg
    have NB259_273 := bn_ BK259 hg
    have NB273_259 := bm_ BK259 hg
    have NB265_273 := bn_ BK265 hg
    have NB273_265 := bm_ BK265 hg
    replace BK253 := bb_ BK253 hb
    replace BK254 := bb_ BK254 hb
    replace BK259 := bb_ BK259 hb
    replace BK265 := bb_ BK265 hb
    replace HB := bs_ w hb
    clear hb hg
    refine hK.out _ _ ⟨(blk_cell BK254.out 0).trans rfl, (blk_cell BK254.out 1).trans rfl, (blk_cell BK254.out 2).trans rfl, (blk_cell BK254.out 3).trans rfl, (blk_cell BK254.out 4).trans rfl, (blk_cell BK254.out 5).trans rfl, (blk_cell BK253.out 0).trans rfl, (blk_cell BK253.out 1).trans rfl, (blk_cell BK253.out 2).trans rfl⟩ (fun hHeld => ?_)
    clear hK K
    refine nm_ (some 16) ?_
    refine oa_ 10 (some 54) (bl_ 18 34815) HT_ fun K hK => ?_
    refine goesB_ Try.func23 #[.int .u64 (IntKind.u64.wrap (a3_4))] ?_
    with_reducible refine (wide_Of.calls (IntKind.u64.wrap (a3_4)) t268 t269 _ A11.out).mono ?_
    rintro e w37 ⟨rfl, hb⟩
    refine ⟨_, rfl, ?_⟩
    replace BK253 := bb_ BK253 hb
    replace BK254 := bb_ BK254 hb
    replace BK259 := bb_ BK259 hb
    replace BK265 := bb_ BK265 hb
    replace BK273 := bb_ BK273 hb
    replace HB := bs_ w hb
    clear hb
    refine hK.out _ _ ⟨(blk_cell BK254.out 0).trans rfl, (blk_cell BK254.out 1).trans rfl, (blk_cell BK254.out 2).trans rfl, (blk_cell BK254.out 3).trans rfl, (blk_cell BK254.out 4).trans rfl, (blk_cell BK254.out 5).trans rfl, (blk_cell BK253.out 0).trans rfl, (blk_cell BK253.out 1).trans rfl, (blk_cell BK253.out 2).trans rfl⟩ (fun hHeld => ?_)
    clear hK K
    refine nm_ (some 54) ?_
    refine oa_ 11 (some 55) (bl_ 18 36863) HT_ fun K hK => ?_
    refine goesB_ Try.func22 #[.agg #[.int .u64 t266, .int .u64 t267], .agg #[.int .u64 t268, .int .u64 t269]] ?_
    with_reducible refine (wide_Add.calls t266 t267 t268 t269 t270 t271 t272 _ A12.out).mono ?_
    rintro e w38 ⟨rfl, hb⟩
    refine ⟨_, rfl, ?_⟩
    replace BK253 := bb_ BK253 hb
    replace BK254 := bb_ BK254 hb
    replace BK259 := bb_ BK259 hb
    replace BK265 := bb_ BK265 hb
    replace BK273 := bb_ BK273 hb
    replace HB := bs_ w hb
    clear hb
    refine hK.out _ _ ⟨(blk_cell BK254.out 0).trans rfl, (blk_cell BK254.out 1).trans rfl, (blk_cell BK254.out 2).trans rfl, (blk_cell BK254.out 3).trans rfl, (blk_cell BK254.out 4).trans rfl, (blk_cell BK254.out 5).trans rfl, (blk_cell BK253.out 0).trans rfl, (blk_cell BK253.out 1).trans rfl, (blk_cell BK253.out 2).trans rfl⟩ (fun hHeld => ?_)
    clear hK K
    refine nm_ (some 55) ?_
    refine pa_ 12 (some 43) (bl_ 18 40959) HT_ ?_
    refine pa_ 13 (some 56) (bl_ 18 49151) HT_ ?_
    refine pa_ 14 (some 57) (bl_ 18 65535) HT_ ?_
    exact no_ (hCont (gb273) _ ⟨hHeld, (bq_ BK253), (bq_ BK254), (bq_ BK259), (bq_ BK265), (bq_ BK273), GW273.out, GE273.out, NB253_273.out, NB273_253.out, NB254_273.out, NB273_254.out, NB259_273.out, NB273_259.out, NB265_273.out, NB273_265.out, bh_⟩)
  ·refine bs2_ #[.int .u64 0, .int .u64 0] 59 ?_
   intro gb273 hg w35 BK273 hb
   have GW273 := bz_ w hg
   have GE273 := GW273
   have NB253_273 := bn_ BK253 hg
   have NB273_253 := bm_ BK253 hg
   have NB254_273 := bn_ BK254 hg
   have NB273_254 := bm_ BK254 hg
   have NB259_273 := bn_ BK259 hg
   have NB273_259 := bm_ BK259 hg
   have NB265_273 := bn_ BK265 hg
   have NB273_265 := bm_ BK265 hg
   replace BK253 := bb_ BK253 hb
   replace BK254 := bb_ BK254 hb
   replace BK259 := bb_ BK259 hb
   replace BK265 := bb_ BK265 hb
   replace HB := bs_ w hb
   clear hb hg
   refine hK.out _ _ ⟨(blk_cell BK254.out 0).trans rfl, (blk_cell BK254.out 1).trans rfl, (blk_cell BK254.out 2).trans rfl, (blk_cell BK254.out 3).trans rfl, (blk_cell BK254.out 4).trans rfl, (blk_cell BK254.out 5).trans rfl, (blk_cell BK253.out 0).trans rfl, (blk_cell BK253.out 1).trans rfl, (blk_cell BK253.out 2).trans rfl⟩ (fun hHeld => ?_)
   clear hK K
   refine nm_ (some 16) ?_
   refine oa_ 6 (some 50) (bl_ 18 33791) HT_ fun K hK => ?_
   refine goesB_ Try.func21 #[.int .u64 (IntKind.u64.wrap (a3_3)), .int .u64 (IntKind.u64.wrap (a0_2))] ?_
   with_reducible refine (wide_Mul.calls (IntKind.u64.wrap (a3_3)) (IntKind.u64.wrap (a0_2)) t266 t267 _ A10.out).mono ?_
   rintro e w36 ⟨rfl, hb⟩
   refine ⟨_, rfl, ?_⟩
   replace BK253 := bb_ BK253 hb
   replace BK254 := bb_ BK254 hb
   replace BK259 := bb_ BK259 hb
   replace BK265 := bb_ BK265 hb
   replace BK273 := bb_ BK273 hb
   replace HB := bs_ w hb
   clear hb
   refine hK.out _ _ ⟨(blk_cell BK254.out 0).trans rfl, (blk_cell BK254.out 1).trans rfl, (blk_cell BK254.out 2).trans rfl, (blk_cell BK254.out 3).trans rfl, (blk_cell BK254.out 4).trans rfl, (blk_cell BK254.out 5).trans rfl, (blk_cell BK253.out 0).trans rfl, (blk_cell BK253.out 1).trans rfl, (blk_cell BK253.out 2).trans rfl⟩ (fun hHeld => ?_)
   clear hK K
   refine nm_ (some 50) ?_
   refine oa_ 10 (some 54) (bl_ 18 34815) HT_ fun K hK => ?_
   refine goesB_ Try.func23 #[.int .u64 (IntKind.u64.wrap (a3_4))] ?_
   with_reducible refine (wide_Of.calls (IntKind.u64.wrap (a3_4)) t268 t269 _ A11.out).mono ?_
   rintro e w37 ⟨rfl, hb⟩
   refine ⟨_, rfl, ?_⟩
   replace BK253 := bb_ BK253 hb
   replace BK254 := bb_ BK254 hb
   replace BK259 := bb_ BK259 hb
   replace BK265 := bb_ BK265 hb
   replace BK273 := bb_ BK273 hb
   replace HB := bs_ w hb
   clear hb
   refine hK.out _ _ ⟨(blk_cell BK254.out 0).trans rfl, (blk_cell BK254.out 1).trans rfl, (blk_cell BK254.out 2).trans rfl, (blk_cell BK254.out 3).trans rfl, (blk_cell BK254.out 4).trans rfl, (blk_cell BK254.out 5).trans rfl, (blk_cell BK253.out 0).trans rfl, (blk_cell BK253.out 1).trans rfl, (blk_cell BK253.out 2).trans rfl⟩ (fun hHeld => ?_)
   clear hK K
   refine nm_ (some 54) ?_
   refine oa_ 11 (some 55) (bl_ 18 36863) HT_ fun K hK => ?_
   refine goesB_ Try.func22 #[.agg #[.int .u64 t266, .int .u64 t267], .agg #[.int .u64 t268, .int .u64 t269]] ?_
   with_reducible refine (wide_Add.calls t266 t267 t268 t269 t270 t271 t272 _ A12.out).mono ?_
   rintro e w38 ⟨rfl, hb⟩
   refine ⟨_, rfl, ?_⟩
   replace BK253 := bb_ BK253 hb
   replace BK254 := bb_ BK254 hb
   replace BK259 := bb_ BK259 hb
   replace BK265 := bb_ BK265 hb
   replace BK273 := bb_ BK273 hb
   replace HB := bs_ w hb
   clear hb
   refine hK.out _ _ ⟨(blk_cell BK254.out 0).trans rfl, (blk_cell BK254.out 1).trans rfl, (blk_cell BK254.out 2).trans rfl, (blk_cell BK254.out 3).trans rfl, (blk_cell BK254.out 4).trans rfl, (blk_cell BK254.out 5).trans rfl, (blk_cell BK253.out 0).trans rfl, (blk_cell BK253.out 1).trans rfl, (blk_cell BK253.out 2).trans rfl⟩ (fun hHeld => ?_)
   clear hK K
   refine nm_ (some 55) ?_
   refine pa_ 12 (some 43) (bl_ 18 40959) HT_ ?_
   refine pa_ 13 (some 56) (bl_ 18 49151) HT_ ?_
   refine pa_ 14 (some 57) (bl_ 18 65535) HT_ ?_
   exact no_ (hCont (gb273) _ ⟨hHeld, (bq_ BK253), (bq_ BK254), (bq_ BK259), (bq_ BK265), (bq_ BK273), GW273.out, GE273.out, NB253_273.out, NB273_253.out, NB254_273.out, NB273_254.out, NB259_273.out, NB273_259.out, NB265_273.out, NB273_265.out, bh_⟩)
 rintro gb273 w39 ⟨hS_, h0_, h1_, h2_, h3_, h4_, h5_, h6_, h7_, h8_, h9_, h10_, h11_, h12_, h13_, h14_, h15_⟩
 have BK273 := Aside0.mk h4_
 have GW273 := Aside0.mk h5_
 have GE273 := Aside0.mk h6_
 have NB253_273 := Aside0.mk h7_
 have NB273_253 := Aside0.mk h8_
 have NB254_273 := Aside0.mk h9_
 have NB273_254 := Aside0.mk h10_
 have NB259_273 := Aside0.mk h11_
 have NB273_259 := Aside0.mk h12_
 have NB265_273 := Aside0.mk h13_
 have NB273_265 := Aside0.mk h14_
 replace BK253 := Aside0.mk h0_
 replace BK254 := Aside0.mk h1_
 replace BK259 := Aside0.mk h2_
 replace BK265 := Aside0.mk h3_
 replace HB := Aside0.mk h15_
 clear h0_ h1_ h2_ h3_ h4_ h5_ h6_ h7_ h8_ h9_ h10_ h11_ h12_ h13_ h14_ h15_
 have hHeld := hS_
 refine nq_ ?_
 refine oa_ 16 none (bl_ 18 131071) HT_ fun K hK => ?_
 have hs40 : w39.cell? ⟨gb273, 0, none⟩ = some (.int .u64 0) := (blk_cell BK273.out 0).trans rfl
 have hfs40 := blk_frozen BK273.out 0
 have hns40_0 := NB253_273.out
 have hns40_1 := NB254_273.out
 have hns40_2 := NB259_273.out
 have hns40_3 := NB265_273.out
 have hms40_0 := NB273_253.out
 have hms40_1 := NB273_254.out
 have hms40_2 := NB273_259.out
 have hms40_3 := NB273_265.out
 have hs41 : w39.cell? ⟨gb273, 1, none⟩ = some (.int .u64 0) := (blk_cell BK273.out 1).trans rfl
 have hfs41 := blk_frozen BK273.out 1
 have hns41_0 := NB253_273.out
 have hns41_1 := NB254_273.out
 have hns41_2 := NB259_273.out
 have hns41_3 := NB265_273.out
 have hms41_0 := NB273_253.out
 have hms41_1 := NB273_254.out
 have hms41_2 := NB273_259.out
 have hms41_3 := NB273_265.out
 refine sk_ ?_
 refine hK.out _ _ ⟨((cell_far (p := ⟨gb273, _, none⟩) NB254_273.out _).trans (((cell_far (p := ⟨gb273, _, none⟩) NB254_273.out _).trans (hHeld.1)))), ((cell_far (p := ⟨gb273, _, none⟩) NB254_273.out _).trans (((cell_far (p := ⟨gb273, _, none⟩) NB254_273.out _).trans (hHeld.2.1)))), ((cell_far (p := ⟨gb273, _, none⟩) NB254_273.out _).trans (((cell_far (p := ⟨gb273, _, none⟩) NB254_273.out _).trans (hHeld.2.2.1)))), ((cell_far (p := ⟨gb273, _, none⟩) NB254_273.out _).trans (((cell_far (p := ⟨gb273, _, none⟩) NB254_273.out _).trans (hHeld.2.2.2.1)))), ((cell_far (p := ⟨gb273, _, none⟩) NB254_273.out _).trans (((cell_far (p := ⟨gb273, _, none⟩) NB254_273.out _).trans (hHeld.2.2.2.2.1)))), ((cell_far (p := ⟨gb273, _, none⟩) NB254_273.out _).trans (((cell_far (p := ⟨gb273, _, none⟩) NB254_273.out _).trans (hHeld.2.2.2.2.2.1)))), ((cell_far (p := ⟨gb273, _, none⟩) NB253_273.out _).trans (((cell_far (p := ⟨gb273, _, none⟩) NB253_273.out _).trans (hHeld.2.2.2.2.2.2.1)))), ((cell_far (p := ⟨gb273, _, none⟩) NB253_273.out _).trans (((cell_far (p := ⟨gb273, _, none⟩) NB253_273.out _).trans (hHeld.2.2.2.2.2.2.2.1)))), ((cell_far (p := ⟨gb273, _, none⟩) NB253_273.out _).trans (((cell_far (p := ⟨gb273, _, none⟩) NB253_273.out _).trans (hHeld.2.2.2.2.2.2.2.2))))⟩ (fun hHeld => ?_)
 clear hK K
 refine pa_ 17 (some 17) (bl_ 18 262143) HT_ ?_
 refine done_ (done_of HT_.out (by kernel_rfl)) ?_
 try go_wp2
 have n0_ : Aside0 (((w39.setCell ⟨gb273, 0, none⟩ (.int .u64 t270)).setCell ⟨gb273, 1, none⟩ (.int .u64 t271)).heap[gb253]? = some (.cells #[.int .i64 a0_0, .int .i64 a0_1, .int .i64 a0_2] 30 (0, 0))) := ⟨(bt_ BK253)⟩
 have n1_ : Aside0 (((w39.setCell ⟨gb273, 0, none⟩ (.int .u64 t270)).setCell ⟨gb273, 1, none⟩ (.int .u64 t271)).heap[gb254]? = some (.cells #[.int .i64 a3_0, .int .i64 a3_1, .int .i64 a3_2, .int .i64 a3_3, .int .i64 a3_4, .int .u64 a3_5] 32 (0, 0))) := ⟨(bt_ BK254)⟩
 have n2_ : Aside0 (((w39.setCell ⟨gb273, 0, none⟩ (.int .u64 t270)).setCell ⟨gb273, 1, none⟩ (.int .u64 t271)).heap[gb259]? = some (.cells #[.int .u64 t257, .int .u64 t258] 59 (0, 0))) := ⟨(bt_ BK259)⟩
 have n3_ : Aside0 (((w39.setCell ⟨gb273, 0, none⟩ (.int .u64 t270)).setCell ⟨gb273, 1, none⟩ (.int .u64 t271)).heap[gb265]? = some (.cells #[.int .u64 t262, .int .u64 t263] 59 (0, 0))) := ⟨(bt_ BK265)⟩
 have n4_ : Aside0 (((w39.setCell ⟨gb273, 0, none⟩ (.int .u64 t270)).setCell ⟨gb273, 1, none⟩ (.int .u64 t271)).heap[gb273]? = some (.cells #[.int .u64 t270, .int .u64 t271] 59 (0, 0))) := ⟨(bp2_ (bq_ BK273))⟩
 have n5_ : Aside0 (Below w.heap.size w ((w39.setCell ⟨gb273, 0, none⟩ (.int .u64 t270)).setCell ⟨gb273, 1, none⟩ (.int .u64 t271))) := bw_
 (try clear BK253)
 (try clear BK254)
 (try clear BK259)
 (try clear BK265)
 (try clear BK273)
 (try clear HB)
 generalize ((w39.setCell ⟨gb273, 0, none⟩ (.int .u64 t270)).setCell ⟨gb273, 1, none⟩ (.int .u64 t271)) = w42 at n0_ n1_ n2_ n3_ n4_ n5_ ⊢
 have BK253 := n0_
 have BK254 := n1_
 have BK259 := n2_
 have BK265 := n3_
 have BK273 := n4_
 have HB := n5_
 clear n0_ n1_ n2_ n3_ n4_ n5_
 replace BK253 := Aside0.mk (blk_drew BK253.out)
 replace BK254 := Aside0.mk (blk_drew BK254.out)
 replace BK259 := Aside0.mk (blk_drew BK259.out)
 replace BK265 := Aside0.mk (blk_drew BK265.out)
 replace BK273 := Aside0.mk (blk_drew BK273.out)
 replace HB := Aside0.mk (below_drew1 HB.out)
 refine start_ (n := 13) (S := fun w' => w'.cell? ⟨gb273, 0, none⟩ = some (.int .u64 t270) ∧ w'.cell? ⟨gb273, 1, none⟩ = some (.int .u64 t271) ∧ w'.cell? ⟨gb253, 0, none⟩ = some (.int .i64 a0_0) ∧ w'.cell? ⟨gb253, 1, none⟩ = some (.int .i64 a0_1) ∧ w'.cell? ⟨gb253, 2, none⟩ = some (.int .i64 a0_2)) (ds := []) (bl_ 13 0) (by kernel_rfl) rfl (by kernel_rfl) ⟨(blk_cell BK273.out 0).trans rfl, (blk_cell BK273.out 1).trans rfl, (blk_cell BK253.out 0).trans rfl, (blk_cell BK253.out 1).trans rfl, (blk_cell BK253.out 2).trans rfl⟩ (fun hHeld => ?_); refine with_tabW spigottop_bounded04.tab5 spigottop_bounded04.bits5 (fun HT_ HW_ => ?_)
 generalize w42.drew = w43 at BK253 BK254 BK259 BK265 BK273 HB hHeld ⊢
 refine pa_ 1 (some 60) (bl_ 13 2) HT_ ?_
 refine pa_ 2 (some 61) (bl_ 13 6) HT_ ?_
 refine ta_ 0 (some 59) (bl_ 13 7) HT_ HW_ hHeld ?_
 refine ta_ 3 (some 62) (bl_ 13 15) HT_ HW_ hHeld ?_
 refine pa_ 4 (some 63) (bl_ 13 31) HT_ ?_
 refine join_ (σ := Nat) 2 (bl_ 13 2047) (fun s_ => [(64, .agg #[.int .u64 t274, .int .u64 t275]), (65, .tuple #[.agg #[.int .u64 t276, .int .u64 t277], .int .i64 t278]), (18, .pointer (some ⟨s_, 0, none⟩)), (58, .tuple #[.agg #[.int .u64 t276, .int .u64 t277], .int .i64 t278]), (66, .agg #[.int .u64 t276, .int .u64 t277]), (67, .int .i64 t278)]) (fun s_ w' => (w'.cell? ⟨gb273, 0, none⟩ = some (.int .u64 t270) ∧ w'.cell? ⟨gb273, 1, none⟩ = some (.int .u64 t271) ∧ w'.cell? ⟨gb253, 0, none⟩ = some (.int .i64 a0_0) ∧ w'.cell? ⟨gb253, 1, none⟩ = some (.int .i64 a0_1) ∧ w'.cell? ⟨gb253, 2, none⟩ = some (.int .i64 a0_2)) ∧ (w'.heap[gb253]? = some (.cells #[.int .i64 a0_0, .int .i64 a0_1, .int .i64 a0_2] 30 (0, 0))) ∧ (w'.heap[gb254]? = some (.cells #[.int .i64 a3_0, .int .i64 a3_1, .int .i64 a3_2, .int .i64 a3_3, .int .i64 a3_4, .int .u64 a3_5] 32 (0, 0))) ∧ (w'.heap[gb259]? = some (.cells #[.int .u64 t257, .int .u64 t258] 59 (0, 0))) ∧ (w'.heap[gb265]? = some (.cells #[.int .u64 t262, .int .u64 t263] 59 (0, 0))) ∧ (w'.heap[gb273]? = some (.cells #[.int .u64 t270, .int .u64 t271] 59 (0, 0))) ∧ (w'.heap[s_]? = some (.cells #[.int .u64 0, .int .u64 0] 59 (0, 0))) ∧ (w.heap.size ≤ s_) ∧ (w.heap.size ≤ s_) ∧ (gb253 ≠ s_) ∧ (s_ ≠ gb253) ∧ (gb254 ≠ s_) ∧ (s_ ≠ gb254) ∧ (gb259 ≠ s_) ∧ (s_ ≠ gb259) ∧ (gb265 ≠ s_) ∧ (s_ ≠ gb265) ∧ (gb273 ≠ s_) ∧ (s_ ≠ gb273) ∧ (Below w.heap.size w w')) ?_ ?_
 rotate_left
 ·intro hCont
  refine tw_ 5 10 (some 64) (some 18) (bl_ 13 63) (bl_ 13 1055) HT_ (fun K hK => ?_) fun K hK => ?_
  ·refine goesB_ Try.func21 #[.int .u64 a4, .int .u64 (IntKind.u64.wrap (a0_2))] ?_
   with_reducible refine (wide_Mul.calls a4 (IntKind.u64.wrap (a0_2)) t274 t275 _ A13.out).mono ?_
   rintro e w44 ⟨rfl, hb⟩
   refine ⟨_, rfl, ?_⟩
   replace BK253 := bb_ BK253 hb
   replace BK254 := bb_ BK254 hb
   replace BK259 := bb_ BK259 hb
   replace BK265 := bb_ BK265 hb
   replace BK273 := bb_ BK273 hb
   replace HB := bs_ w hb
   clear hb
   refine hK.out _ _ ⟨(blk_cell BK273.out 0).trans rfl, (blk_cell BK273.out 1).trans rfl, (blk_cell BK253.out 0).trans rfl, (blk_cell BK253.out 1).trans rfl, (blk_cell BK253.out 2).trans rfl⟩ (fun hHeld => ?_)
   clear hK K
   refine nm_ (some 64) ?_
   refine tw_ 6 10 (some 65) (some 18) (bl_ 13 127) (bl_ 13 1087) HT_ (fun K hK => ?_) fun K hK => ?_
   ·refine goesB_ Try.func22 #[.agg #[.int .u64 t270, .int .u64 t271], .agg #[.int .u64 t274, .int .u64 t275]] ?_
    with_reducible refine (wide_Add.calls t270 t271 t274 t275 t276 t277 t278 _ A14.out).mono ?_
    rintro e w45 ⟨rfl, hb⟩
    refine ⟨_, rfl, ?_⟩
    replace BK253 := bb_ BK253 hb
    replace BK254 := bb_ BK254 hb
    replace BK259 := bb_ BK259 hb
    replace BK265 := bb_ BK265 hb
    replace BK273 := bb_ BK273 hb
    replace HB := bs_ w hb
    clear hb
    refine hK.out _ _ ⟨(blk_cell BK273.out 0).trans rfl, (blk_cell BK273.out 1).trans rfl, (blk_cell BK253.out 0).trans rfl, (blk_cell BK253.out 1).trans rfl, (blk_cell BK253.out 2).trans rfl⟩ (fun hHeld => ?_)
    clear hK K
    refine nm_ (some 65) ?_
    refine pa_ 7 (some 58) (bl_ 13 255) HT_ ?_
    refine pa_ 8 (some 66) (bl_ 13 511) HT_ ?_
    refine pa_ 9 (some 67) (bl_ 13 1023) HT_ ?_
    refine oa_ 10 (some 18) (bl_ 13 2047) HT_ fun K hK => ?_
    refine bs2_ #[.int .u64 0, .int .u64 0] 59 ?_
    intro gb279 hg w46 BK279 hb
    have GW279 := bz_ w hg
    have GE279 := GW279
    have NB253_279 := bn_ BK253 hg
    have NB279_253 := bm_ BK253 hg
    have NB254_279 := bn_ BK254 hg
    have NB279_254 := bm_ BK254 hg
    have NB259_279 := bn_ BK259 hg
    have NB279_259 := bm_ BK259 hg
    have NB265_279 := bn_ BK265 hg
    have NB279_265 := bm_ BK265 hg
    have NB273_279 := bn_ BK273 hg
    have NB279_273 := bm_ BK273 hg
    replace BK253 := bb_ BK253 hb
    replace BK254 := bb_ BK254 hb
    replace BK259 := bb_ BK259 hb
    replace BK265 := bb_ BK265 hb
    replace BK273 := bb_ BK273 hb
    replace HB := bs_ w hb
    clear hb hg
    refine hK.out _ _ ⟨(blk_cell BK273.out 0).trans rfl, (blk_cell BK273.out 1).trans rfl, (blk_cell BK253.out 0).trans rfl, (blk_cell BK253.out 1).trans rfl, (blk_cell BK253.out 2).trans rfl⟩ (fun hHeld => ?_)
    clear hK K
    refine nm_ (some 18) ?_
    exact no_ (hCont (gb279) _ ⟨hHeld, (bq_ BK253), (bq_ BK254), (bq_ BK259), (bq_ BK265), (bq_ BK273), (bq_ BK279), GW279.out, GE279.out, NB253_279.out, NB279_253.out, NB254_279.out, NB279_254.out, NB259_279.out, NB279_259.out, NB265_279.out, NB279_265.out, NB273_279.out, NB279_273.out, bh_⟩)
   ·refine bs2_ #[.int .u64 0, .int .u64 0] 59 ?_
    intro gb279 hg w45 BK279 hb
    have GW279 := bz_ w hg
    have GE279 := GW279
    have NB253_279 := bn_ BK253 hg
    have NB279_253 := bm_ BK253 hg
    have NB254_279 := bn_ BK254 hg
    have NB279_254 := bm_ BK254 hg
    have NB259_279 := bn_ BK259 hg
    have NB279_259 := bm_ BK259 hg
    have NB265_279 := bn_ BK265 hg
    have NB279_265 := bm_ BK265 hg
    have NB273_279 := bn_ BK273 hg
    have NB279_273 := bm_ BK273 hg
    replace BK253 := bb_ BK253 hb
    replace BK254 := bb_ BK254 hb
    replace BK259 := bb_ BK259 hb
    replace BK265 := bb_ BK265 hb
    replace BK273 := bb_ BK273 hb
    replace HB := bs_ w hb
    clear hb hg
    refine hK.out _ _ ⟨(blk_cell BK273.out 0).trans rfl, (blk_cell BK273.out 1).trans rfl, (blk_cell BK253.out 0).trans rfl, (blk_cell BK253.out 1).trans rfl, (blk_cell BK253.out 2).trans rfl⟩ (fun hHeld => ?_)
    clear hK K
    refine nm_ (some 18) ?_
    refine oa_ 6 (some 65) (bl_ 13 1151) HT_ fun K hK => ?_
    refine goesB_ Try.func22 #[.agg #[.int .u64 t270, .int .u64 t271], .agg #[.int .u64 t274, .int .u64 t275]] ?_
    with_reducible refine (wide_Add.calls t270 t271 t274 t275 t276 t277 t278 _ A14.out).mono ?_
    rintro e w46 ⟨rfl, hb⟩
    refine ⟨_, rfl, ?_⟩
    replace BK253 := bb_ BK253 hb
    replace BK254 := bb_ BK254 hb
    replace BK259 := bb_ BK259 hb
    replace BK265 := bb_ BK265 hb
    replace BK273 := bb_ BK273 hb
    replace BK279 := bb_ BK279 hb
    replace HB := bs_ w hb
    clear hb
    refine hK.out _ _ ⟨(blk_cell BK273.out 0).trans rfl, (blk_cell BK273.out 1).trans rfl, (blk_cell BK253.out 0).trans rfl, (blk_cell BK253.out 1).trans rfl, (blk_cell BK253.out 2).trans rfl⟩ (fun hHeld => ?_)
    clear hK K
    refine nm_ (some 65) ?_
    refine pa_ 7 (some 58) (bl_ 13 1279) HT_ ?_
    refine pa_ 8 (some 66) (bl_ 13 1535) HT_ ?_
    refine pa_ 9 (some 67) (bl_ 13 2047) HT_ ?_
    exact no_ (hCont (gb279) _ ⟨hHeld, (bq_ BK253), (bq_ BK254), (bq_ BK259), (bq_ BK265), (bq_ BK273), (bq_ BK279), GW279.out, GE279.out, NB253_279.out, NB279_253.out, NB254_279.out, NB279_254.out, NB259_279.out, NB279_259.out, NB265_279.out, NB279_265.out, NB273_279.out, NB279_273.out, bh_⟩)
  ·refine bs2_ #[.int .u64 0, .int .u64 0] 59 ?_
   intro gb279 hg w44 BK279 hb
   have GW279 := bz_ w hg
   have GE279 := GW279
   have NB253_279 := bn_ BK253 hg
   have NB279_253 := bm_ BK253 hg
   have NB254_279 := bn_ BK254 hg
   have NB279_254 := bm_ BK254 hg
   have NB259_279 := bn_ BK259 hg
   have NB279_259 := bm_ BK259 hg
   have NB265_279 := bn_ BK265 hg
   have NB279_265 := bm_ BK265 hg
   have NB273_279 := bn_ BK273 hg
   have NB279_273 := bm_ BK273 hg
   replace BK253 := bb_ BK253 hb
   replace BK254 := bb_ BK254 hb
   replace BK259 := bb_ BK259 hb
   replace BK265 := bb_ BK265 hb
   replace BK273 := bb_ BK273 hb
   replace HB := bs_ w hb
   clear hb hg
   refine hK.out _ _ ⟨(blk_cell BK273.out 0).trans rfl, (blk_cell BK273.out 1).trans rfl, (blk_cell BK253.out 0).trans rfl, (blk_cell BK253.out 1).trans rfl, (blk_cell BK253.out 2).trans rfl⟩ (fun hHeld => ?_)
   clear hK K
   refine nm_ (some 18) ?_
   refine oa_ 5 (some 64) (bl_ 13 1087) HT_ fun K hK => ?_
   refine goesB_ Try.func21 #[.int .u64 a4, .int .u64 (IntKind.u64.wrap (a0_2))] ?_
   with_reducible refine (wide_Mul.calls a4 (IntKind.u64.wrap (a0_2)) t274 t275 _ A13.out).mono ?_
   rintro e w45 ⟨rfl, hb⟩
   refine ⟨_, rfl, ?_⟩
   replace BK253 := bb_ BK253 hb
   replace BK254 := bb_ BK254 hb
   replace BK259 := bb_ BK259 hb
   replace BK265 := bb_ BK265 hb
   replace BK273 := bb_ BK273 hb
   replace BK279 := bb_ BK279 hb
   replace HB := bs_ w hb
   clear hb
   refine hK.out _ _ ⟨(blk_cell BK273.out 0).trans rfl, (blk_cell BK273.out 1).trans rfl, (blk_cell BK253.out 0).trans rfl, (blk_cell BK253.out 1).trans rfl, (blk_cell BK253.out 2).trans rfl⟩ (fun hHeld => ?_)
   clear hK K
   refine nm_ (some 64) ?_
   refine oa_ 6 (some 65) (bl_ 13 1151) HT_ fun K hK => ?_
   refine goesB_ Try.func22 #[.agg #[.int .u64 t270, .int .u64 t271], .agg #[.int .u64 t274, .int .u64 t275]] ?_
   with_reducible refine (wide_Add.calls t270 t271 t274 t275 t276 t277 t278 _ A14.out).mono ?_
   rintro e w46 ⟨rfl, hb⟩
   refine ⟨_, rfl, ?_⟩
   replace BK253 := bb_ BK253 hb
   replace BK254 := bb_ BK254 hb
   replace BK259 := bb_ BK259 hb
   replace BK265 := bb_ BK265 hb
   replace BK273 := bb_ BK273 hb
   replace BK279 := bb_ BK279 hb
   replace HB := bs_ w hb
   clear hb
   refine hK.out _ _ ⟨(blk_cell BK273.out 0).trans rfl, (blk_cell BK273.out 1).trans rfl, (blk_cell BK253.out 0).trans rfl, (blk_cell BK253.out 1).trans rfl, (blk_cell BK253.out 2).trans rfl⟩ (fun hHeld => ?_)
   clear hK K
   refine nm_ (some 65) ?_
   refine pa_ 7 (some 58) (bl_ 13 1279) HT_ ?_
   refine pa_ 8 (some 66) (bl_ 13 1535) HT_ ?_
   refine pa_ 9 (some 67) (bl_ 13 2047) HT_ ?_
   exact no_ (hCont (gb279) _ ⟨hHeld, (bq_ BK253), (bq_ BK254), (bq_ BK259), (bq_ BK265), (bq_ BK273), (bq_ BK279), GW279.out, GE279.out, NB253_279.out, NB279_253.out, NB254_279.out, NB279_254.out, NB259_279.out, NB279_259.out, NB265_279.out, NB279_265.out, NB273_279.out, NB279_273.out, bh_⟩)
 rintro gb279 w47 ⟨hS_, h0_, h1_, h2_, h3_, h4_, h5_, h6_, h7_, h8_, h9_, h10_, h11_, h12_, h13_, h14_, h15_, h16_, h17_, h18_⟩
 have BK279 := Aside0.mk h5_
 have GW279 := Aside0.mk h6_
 have GE279 := Aside0.mk h7_
 have NB253_279 := Aside0.mk h8_
 have NB279_253 := Aside0.mk h9_
 have NB254_279 := Aside0.mk h10_
 have NB279_254 := Aside0.mk h11_
 have NB259_279 := Aside0.mk h12_
 have NB279_259 := Aside0.mk h13_
 have NB265_279 := Aside0.mk h14_
 have NB279_265 := Aside0.mk h15_
 have NB273_279 := Aside0.mk h16_
 have NB279_273 := Aside0.mk h17_
 replace BK253 := Aside0.mk h0_
 replace BK254 := Aside0.mk h1_
 replace BK259 := Aside0.mk h2_
 replace BK265 := Aside0.mk h3_
 replace BK273 := Aside0.mk h4_
 replace HB := Aside0.mk h18_
 clear h0_ h1_ h2_ h3_ h4_ h5_ h6_ h7_ h8_ h9_ h10_ h11_ h12_ h13_ h14_ h15_ h16_ h17_ h18_
 have hHeld := hS_
 refine nq_ ?_
 refine oa_ 11 none (bl_ 13 4095) HT_ fun K hK => ?_
 have hs48 : w47.cell? ⟨gb279, 0, none⟩ = some (.int .u64 0) := (blk_cell BK279.out 0).trans rfl
 have hfs48 := blk_frozen BK279.out 0
 have hns48_0 := NB253_279.out
 have hns48_1 := NB254_279.out
 have hns48_2 := NB259_279.out
 have hns48_3 := NB265_279.out
 have hns48_4 := NB273_279.out
 have hms48_0 := NB279_253.out
 have hms48_1 := NB279_254.out
 have hms48_2 := NB279_259.out
 have hms48_3 := NB279_265.out
 have hms48_4 := NB279_273.out
 have hs49 : w47.cell? ⟨gb279, 1, none⟩ = some (.int .u64 0) := (blk_cell BK279.out 1).trans rfl
 have hfs49 := blk_frozen BK279.out 1
 have hns49_0 := NB253_279.out
 have hns49_1 := NB254_279.out
 have hns49_2 := NB259_279.out
 have hns49_3 := NB265_279.out
 have hns49_4 := NB273_279.out
 have hms49_0 := NB279_253.out
 have hms49_1 := NB279_254.out
 have hms49_2 := NB279_259.out
 have hms49_3 := NB279_265.out
 have hms49_4 := NB279_273.out
 refine sk_ ?_
 refine hK.out _ _ ⟨((cell_far (p := ⟨gb279, _, none⟩) NB273_279.out _).trans (((cell_far (p := ⟨gb279, _, none⟩) NB273_279.out _).trans (hHeld.1)))), ((cell_far (p := ⟨gb279, _, none⟩) NB273_279.out _).trans (((cell_far (p := ⟨gb279, _, none⟩) NB273_279.out _).trans (hHeld.2.1)))), ((cell_far (p := ⟨gb279, _, none⟩) NB253_279.out _).trans (((cell_far (p := ⟨gb279, _, none⟩) NB253_279.out _).trans (hHeld.2.2.1)))), ((cell_far (p := ⟨gb279, _, none⟩) NB253_279.out _).trans (((cell_far (p := ⟨gb279, _, none⟩) NB253_279.out _).trans (hHeld.2.2.2.1)))), ((cell_far (p := ⟨gb279, _, none⟩) NB253_279.out _).trans (((cell_far (p := ⟨gb279, _, none⟩) NB253_279.out _).trans (hHeld.2.2.2.2))))⟩ (fun hHeld => ?_)
 clear hK K
 refine pa_ 12 (some 19) (bl_ 13 8191) HT_ ?_
 refine done_ (done_of HT_.out (by kernel_rfl)) ?_
 go_upto_region 6 with (fail)
 go_cut [81] (fun v81 wc => ∃ (kq : Nat) (x81_14 : Bool), v81 = .bool x81_14 ∧ Aside0 (spigottop_bounded04.j0 kq a2 x81_14 a3_0 a3_1 a3_2 a3_3 a3_4 a3_5 t257 t258 t262 t263 t270 t271 t276 t277 = some r) ∧ Aside0 (kq ≤ k) ∧ Aside0 (wc.heap[gb253]? = some (.cells #[.int .i64 a0_0, .int .i64 a0_1, .int .i64 a0_2] 30 (0, 0))) ∧ Aside0 (wc.heap[gb254]? = some (.cells #[.int .i64 a3_0, .int .i64 a3_1, .int .i64 a3_2, .int .i64 a3_3, .int .i64 a3_4, .int .u64 a3_5] 32 (0, 0))) ∧ Aside0 (wc.heap[gb259]? = some (.cells #[.int .u64 t257, .int .u64 t258] 59 (0, 0))) ∧ Aside0 (wc.heap[gb265]? = some (.cells #[.int .u64 t262, .int .u64 t263] 59 (0, 0))) ∧ Aside0 (wc.heap[gb273]? = some (.cells #[.int .u64 t270, .int .u64 t271] 59 (0, 0))) ∧ Aside0 (wc.heap[gb279]? = some (.cells #[.int .u64 t276, .int .u64 t277] 59 (0, 0))) ∧ Aside0 (Below w.heap.size w wc))
 case first =>
  have H := HC15.out
  clear HC15
  by_cases c50 : t256 = 0
  ·rw [if_pos c50] at H
   have c50b0 : (t256 == 0) = true := beq_iff_eq.mpr c50
   have c50b1 : (t256 != 0) = false := bne_eq_false_iff_eq.mpr c50
   clear c50
   (first | rw [c50b0] | (simp only [i64_w, i32_w]; rw [c50b0]) | skip)
   by_cases c51 : t264 = 0
   ·rw [if_pos c51] at H
    have c51b0 : (t264 == 0) = true := beq_iff_eq.mpr c51
    have c51b1 : (t264 != 0) = false := bne_eq_false_iff_eq.mpr c51
    clear c51
    by_cases c52 : t272 = 0
    ·rw [if_pos c52] at H
     have c52b0 : (t272 == 0) = true := beq_iff_eq.mpr c52
     have c52b1 : (t272 != 0) = false := bne_eq_false_iff_eq.mpr c52
     clear c52
     have H' := Aside0.mk H
     clear H
     go_wp2
     go_meet
     case rel => exact ⟨_, ((t278 != 0)), rf_, H', al_, ⟨(bt_ BK253)⟩, ⟨(bt_ BK254)⟩, ⟨(bt_ BK259)⟩, ⟨(bt_ BK265)⟩, ⟨(bt_ BK273)⟩, ⟨(bp2_ (bq_ BK279))⟩, bw_⟩
    ·rw [if_neg c52] at H
     have c52b0 : (t272 == 0) = false := beq_eq_false_iff_ne.mpr c52
     have c52b1 : (t272 != 0) = true := bne_iff_ne.mpr c52
     have H' := Aside0.mk H
     clear H
     go_wp2
     go_meet
     case rel => exact ⟨_, (true), rf_, H', al_, ⟨(bt_ BK253)⟩, ⟨(bt_ BK254)⟩, ⟨(bt_ BK259)⟩, ⟨(bt_ BK265)⟩, ⟨(bt_ BK273)⟩, ⟨(bp2_ (bq_ BK279))⟩, bw_⟩
   ·rw [if_neg c51] at H
    have c51b0 : (t264 == 0) = false := beq_eq_false_iff_ne.mpr c51
    have c51b1 : (t264 != 0) = true := bne_iff_ne.mpr c51
    have H' := Aside0.mk H
    clear H
    go_wp2
    go_meet
    case rel => exact ⟨_, (true), rf_, H', al_, ⟨(bt_ BK253)⟩, ⟨(bt_ BK254)⟩, ⟨(bt_ BK259)⟩, ⟨(bt_ BK265)⟩, ⟨(bt_ BK273)⟩, ⟨(bp2_ (bq_ BK279))⟩, bw_⟩
  ·rw [if_neg c50] at H
   have c50b0 : (t256 == 0) = false := beq_eq_false_iff_ne.mpr c50
   have c50b1 : (t256 != 0) = true := bne_iff_ne.mpr c50
   (first | rw [c50b0] | (simp only [i64_w, i32_w]; rw [c50b0]) | skip)
   have H' := Aside0.mk H
   clear H
   go_wp2
   go_meet
   case rel => exact ⟨_, (true), rf_, H', al_, ⟨(bt_ BK253)⟩, ⟨(bt_ BK254)⟩, ⟨(bt_ BK259)⟩, ⟨(bt_ BK265)⟩, ⟨(bt_ BK273)⟩, ⟨(bp2_ (bq_ BK279))⟩, bw_⟩
 case rest =>
  clear HC15
  obtain ⟨kq, x81_14, rfl, HA, HJ14, BK253, BK254, BK259, BK265, BK273, BK279, HB⟩ := hcut
  cases kq with
  | zero => exact absurd HA.out (by simp [spigottop_bounded04.j0])
  | succ kj14 =>
   have H := HA.out
   clear HA
   simp only [spigottop_bounded04.j0] at H
   by_cases c53 : x81_14 = true
   ·subst c53
    replace H : (some false) = some r := by rw [if_pos rfl] at H; exact H
    obtain rfl := Option.some.inj H
    go_wp2
    go_ret
    exact fi_
   ·replace c53 := Bool.eq_false_iff.mpr c53
    subst c53
    rw [if_neg (show ¬ (false = true) by decide)] at H
    try dsimp only at H
    by_cases c54 : a3_5 = a2
    ·rw [if_pos c54] at H
     have c54b0 : (a3_5 == a2) = true := beq_iff_eq.mpr c54
     have c54b1 : (a3_5 != a2) = false := bne_eq_false_iff_eq.mpr c54
     clear c54
     have H0_ := bo_ H; clear H; obtain ⟨t280, A55, H⟩ := H0_
     replace H : (if t280 ≤ 0 then ((wide_Cmp.f kj14 t270 t271 t257 t258).bind fun t281 => (some (decide (t281 ≤ 0)))) else (some false)) = some r := H
     by_cases c56 : t280 ≤ 0
     ·rw [if_pos c56] at H
      have c56b0 : decide (t280 ≤ 0) = true := decide_eq_true c56
      clear c56
      have H0_ := bo_ H; clear H; obtain ⟨t281, A57, H⟩ := H0_
      replace H : (some (decide (t281 ≤ 0))) = some r := H
      obtain rfl := Option.some.inj H
      replace hn254_253 := NB254_253.out
      replace hn253_254 := NB253_254.out
      replace hn254_259 := NB254_259.out
      replace hn259_254 := NB259_254.out
      replace hn254_265 := NB254_265.out
      replace hn265_254 := NB265_254.out
      replace hn254_273 := NB254_273.out
      replace hn273_254 := NB273_254.out
      replace hn254_279 := NB254_279.out
      replace hn279_254 := NB279_254.out
      replace hc254 := ce6_ BK254
      replace hn279_253 := NB279_253.out
      replace hn253_279 := NB253_279.out
      replace hn279_259 := NB279_259.out
      replace hn259_279 := NB259_279.out
      replace hn279_265 := NB279_265.out
      replace hn265_279 := NB265_279.out
      replace hn279_273 := NB279_273.out
      replace hn273_279 := NB273_279.out
      replace hc279 := ce2_ BK279
      replace hn265_253 := NB265_253.out
      replace hn253_265 := NB253_265.out
      replace hn265_259 := NB265_259.out
      replace hn259_265 := NB259_265.out
      replace hn265_273 := NB265_273.out
      replace hn273_265 := NB273_265.out
      replace hc265 := ce2_ BK265
      go_wp2_with (first | (go_at_call 24; (with_reducible refine (wide_Cmp.calls kj14 t276 t277 t262 t263 t280 _ A55.out).mono ?_); rintro e w73 ⟨rfl, hb⟩; replace BK253 := bb_ BK253 hb; replace BK254 := bb_ BK254 hb; replace BK259 := bb_ BK259 hb; replace BK265 := bb_ BK265 hb; replace BK273 := bb_ BK273 hb; replace BK279 := bb_ BK279 hb; replace HB := bs_ w hb; clear hb; replace hn273_253 := NB273_253.out; replace hn253_273 := NB253_273.out; replace hn273_259 := NB273_259.out; replace hn259_273 := NB259_273.out; replace hc273 := ce2_ BK273; replace hn259_253 := NB259_253.out; replace hn253_259 := NB253_259.out; replace hc259 := ce2_ BK259) | (go_at_call 24; (with_reducible refine (wide_Cmp.calls kj14 t270 t271 t257 t258 t281 _ A57.out).mono ?_); rintro e w79 ⟨rfl, hb⟩; replace BK253 := bb_ BK253 hb; replace BK254 := bb_ BK254 hb; replace BK259 := bb_ BK259 hb; replace BK265 := bb_ BK265 hb; replace BK273 := bb_ BK273 hb; replace BK279 := bb_ BK279 hb; replace HB := bs_ w hb; clear hb))
      go_ret
      exact fi_
     ·rw [if_neg c56] at H
      have c56b0 : decide (t280 ≤ 0) = false := decide_eq_false c56
      clear c56
      obtain rfl := Option.some.inj H
      replace hn254_253 := NB254_253.out
      replace hn253_254 := NB253_254.out
      replace hn254_259 := NB254_259.out
      replace hn259_254 := NB259_254.out
      replace hn254_265 := NB254_265.out
      replace hn265_254 := NB265_254.out
      replace hn254_273 := NB254_273.out
      replace hn273_254 := NB273_254.out
      replace hn254_279 := NB254_279.out
      replace hn279_254 := NB279_254.out
      replace hc254 := ce6_ BK254
      replace hn279_253 := NB279_253.out
      replace hn253_279 := NB253_279.out
      replace hn279_259 := NB279_259.out
      replace hn259_279 := NB259_279.out
      replace hn279_265 := NB279_265.out
      replace hn265_279 := NB265_279.out
      replace hn279_273 := NB279_273.out
      replace hn273_279 := NB273_279.out
      replace hc279 := ce2_ BK279
      replace hn265_253 := NB265_253.out
      replace hn253_265 := NB253_265.out
      replace hn265_259 := NB265_259.out
      replace hn259_265 := NB259_265.out
      replace hn265_273 := NB265_273.out
      replace hn273_265 := NB273_265.out
      replace hc265 := ce2_ BK265
      go_wp2_with (first | (go_at_call 24; (with_reducible refine (wide_Cmp.calls kj14 t276 t277 t262 t263 t280 _ A55.out).mono ?_); rintro e w95 ⟨rfl, hb⟩; replace BK253 := bb_ BK253 hb; replace BK254 := bb_ BK254 hb; replace BK259 := bb_ BK259 hb; replace BK265 := bb_ BK265 hb; replace BK273 := bb_ BK273 hb; replace BK279 := bb_ BK279 hb; replace HB := bs_ w hb; clear hb))
      go_ret
      exact fi_
    ·rw [if_neg c54] at H
     have c54b0 : (a3_5 == a2) = false := beq_eq_false_iff_ne.mpr c54
     have c54b1 : (a3_5 != a2) = true := bne_iff_ne.mpr c54
     obtain rfl := Option.some.inj H
     replace hn254_253 := NB254_253.out
     replace hn253_254 := NB253_254.out
     replace hn254_259 := NB254_259.out
     replace hn259_254 := NB259_254.out
     replace hn254_265 := NB254_265.out
     replace hn265_254 := NB265_254.out
     replace hn254_273 := NB254_273.out
     replace hn273_254 := NB273_254.out
     replace hn254_279 := NB254_279.out
     replace hn279_254 := NB279_254.out
     replace hc254 := ce6_ BK254
     go_wp2
     go_ret
     exact fi_

end Go.Proofs.Ytiifhbaabnpkeaa.X
