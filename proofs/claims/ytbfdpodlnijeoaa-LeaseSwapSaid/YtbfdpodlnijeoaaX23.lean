-- written by xprint.py, a program of this session over the kit's print
import Derived.Test.YtbfdpodlnijeoaaX0
import Derived.Test.YtbfdpodlnijeoaaX15
import Derived.Test.YtbfdpodlnijeoaaX17
import Derived.Test.YtbfdpodlnijeoaaX19
import Derived.Test.YtbfdpodlnijeoaaX20
import Derived.Test.YtbfdpodlnijeoaaX22
namespace Go.Proofs.Ytbfdpodlnijeoaa.X
open Go.RowKit Go.Proofs.YtbfdpodlnijeoaaW.PrintWords Go.Proofs.YtbfdpodlnijeoaaW.PrintLast Go.Proofs.YtbfdpodlnijeoaaW.PrintMore
attribute [local go_sem] max2_int min2_int max_two min_two max_three min_three max_four min_four   -- for this text's walks alone
set_option linter.unusedVariables false
set_option linter.unusedSimpArgs false

/-! ### spigotlaw42_LeaseSwap: function 4 -/
def spigotlaw42_LeaseSwap.j0 : Nat → Bool → Bool → Int → Int → Int → Int → Int → Int → Int → List Int → Int → Int → Int → Int → Int → Int → Int → Int → Option (Bool)
  | 0, _, _, _, _, _, _, _, _, _, _, _, _, _, _, _, _, _, _ => none
  | k + 1, x7, x68, x318000, x318001, x318002, x318003, x318004, x318005, x318006, x318007, x319000, x319001, x319002, x319003, x320000, x320001, x320002, x320003 => if x68 = true then (some x7) else ((lease_Run.f k x318000 x318001 x318002 x318003 x318004 x318005 x318006 x318007 (([(⟨x319000, x319001, x319002, x319003⟩ : S31), (⟨x320000, x320001, x319002, x320003⟩ : S31)] : List (S31)))).bind fun bt328 => ((lease_Run.f k x318000 x318001 x318002 x318003 x318004 x318005 x318006 x318007 (([(⟨x320000, x320001, x319002, x320003⟩ : S31), (⟨x319000, x319001, x319002, x319003⟩ : S31)] : List (S31)))).bind fun bt346 => (if x7 = true then (if bt328.2.2.2.2.2.2.2.2.2 = 0 then (if bt346.2.2.2.2.2.2.2.2.2 = 0 then ((spigotref42_Same.f k bt328.1 bt328.2.1 bt328.2.2.1 bt328.2.2.2.1 bt328.2.2.2.2.1 bt328.2.2.2.2.2.1 bt328.2.2.2.2.2.2.1 bt328.2.2.2.2.2.2.2.1 bt346.1 bt346.2.1 bt346.2.2.1 bt346.2.2.2.1 bt346.2.2.2.2.1 bt346.2.2.2.2.2.1 bt346.2.2.2.2.2.2.1 bt346.2.2.2.2.2.2.2.1).bind fun t361 => (if t361 = true then (if (bt328.2.2.2.2.2.2.2.2.1.length : Int) = 2 then (if (bt346.2.2.2.2.2.2.2.2.1.length : Int) = 2 then (if 0 < (bt328.2.2.2.2.2.2.2.2.1.length : Int) then (if 1 < (bt346.2.2.2.2.2.2.2.2.1.length : Int) then (if (rd bt328.2.2.2.2.2.2.2.2.1 0) = (rd bt346.2.2.2.2.2.2.2.2.1 1) then (if 1 < (bt328.2.2.2.2.2.2.2.2.1.length : Int) then (if 0 < (bt346.2.2.2.2.2.2.2.2.1.length : Int) then (some ((rd bt328.2.2.2.2.2.2.2.2.1 1) == (rd bt346.2.2.2.2.2.2.2.2.1 0))) else (none)) else (none)) else (none)) else (none)) else (none)) else (none)) else (none)) else (none))) else (none)) else (none)) else (none))))
def spigotlaw42_LeaseSwap.f (k : Nat) (a0_0 : Int) (a0_1 : Int) (a0_2 : Int) (a0_3 : Int) (a0_4 : Int) (a0_5 : Int) (a0_6 : Int) (l0_7 : List Int) (a1_0 : Int) (a1_1 : Int) (a1_2 : Int) (a1_3 : Int) (a2_0 : Int) (a2_1 : Int) (a2_2 : Int) (a2_3 : Int) : Option (Bool) := (spigotlaw42_alive.f k).bind fun t320 => ((spigotref42_Great.f a0_0 a0_1 a0_2 a0_3 a0_4 a0_5 a0_6 l0_7 ([] : List (S31))).bind fun t321 => (if t321 = true then (spigotlaw42_LeaseSwap.j0 k t320 true a0_0 a0_1 a0_2 a0_3 a0_4 a0_5 a0_6 l0_7 a1_0 a1_1 a1_2 a1_3 a2_0 a2_1 a2_2 a2_3) else ((spigotref42_Check.f k a0_0 a0_1 a0_2 a0_3 a0_4 a0_5 a0_6 l0_7).bind fun t322 => (if t322 = 0 then ((spigotref42_Valid.f a1_0 a1_1 a1_2 a1_3).bind fun t323 => (if t323 = true then ((spigotref42_Valid.f a2_0 a2_1 a2_2 a2_3).bind fun t324 => (if t324 = true then (if a1_1 ≥ (l0_7.length : Int) then (spigotlaw42_LeaseSwap.j0 k t320 true a0_0 a0_1 a0_2 a0_3 a0_4 a0_5 a0_6 l0_7 a1_0 a1_1 a1_2 a1_3 a2_0 a2_1 a2_2 a2_3) else (if a2_1 ≥ (l0_7.length : Int) then (spigotlaw42_LeaseSwap.j0 k t320 true a0_0 a0_1 a0_2 a0_3 a0_4 a0_5 a0_6 l0_7 a1_0 a1_1 a1_2 a1_3 a2_0 a2_1 a2_2 a2_3) else (if a1_1 = a2_1 then (spigotlaw42_LeaseSwap.j0 k t320 true a0_0 a0_1 a0_2 a0_3 a0_4 a0_5 a0_6 l0_7 a1_0 a1_1 a1_2 a1_3 a2_0 a2_1 a2_2 a2_3) else (if a1_0 = 2 then (spigotlaw42_LeaseSwap.j0 k t320 (!t320) a0_0 a0_1 a0_2 a0_3 a0_4 a0_5 a0_6 l0_7 a1_0 a1_1 a1_2 a1_3 a2_0 a2_1 a2_2 a2_3) else (if a1_0 = 4 then (spigotlaw42_LeaseSwap.j0 k t320 (!t320) a0_0 a0_1 a0_2 a0_3 a0_4 a0_5 a0_6 l0_7 a1_0 a1_1 a1_2 a1_3 a2_0 a2_1 a2_2 a2_3) else (spigotlaw42_LeaseSwap.j0 k t320 true a0_0 a0_1 a0_2 a0_3 a0_4 a0_5 a0_6 l0_7 a1_0 a1_1 a1_2 a1_3 a2_0 a2_1 a2_2 a2_3)))))) else (spigotlaw42_LeaseSwap.j0 k t320 true a0_0 a0_1 a0_2 a0_3 a0_4 a0_5 a0_6 l0_7 a1_0 a1_1 a1_2 a1_3 a2_0 a2_1 a2_2 a2_3))) else (spigotlaw42_LeaseSwap.j0 k t320 true a0_0 a0_1 a0_2 a0_3 a0_4 a0_5 a0_6 l0_7 a1_0 a1_1 a1_2 a1_3 a2_0 a2_1 a2_2 a2_3))) else (spigotlaw42_LeaseSwap.j0 k t320 true a0_0 a0_1 a0_2 a0_3 a0_4 a0_5 a0_6 l0_7 a1_0 a1_1 a1_2 a1_3 a2_0 a2_1 a2_2 a2_3)))))
theorem spigotlaw42_LeaseSwap.mono_l : ∀ k, (∀ y0 y1 y2 y3 y4 y5 y6 y7 y8 y9 y10 y11 y12 y13 y14 y15 y16 y17, LeO (spigotlaw42_LeaseSwap.j0 k y0 y1 y2 y3 y4 y5 y6 y7 y8 y9 y10 y11 y12 y13 y14 y15 y16 y17) (spigotlaw42_LeaseSwap.j0 (k + 1) y0 y1 y2 y3 y4 y5 y6 y7 y8 y9 y10 y11 y12 y13 y14 y15 y16 y17))
  | 0 => fun _ _ _ _ _ _ _ _ _ _ _ _ _ _ _ _ _ _ r h => by simp [spigotlaw42_LeaseSwap.j0] at h
  | k + 1 => by
    have ih0 := spigotlaw42_LeaseSwap.mono_l k
    · intro y0 y1 y2 y3 y4 y5 y6 y7 y8 y9 y10 y11 y12 y13 y14 y15 y16 y17
      unfold spigotlaw42_LeaseSwap.j0
      repeat' first
      | (with_reducible exact ih0 _ _ _ _ _ _ _ _ _ _ _ _ _ _ _ _ _ _)
      | (with_reducible exact lease_Run.mono _ _ _ _ _ _ _ _ _ _)
      | (with_reducible exact spigotlaw42_alive.mono _)
      | (with_reducible exact spigotref42_Check.mono _ _ _ _ _ _ _ _ _)
      | (with_reducible exact spigotref42_Same.mono _ _ _ _ _ _ _ _ _ _ _ _ _ _ _ _ _)
      | (with_reducible exact LeO.refl _)
      | (with_reducible exact LeO.none _)
      | (with_reducible refine LeO.ite ?_ ?_)
      | (with_reducible refine LeO.bind ?_ (fun _ => ?_))
      | exact ih0 _ _ _ _ _ _ _ _ _ _ _ _ _ _ _ _ _ _
      | exact lease_Run.mono _ _ _ _ _ _ _ _ _ _
      | exact spigotlaw42_alive.mono _
      | exact spigotref42_Check.mono _ _ _ _ _ _ _ _ _
      | exact spigotref42_Same.mono _ _ _ _ _ _ _ _ _ _ _ _ _ _ _ _ _
      | exact LeO.none _
      | refine LeO.ite ?_ ?_
      | refine LeO.bind ?_ (fun _ => ?_)
theorem spigotlaw42_LeaseSwap.mono : ∀ a0 a1 a2 a3 a4 a5 a6 a7 a8 a9 a10 a11 a12 a13 a14 a15 k, LeO (spigotlaw42_LeaseSwap.f k a0 a1 a2 a3 a4 a5 a6 a7 a8 a9 a10 a11 a12 a13 a14 a15) (spigotlaw42_LeaseSwap.f (k + 1) a0 a1 a2 a3 a4 a5 a6 a7 a8 a9 a10 a11 a12 a13 a14 a15) := by
  intro a0 a1 a2 a3 a4 a5 a6 a7 a8 a9 a10 a11 a12 a13 a14 a15 k
  have ih0 := spigotlaw42_LeaseSwap.mono_l k
  unfold spigotlaw42_LeaseSwap.f
  repeat' first
      | (with_reducible exact ih0 _ _ _ _ _ _ _ _ _ _ _ _ _ _ _ _ _ _)
      | (with_reducible exact lease_Run.mono _ _ _ _ _ _ _ _ _ _)
      | (with_reducible exact spigotlaw42_alive.mono _)
      | (with_reducible exact spigotref42_Check.mono _ _ _ _ _ _ _ _ _)
      | (with_reducible exact spigotref42_Same.mono _ _ _ _ _ _ _ _ _ _ _ _ _ _ _ _ _)
      | (with_reducible exact LeO.refl _)
      | (with_reducible exact LeO.none _)
      | (with_reducible refine LeO.ite ?_ ?_)
      | (with_reducible refine LeO.bind ?_ (fun _ => ?_))
      | exact ih0 _ _ _ _ _ _ _ _ _ _ _ _ _ _ _ _ _ _
      | exact lease_Run.mono _ _ _ _ _ _ _ _ _ _
      | exact spigotlaw42_alive.mono _
      | exact spigotref42_Check.mono _ _ _ _ _ _ _ _ _
      | exact spigotref42_Same.mono _ _ _ _ _ _ _ _ _ _ _ _ _ _ _ _ _
      | exact LeO.none _
      | refine LeO.ite ?_ ?_
      | refine LeO.bind ?_ (fun _ => ?_)
def spigotlaw42_LeaseSwap.T7 : Bool × List (List Nat × List Nat) := (true, [([], []), ([0], [0]), ([1], [1]), ([2, 1], [1, 2]), ([1, 3], [1, 3]), ([4, 1], [4]), ([5], [5]), ([6, 5], [5, 6]), ([5, 7], [5, 7]), ([8, 5], [8]), ([9], [9]), ([9], [9]), ([10, 11, 9, 9], [9, 10, 11]), ([9, 12], [9, 12]), ([13, 12], [13]), ([14], [14]), ([15, 14], [14, 15]), ([16, 14], [14, 16]), ([14, 17], [14, 17]), ([18, 14], [18]), ([19], [19]), ([20, 19], [19, 20]), ([21, 19], [19, 21]), ([19, 22], [19, 22]), ([23, 19], [23]), ([24], [24]), ([25, 24], [24, 25]), ([26, 24], [24, 26]), ([24], [24]), ([28, 24], [24, 28]), ([29, 24], [24, 29]), ([27, 30, 24], [24, 27, 30]), ([24, 31], [24, 31]), ([32, 24], [32]), ([33], [33]), ([34, 33], [33, 34]), ([35, 33], [33, 35]), ([33], [33]), ([37, 33], [33, 37]), ([38, 33], [33, 38]), ([36, 39, 33], [33, 36, 39]), ([33, 40], [33, 40]), ([41, 33, 0, 1, 2, 3, 4, 5, 6, 7, 8, 9, 10, 11, 12, 13, 14, 15, 16, 17, 18, 19, 20, 21, 22, 23, 24, 25, 26, 27, 28, 29, 30, 31, 32, 33, 34, 35, 36, 37, 38, 39, 40, 41], [41])])
def spigotlaw42_LeaseSwap.B7 : List Nat := [0, 1, 3, 7, 15, 31, 63, 127, 255, 511, 1023, 1023, 4095, 8191, 16383, 32767, 65535, 131071, 262143, 524287, 1048575, 2097151, 4194303, 8388607, 16777215, 33554431, 67108863, 134217727, 33554431, 301989887, 838860799, 2147483647, 4294967295, 8589934591, 17179869183, 34359738367, 68719476735, 17179869183, 154618822655, 429496729599, 1099511627775, 2199023255551, 4398046511103]
theorem spigotlaw42_LeaseSwap.tab7 : rtab .any (opsOf Try.f4 7) = spigotlaw42_LeaseSwap.T7 := by kernel_rfl
theorem spigotlaw42_LeaseSwap.bits7 : waitsOk spigotlaw42_LeaseSwap.T7.2 spigotlaw42_LeaseSwap.B7 = true := by kernel_rfl
set_option maxHeartbeats 8000000 in
set_option maxRecDepth 100000 in
theorem spigotlaw42_LeaseSwap.calls (k : Nat) (a0_0 : Int) (a0_1 : Int) (a0_2 : Int) (a0_3 : Int) (a0_4 : Int) (a0_5 : Int) (a0_6 : Int) (A0_7 : Option Addr) (c0_7 : Nat) (l0_7 : List Int) (a1_0 : Int) (a1_1 : Int) (a1_2 : Int) (a1_3 : Int) (a2_0 : Int) (a2_1 : Int) (a2_2 : Int) (a2_3 : Int) (r : Bool) (w : World) (hr0_7 : Kd.C (Kd.int .i64) w A0_7 l0_7.length l0_7) (hc0_7 : l0_7.length ≤ c0_7) (h : spigotlaw42_LeaseSwap.f k a0_0 a0_1 a0_2 a0_3 a0_4 a0_5 a0_6 l0_7 a1_0 a1_1 a1_2 a1_3 a2_0 a2_1 a2_2 a2_3 = some r) :
  Calls Try.prog 4 #[.agg #[.int .i64 a0_0, .int .i64 a0_1, .int .i64 a0_2, .int .i64 a0_3, .int .i64 a0_4, .int .u64 a0_5, .int .i64 a0_6, .slice A0_7 l0_7.length c0_7], .agg #[.int .u8 a1_0, .int .i64 a1_1, .int .u64 a1_2, .int .i64 a1_3], .agg #[.int .u8 a2_0, .int .i64 a2_1, .int .u64 a2_2, .int .i64 a2_3]] w fun e w' => e = .returned (.bool r) ∧ Below w.heap.size w w' := by
 have hu29 := Try.underlying29
 have hu31 := Try.underlying31
 have HR0_7 := Aside0.mk hr0_7
 have HC0_7 := Aside0.mk hc0_7
 clear hr0_7 hc0_7
 have HB := Aside0.mk (Below.refl w.heap.size w)
 have H : ((spigotlaw42_alive.f k).bind fun t320 => ((spigotref42_Great.f a0_0 a0_1 a0_2 a0_3 a0_4 a0_5 a0_6 l0_7 ([] : List (S31))).bind fun t321 => (if t321 = true then (spigotlaw42_LeaseSwap.j0 k t320 true a0_0 a0_1 a0_2 a0_3 a0_4 a0_5 a0_6 l0_7 a1_0 a1_1 a1_2 a1_3 a2_0 a2_1 a2_2 a2_3) else ((spigotref42_Check.f k a0_0 a0_1 a0_2 a0_3 a0_4 a0_5 a0_6 l0_7).bind fun t322 => (if t322 = 0 then ((spigotref42_Valid.f a1_0 a1_1 a1_2 a1_3).bind fun t323 => (if t323 = true then ((spigotref42_Valid.f a2_0 a2_1 a2_2 a2_3).bind fun t324 => (if t324 = true then (if a1_1 ≥ (l0_7.length : Int) then (spigotlaw42_LeaseSwap.j0 k t320 true a0_0 a0_1 a0_2 a0_3 a0_4 a0_5 a0_6 l0_7 a1_0 a1_1 a1_2 a1_3 a2_0 a2_1 a2_2 a2_3) else (if a2_1 ≥ (l0_7.length : Int) then (spigotlaw42_LeaseSwap.j0 k t320 true a0_0 a0_1 a0_2 a0_3 a0_4 a0_5 a0_6 l0_7 a1_0 a1_1 a1_2 a1_3 a2_0 a2_1 a2_2 a2_3) else (if a1_1 = a2_1 then (spigotlaw42_LeaseSwap.j0 k t320 true a0_0 a0_1 a0_2 a0_3 a0_4 a0_5 a0_6 l0_7 a1_0 a1_1 a1_2 a1_3 a2_0 a2_1 a2_2 a2_3) else (if a1_0 = 2 then (spigotlaw42_LeaseSwap.j0 k t320 (!t320) a0_0 a0_1 a0_2 a0_3 a0_4 a0_5 a0_6 l0_7 a1_0 a1_1 a1_2 a1_3 a2_0 a2_1 a2_2 a2_3) else (if a1_0 = 4 then (spigotlaw42_LeaseSwap.j0 k t320 (!t320) a0_0 a0_1 a0_2 a0_3 a0_4 a0_5 a0_6 l0_7 a1_0 a1_1 a1_2 a1_3 a2_0 a2_1 a2_2 a2_3) else (spigotlaw42_LeaseSwap.j0 k t320 true a0_0 a0_1 a0_2 a0_3 a0_4 a0_5 a0_6 l0_7 a1_0 a1_1 a1_2 a1_3 a2_0 a2_1 a2_2 a2_3)))))) else (spigotlaw42_LeaseSwap.j0 k t320 true a0_0 a0_1 a0_2 a0_3 a0_4 a0_5 a0_6 l0_7 a1_0 a1_1 a1_2 a1_3 a2_0 a2_1 a2_2 a2_3))) else (spigotlaw42_LeaseSwap.j0 k t320 true a0_0 a0_1 a0_2 a0_3 a0_4 a0_5 a0_6 l0_7 a1_0 a1_1 a1_2 a1_3 a2_0 a2_1 a2_2 a2_3))) else (spigotlaw42_LeaseSwap.j0 k t320 true a0_0 a0_1 a0_2 a0_3 a0_4 a0_5 a0_6 l0_7 a1_0 a1_1 a1_2 a1_3 a2_0 a2_1 a2_2 a2_3)))))) = some r := h
 clear h
 obtain ⟨t320, A4, H⟩ := bo_ H
 try dsimp only at H
 have HC5 := Aside0.mk H
 clear H
 go_enter Try.func4, Try.ntmps4
 go_upto_region 2 with (first | ((with_reducible refine gate_dst (N := 3) rfl ?_); (try refine ug_ (by rfl) ?_); refine bx_ #[.int .i64 a0_0, .int .i64 a0_1, .int .i64 a0_2, .int .i64 a0_3, .int .i64 a0_4, .int .u64 a0_5, .int .i64 a0_6, .slice A0_7 l0_7.length c0_7] 29 ?_; intro gb317 hg w6 BK317 hb; have GW317 := bz_ w hg; replace HB := bs_ w hb; clear hb hg) | ((with_reducible refine gate_dst (N := 4) rfl ?_); (try refine ug_ (by rfl) ?_); refine bx_ #[.int .u8 a1_0, .int .i64 a1_1, .int .u64 a1_2, .int .i64 a1_3] 31 ?_; intro gb318 hg w7 BK318 hb; have GW318 := bz_ w hg; have NB317_318 := bn_ BK317 hg; have NB318_317 := bm_ BK317 hg; replace BK317 := bb_ BK317 hb; replace HB := bs_ w hb; clear hb hg) | ((with_reducible refine gate_dst (N := 5) rfl ?_); (try refine ug_ (by rfl) ?_); refine bx_ #[.int .u8 a2_0, .int .i64 a2_1, .int .u64 a2_2, .int .i64 a2_3] 31 ?_; intro gb319 hg w8 BK319 hb; have GW319 := bz_ w hg; have NB317_319 := bn_ BK317 hg; have NB319_317 := bm_ BK317 hg; have NB318_319 := bn_ BK318 hg; have NB319_318 := bm_ BK318 hg; replace BK317 := bb_ BK317 hb; replace BK318 := bb_ BK318 hb; replace HB := bs_ w hb; clear hb hg) | ((with_reducible refine gate_callee (f := 10) rfl ?_); (try refine ug_ (by rfl) ?_); refine goesA_ (some 14) Try.func10 #[] ?_; (with_reducible refine (spigotlaw42_alive.calls k  t320 _ A4.out).mono ?_); rintro e w9 ⟨rfl, hb⟩; refine ⟨_, rfl, ?_⟩; replace BK317 := bb_ BK317 hb; replace BK318 := bb_ BK318 hb; replace BK319 := bb_ BK319 hb; replace HB := bs_ w hb; clear hb))
 (try simp only [Act.put, List.setIfInBounds_toArray, List.set_cons_zero, List.set_cons_succ])
 go_cut [68] (fun v68 wc => ∃ (kq : Nat) (x68_4 : Bool), v68 = .bool x68_4 ∧ Aside0 (spigotlaw42_LeaseSwap.j0 kq t320 x68_4 a0_0 a0_1 a0_2 a0_3 a0_4 a0_5 a0_6 l0_7 a1_0 a1_1 a1_2 a1_3 a2_0 a2_1 a2_2 a2_3 = some r) ∧ Aside0 (kq ≤ k) ∧ Aside0 (wc.heap[gb317]? = some (.cells #[.int .i64 a0_0, .int .i64 a0_1, .int .i64 a0_2, .int .i64 a0_3, .int .i64 a0_4, .int .u64 a0_5, .int .i64 a0_6, (.slice A0_7 l0_7.length c0_7)] 29 (0, 0))) ∧ Aside0 (wc.heap[gb318]? = some (.cells #[.int .u8 a1_0, .int .i64 a1_1, .int .u64 a1_2, .int .i64 a1_3] 31 (0, 0))) ∧ Aside0 (wc.heap[gb319]? = some (.cells #[.int .u8 a2_0, .int .i64 a2_1, .int .u64 a2_2, .int .i64 a2_3] 31 (0, 0))) ∧ Aside0 (Below w.heap.size w wc))
 case first =>
  have H := HC5.out
  clear HC5
  obtain ⟨t321, A10, H⟩ := bo_ H
  try dsimp only at H
  by_cases c11 : t321 = true
  ·subst c11
   rw [if_pos rfl] at H
   try dsimp only at H
   have H' := Aside0.mk H
   clear H
   replace hn317_318 := NB317_318.out
   replace hn318_317 := NB318_317.out
   replace hn317_319 := NB317_319.out
   replace hn319_317 := NB319_317.out
   replace hc317 := ce8_ BK317
   go_wp2_with (first | ((with_reducible refine gate_callee (f := 11) rfl ?_); (try refine ug_ (by rfl) ?_); refine goesA_ (some 16) Try.func11 #[.agg #[.int .i64 a0_0, .int .i64 a0_1, .int .i64 a0_2, .int .i64 a0_3, .int .i64 a0_4, .int .u64 a0_5, .int .i64 a0_6, .slice A0_7 l0_7.length c0_7], .slice none 0 0] ?_; (refine (spigotref42_Great.calls a0_0 a0_1 a0_2 a0_3 a0_4 a0_5 a0_6 _ _ l0_7 _ _ ([] : List (S31)) true _ ?side1 ?side2 ?side3 ?side4 A10.out).mono ?_); (case side1 => exact cs_ HR0_7 HB); (case side2 => exact HC0_7.out); (case side3 => exact Kd.C_nil _ _); (case side4 => exact Nat.le_refl _); rintro e w15 ⟨rfl, hb⟩; refine ⟨_, rfl, ?_⟩; replace BK317 := bb_ BK317 hb; replace BK318 := bb_ BK318 hb; replace BK319 := bb_ BK319 hb; replace HB := bs_ w hb; clear hb))
   go_meet
   case rel => exact ⟨_, (true), rf_, H', al_, ⟨bq_ BK317⟩, ⟨bq_ BK318⟩, ⟨bq_ BK319⟩, bw_⟩
  ·replace c11 := Bool.eq_false_iff.mpr c11
   subst c11
   rw [if_neg (show ¬ (false = true) by decide)] at H
   try dsimp only at H
   obtain ⟨t322, A16, H⟩ := bo_ H
   try dsimp only at H
   by_cases c17 : t322 = 0
   ·rw [if_pos c17] at H
    have c17b0 : (t322 == 0) = true := beq_iff_eq.mpr c17
    have c17b1 : (t322 != 0) = false := bne_eq_false_iff_eq.mpr c17
    clear c17
    (first | rw [c17b0] | (simp only [i64_w, i32_w]; rw [c17b0]) | skip)
    obtain ⟨t323, A18, H⟩ := bo_ H
    try dsimp only at H
    by_cases c19 : t323 = true
    ·subst c19
     rw [if_pos rfl] at H
     try dsimp only at H
     obtain ⟨t324, A20, H⟩ := bo_ H
     try dsimp only at H
     by_cases c21 : t324 = true
     ·subst c21
      rw [if_pos rfl] at H
      try dsimp only at H
      by_cases c22 : a1_1 ≥ (l0_7.length : Int)
      ·rw [if_pos c22] at H
       have c22b0 : decide ((l0_7.length : Int) ≤ a1_1) = true := decide_eq_true c22
       clear c22
       have H' := Aside0.mk H
       clear H
       replace hn317_318 := NB317_318.out
       replace hn318_317 := NB318_317.out
       replace hn317_319 := NB317_319.out
       replace hn319_317 := NB319_317.out
       replace hc317 := ce8_ BK317
       go_wp2_with (first | ((with_reducible refine gate_callee (f := 11) rfl ?_); (try refine ug_ (by rfl) ?_); refine goesA_ (some 16) Try.func11 #[.agg #[.int .i64 a0_0, .int .i64 a0_1, .int .i64 a0_2, .int .i64 a0_3, .int .i64 a0_4, .int .u64 a0_5, .int .i64 a0_6, .slice A0_7 l0_7.length c0_7], .slice none 0 0] ?_; (refine (spigotref42_Great.calls a0_0 a0_1 a0_2 a0_3 a0_4 a0_5 a0_6 _ _ l0_7 _ _ ([] : List (S31)) false _ ?side1 ?side2 ?side3 ?side4 A10.out).mono ?_); (case side1 => exact cs_ HR0_7 HB); (case side2 => exact HC0_7.out); (case side3 => exact Kd.C_nil _ _); (case side4 => exact Nat.le_refl _); rintro e w26 ⟨rfl, hb⟩; refine ⟨_, rfl, ?_⟩; replace BK317 := bb_ BK317 hb; replace BK318 := bb_ BK318 hb; replace BK319 := bb_ BK319 hb; replace HB := bs_ w hb; clear hb; replace hc317 := ce8_ BK317) | (go_at_call 12; (with_reducible refine (spigotref42_Check.calls k a0_0 a0_1 a0_2 a0_3 a0_4 a0_5 a0_6 _ _ l0_7 t322 _ ?side1 ?side2 A16.out).mono ?_); (case side1 => exact cs_ HR0_7 HB); (case side2 => exact HC0_7.out); rintro e w28 ⟨rfl, hb⟩; replace BK317 := bb_ BK317 hb; replace BK318 := bb_ BK318 hb; replace BK319 := bb_ BK319 hb; replace HB := bs_ w hb; clear hb; replace hn318_319 := NB318_319.out; replace hn319_318 := NB319_318.out; replace hc318 := ce4_ BK318) | (go_at_call 13; (with_reducible refine (spigotref42_Valid.calls a1_0 a1_1 a1_2 a1_3 true _ A18.out).mono ?_); rintro e w31 ⟨rfl, hb⟩; replace BK317 := bb_ BK317 hb; replace BK318 := bb_ BK318 hb; replace BK319 := bb_ BK319 hb; replace HB := bs_ w hb; clear hb; replace hc319 := ce4_ BK319) | (go_at_call 13; (with_reducible refine (spigotref42_Valid.calls a2_0 a2_1 a2_2 a2_3 true _ A20.out).mono ?_); rintro e w33 ⟨rfl, hb⟩; replace BK317 := bb_ BK317 hb; replace BK318 := bb_ BK318 hb; replace BK319 := bb_ BK319 hb; replace HB := bs_ w hb; clear hb; replace hc318 := ce4_ BK318; replace hc317 := ce8_ BK317))
       go_meet
       case rel => exact ⟨_, (true), rf_, H', al_, ⟨bq_ BK317⟩, ⟨bq_ BK318⟩, ⟨bq_ BK319⟩, bw_⟩
      ·rw [if_neg c22] at H
       have c22b0 : decide ((l0_7.length : Int) ≤ a1_1) = false := decide_eq_false c22
       clear c22
       by_cases c36 : a2_1 ≥ (l0_7.length : Int)
       ·rw [if_pos c36] at H
        have c36b0 : decide ((l0_7.length : Int) ≤ a2_1) = true := decide_eq_true c36
        clear c36
        have H' := Aside0.mk H
        clear H
        replace hn317_318 := NB317_318.out
        replace hn318_317 := NB318_317.out
        replace hn317_319 := NB317_319.out
        replace hn319_317 := NB319_317.out
        replace hc317 := ce8_ BK317
        go_wp2_with (first | ((with_reducible refine gate_callee (f := 11) rfl ?_); (try refine ug_ (by rfl) ?_); refine goesA_ (some 16) Try.func11 #[.agg #[.int .i64 a0_0, .int .i64 a0_1, .int .i64 a0_2, .int .i64 a0_3, .int .i64 a0_4, .int .u64 a0_5, .int .i64 a0_6, .slice A0_7 l0_7.length c0_7], .slice none 0 0] ?_; (refine (spigotref42_Great.calls a0_0 a0_1 a0_2 a0_3 a0_4 a0_5 a0_6 _ _ l0_7 _ _ ([] : List (S31)) false _ ?side1 ?side2 ?side3 ?side4 A10.out).mono ?_); (case side1 => exact cs_ HR0_7 HB); (case side2 => exact HC0_7.out); (case side3 => exact Kd.C_nil _ _); (case side4 => exact Nat.le_refl _); rintro e w40 ⟨rfl, hb⟩; refine ⟨_, rfl, ?_⟩; replace BK317 := bb_ BK317 hb; replace BK318 := bb_ BK318 hb; replace BK319 := bb_ BK319 hb; replace HB := bs_ w hb; clear hb; replace hc317 := ce8_ BK317) | (go_at_call 12; (with_reducible refine (spigotref42_Check.calls k a0_0 a0_1 a0_2 a0_3 a0_4 a0_5 a0_6 _ _ l0_7 t322 _ ?side1 ?side2 A16.out).mono ?_); (case side1 => exact cs_ HR0_7 HB); (case side2 => exact HC0_7.out); rintro e w42 ⟨rfl, hb⟩; replace BK317 := bb_ BK317 hb; replace BK318 := bb_ BK318 hb; replace BK319 := bb_ BK319 hb; replace HB := bs_ w hb; clear hb; replace hn318_319 := NB318_319.out; replace hn319_318 := NB319_318.out; replace hc318 := ce4_ BK318) | (go_at_call 13; (with_reducible refine (spigotref42_Valid.calls a1_0 a1_1 a1_2 a1_3 true _ A18.out).mono ?_); rintro e w45 ⟨rfl, hb⟩; replace BK317 := bb_ BK317 hb; replace BK318 := bb_ BK318 hb; replace BK319 := bb_ BK319 hb; replace HB := bs_ w hb; clear hb; replace hc319 := ce4_ BK319) | (go_at_call 13; (with_reducible refine (spigotref42_Valid.calls a2_0 a2_1 a2_2 a2_3 true _ A20.out).mono ?_); rintro e w47 ⟨rfl, hb⟩; replace BK317 := bb_ BK317 hb; replace BK318 := bb_ BK318 hb; replace BK319 := bb_ BK319 hb; replace HB := bs_ w hb; clear hb; replace hc318 := ce4_ BK318; replace hc317 := ce8_ BK317; replace hc319 := ce4_ BK319))
        go_meet
        case rel => exact ⟨_, (true), rf_, H', al_, ⟨bq_ BK317⟩, ⟨bq_ BK318⟩, ⟨bq_ BK319⟩, bw_⟩
       ·rw [if_neg c36] at H
        have c36b0 : decide ((l0_7.length : Int) ≤ a2_1) = false := decide_eq_false c36
        clear c36
        by_cases c51 : a1_1 = a2_1
        ·rw [if_pos c51] at H
         have c51b0 : (a1_1 == a2_1) = true := beq_iff_eq.mpr c51
         have c51b1 : (a1_1 != a2_1) = false := bne_eq_false_iff_eq.mpr c51
         clear c51
         have H' := Aside0.mk H
         clear H
         replace hn317_318 := NB317_318.out
         replace hn318_317 := NB318_317.out
         replace hn317_319 := NB317_319.out
         replace hn319_317 := NB319_317.out
         replace hc317 := ce8_ BK317
         go_wp2_with (first | ((with_reducible refine gate_callee (f := 11) rfl ?_); (try refine ug_ (by rfl) ?_); refine goesA_ (some 16) Try.func11 #[.agg #[.int .i64 a0_0, .int .i64 a0_1, .int .i64 a0_2, .int .i64 a0_3, .int .i64 a0_4, .int .u64 a0_5, .int .i64 a0_6, .slice A0_7 l0_7.length c0_7], .slice none 0 0] ?_; (refine (spigotref42_Great.calls a0_0 a0_1 a0_2 a0_3 a0_4 a0_5 a0_6 _ _ l0_7 _ _ ([] : List (S31)) false _ ?side1 ?side2 ?side3 ?side4 A10.out).mono ?_); (case side1 => exact cs_ HR0_7 HB); (case side2 => exact HC0_7.out); (case side3 => exact Kd.C_nil _ _); (case side4 => exact Nat.le_refl _); rintro e w55 ⟨rfl, hb⟩; refine ⟨_, rfl, ?_⟩; replace BK317 := bb_ BK317 hb; replace BK318 := bb_ BK318 hb; replace BK319 := bb_ BK319 hb; replace HB := bs_ w hb; clear hb; replace hc317 := ce8_ BK317) | (go_at_call 12; (with_reducible refine (spigotref42_Check.calls k a0_0 a0_1 a0_2 a0_3 a0_4 a0_5 a0_6 _ _ l0_7 t322 _ ?side1 ?side2 A16.out).mono ?_); (case side1 => exact cs_ HR0_7 HB); (case side2 => exact HC0_7.out); rintro e w57 ⟨rfl, hb⟩; replace BK317 := bb_ BK317 hb; replace BK318 := bb_ BK318 hb; replace BK319 := bb_ BK319 hb; replace HB := bs_ w hb; clear hb; replace hn318_319 := NB318_319.out; replace hn319_318 := NB319_318.out; replace hc318 := ce4_ BK318) | (go_at_call 13; (with_reducible refine (spigotref42_Valid.calls a1_0 a1_1 a1_2 a1_3 true _ A18.out).mono ?_); rintro e w60 ⟨rfl, hb⟩; replace BK317 := bb_ BK317 hb; replace BK318 := bb_ BK318 hb; replace BK319 := bb_ BK319 hb; replace HB := bs_ w hb; clear hb; replace hc319 := ce4_ BK319) | (go_at_call 13; (with_reducible refine (spigotref42_Valid.calls a2_0 a2_1 a2_2 a2_3 true _ A20.out).mono ?_); rintro e w62 ⟨rfl, hb⟩; replace BK317 := bb_ BK317 hb; replace BK318 := bb_ BK318 hb; replace BK319 := bb_ BK319 hb; replace HB := bs_ w hb; clear hb; replace hc318 := ce4_ BK318; replace hc317 := ce8_ BK317; replace hc319 := ce4_ BK319))
         go_meet
         case rel => exact ⟨_, (true), rf_, H', al_, ⟨bq_ BK317⟩, ⟨bq_ BK318⟩, ⟨bq_ BK319⟩, bw_⟩
        ·rw [if_neg c51] at H
         have c51b0 : (a1_1 == a2_1) = false := beq_eq_false_iff_ne.mpr c51
         have c51b1 : (a1_1 != a2_1) = true := bne_iff_ne.mpr c51
         by_cases c66 : a1_0 = 2
         ·rw [if_pos c66] at H
          have c66b0 : (a1_0 == 2) = true := beq_iff_eq.mpr c66
          have c66b1 : (a1_0 != 2) = false := bne_eq_false_iff_eq.mpr c66
          clear c66
          have H' := Aside0.mk H
          clear H
          replace hn317_318 := NB317_318.out
          replace hn318_317 := NB318_317.out
          replace hn317_319 := NB317_319.out
          replace hn319_317 := NB319_317.out
          replace hc317 := ce8_ BK317
          go_wp2_with (first | ((with_reducible refine gate_callee (f := 11) rfl ?_); (try refine ug_ (by rfl) ?_); refine goesA_ (some 16) Try.func11 #[.agg #[.int .i64 a0_0, .int .i64 a0_1, .int .i64 a0_2, .int .i64 a0_3, .int .i64 a0_4, .int .u64 a0_5, .int .i64 a0_6, .slice A0_7 l0_7.length c0_7], .slice none 0 0] ?_; (refine (spigotref42_Great.calls a0_0 a0_1 a0_2 a0_3 a0_4 a0_5 a0_6 _ _ l0_7 _ _ ([] : List (S31)) false _ ?side1 ?side2 ?side3 ?side4 A10.out).mono ?_); (case side1 => exact cs_ HR0_7 HB); (case side2 => exact HC0_7.out); (case side3 => exact Kd.C_nil _ _); (case side4 => exact Nat.le_refl _); rintro e w70 ⟨rfl, hb⟩; refine ⟨_, rfl, ?_⟩; replace BK317 := bb_ BK317 hb; replace BK318 := bb_ BK318 hb; replace BK319 := bb_ BK319 hb; replace HB := bs_ w hb; clear hb; replace hc317 := ce8_ BK317) | (go_at_call 12; (with_reducible refine (spigotref42_Check.calls k a0_0 a0_1 a0_2 a0_3 a0_4 a0_5 a0_6 _ _ l0_7 t322 _ ?side1 ?side2 A16.out).mono ?_); (case side1 => exact cs_ HR0_7 HB); (case side2 => exact HC0_7.out); rintro e w72 ⟨rfl, hb⟩; replace BK317 := bb_ BK317 hb; replace BK318 := bb_ BK318 hb; replace BK319 := bb_ BK319 hb; replace HB := bs_ w hb; clear hb; replace hn318_319 := NB318_319.out; replace hn319_318 := NB319_318.out; replace hc318 := ce4_ BK318) | (go_at_call 13; (with_reducible refine (spigotref42_Valid.calls a1_0 a1_1 a1_2 a1_3 true _ A18.out).mono ?_); rintro e w75 ⟨rfl, hb⟩; replace BK317 := bb_ BK317 hb; replace BK318 := bb_ BK318 hb; replace BK319 := bb_ BK319 hb; replace HB := bs_ w hb; clear hb; replace hc319 := ce4_ BK319) | (go_at_call 13; (with_reducible refine (spigotref42_Valid.calls a2_0 a2_1 a2_2 a2_3 true _ A20.out).mono ?_); rintro e w77 ⟨rfl, hb⟩; replace BK317 := bb_ BK317 hb; replace BK318 := bb_ BK318 hb; replace BK319 := bb_ BK319 hb; replace HB := bs_ w hb; clear hb; replace hc318 := ce4_ BK318; replace hc317 := ce8_ BK317; replace hc319 := ce4_ BK319))
          go_meet
          case rel => exact ⟨_, (!t320), rf_, H', al_, ⟨bq_ BK317⟩, ⟨bq_ BK318⟩, ⟨bq_ BK319⟩, bw_⟩
         ·rw [if_neg c66] at H
          have c66b0 : (a1_0 == 2) = false := beq_eq_false_iff_ne.mpr c66
          have c66b1 : (a1_0 != 2) = true := bne_iff_ne.mpr c66
          by_cases c81 : a1_0 = 4
          ·rw [if_pos c81] at H
           have c81b0 : (a1_0 == 4) = true := beq_iff_eq.mpr c81
           have c81b1 : (a1_0 != 4) = false := bne_eq_false_iff_eq.mpr c81
           clear c81
           have H' := Aside0.mk H
           clear H
           replace hn317_318 := NB317_318.out
           replace hn318_317 := NB318_317.out
           replace hn317_319 := NB317_319.out
           replace hn319_317 := NB319_317.out
           replace hc317 := ce8_ BK317
           go_wp2_with (first | ((with_reducible refine gate_callee (f := 11) rfl ?_); (try refine ug_ (by rfl) ?_); refine goesA_ (some 16) Try.func11 #[.agg #[.int .i64 a0_0, .int .i64 a0_1, .int .i64 a0_2, .int .i64 a0_3, .int .i64 a0_4, .int .u64 a0_5, .int .i64 a0_6, .slice A0_7 l0_7.length c0_7], .slice none 0 0] ?_; (refine (spigotref42_Great.calls a0_0 a0_1 a0_2 a0_3 a0_4 a0_5 a0_6 _ _ l0_7 _ _ ([] : List (S31)) false _ ?side1 ?side2 ?side3 ?side4 A10.out).mono ?_); (case side1 => exact cs_ HR0_7 HB); (case side2 => exact HC0_7.out); (case side3 => exact Kd.C_nil _ _); (case side4 => exact Nat.le_refl _); rintro e w85 ⟨rfl, hb⟩; refine ⟨_, rfl, ?_⟩; replace BK317 := bb_ BK317 hb; replace BK318 := bb_ BK318 hb; replace BK319 := bb_ BK319 hb; replace HB := bs_ w hb; clear hb; replace hc317 := ce8_ BK317) | (go_at_call 12; (with_reducible refine (spigotref42_Check.calls k a0_0 a0_1 a0_2 a0_3 a0_4 a0_5 a0_6 _ _ l0_7 t322 _ ?side1 ?side2 A16.out).mono ?_); (case side1 => exact cs_ HR0_7 HB); (case side2 => exact HC0_7.out); rintro e w87 ⟨rfl, hb⟩; replace BK317 := bb_ BK317 hb; replace BK318 := bb_ BK318 hb; replace BK319 := bb_ BK319 hb; replace HB := bs_ w hb; clear hb; replace hn318_319 := NB318_319.out; replace hn319_318 := NB319_318.out; replace hc318 := ce4_ BK318) | (go_at_call 13; (with_reducible refine (spigotref42_Valid.calls a1_0 a1_1 a1_2 a1_3 true _ A18.out).mono ?_); rintro e w90 ⟨rfl, hb⟩; replace BK317 := bb_ BK317 hb; replace BK318 := bb_ BK318 hb; replace BK319 := bb_ BK319 hb; replace HB := bs_ w hb; clear hb; replace hc319 := ce4_ BK319) | (go_at_call 13; (with_reducible refine (spigotref42_Valid.calls a2_0 a2_1 a2_2 a2_3 true _ A20.out).mono ?_); rintro e w92 ⟨rfl, hb⟩; replace BK317 := bb_ BK317 hb; replace BK318 := bb_ BK318 hb; replace BK319 := bb_ BK319 hb; replace HB := bs_ w hb; clear hb; replace hc318 := ce4_ BK318; replace hc317 := ce8_ BK317; replace hc319 := ce4_ BK319))
           go_meet
           case rel => exact ⟨_, (!t320), rf_, H', al_, ⟨bq_ BK317⟩, ⟨bq_ BK318⟩, ⟨bq_ BK319⟩, bw_⟩
          ·rw [if_neg c81] at H
           have c81b0 : (a1_0 == 4) = false := beq_eq_false_iff_ne.mpr c81
           have c81b1 : (a1_0 != 4) = true := bne_iff_ne.mpr c81
           have H' := Aside0.mk H
           clear H
           replace hn317_318 := NB317_318.out
           replace hn318_317 := NB318_317.out
           replace hn317_319 := NB317_319.out
           replace hn319_317 := NB319_317.out
           replace hc317 := ce8_ BK317
           go_wp2_with (first | ((with_reducible refine gate_callee (f := 11) rfl ?_); (try refine ug_ (by rfl) ?_); refine goesA_ (some 16) Try.func11 #[.agg #[.int .i64 a0_0, .int .i64 a0_1, .int .i64 a0_2, .int .i64 a0_3, .int .i64 a0_4, .int .u64 a0_5, .int .i64 a0_6, .slice A0_7 l0_7.length c0_7], .slice none 0 0] ?_; (refine (spigotref42_Great.calls a0_0 a0_1 a0_2 a0_3 a0_4 a0_5 a0_6 _ _ l0_7 _ _ ([] : List (S31)) false _ ?side1 ?side2 ?side3 ?side4 A10.out).mono ?_); (case side1 => exact cs_ HR0_7 HB); (case side2 => exact HC0_7.out); (case side3 => exact Kd.C_nil _ _); (case side4 => exact Nat.le_refl _); rintro e w99 ⟨rfl, hb⟩; refine ⟨_, rfl, ?_⟩; replace BK317 := bb_ BK317 hb; replace BK318 := bb_ BK318 hb; replace BK319 := bb_ BK319 hb; replace HB := bs_ w hb; clear hb; replace hc317 := ce8_ BK317) | (go_at_call 12; (with_reducible refine (spigotref42_Check.calls k a0_0 a0_1 a0_2 a0_3 a0_4 a0_5 a0_6 _ _ l0_7 t322 _ ?side1 ?side2 A16.out).mono ?_); (case side1 => exact cs_ HR0_7 HB); (case side2 => exact HC0_7.out); rintro e w101 ⟨rfl, hb⟩; replace BK317 := bb_ BK317 hb; replace BK318 := bb_ BK318 hb; replace BK319 := bb_ BK319 hb; replace HB := bs_ w hb; clear hb; replace hn318_319 := NB318_319.out; replace hn319_318 := NB319_318.out; replace hc318 := ce4_ BK318) | (go_at_call 13; (with_reducible refine (spigotref42_Valid.calls a1_0 a1_1 a1_2 a1_3 true _ A18.out).mono ?_); rintro e w104 ⟨rfl, hb⟩; replace BK317 := bb_ BK317 hb; replace BK318 := bb_ BK318 hb; replace BK319 := bb_ BK319 hb; replace HB := bs_ w hb; clear hb; replace hc319 := ce4_ BK319) | (go_at_call 13; (with_reducible refine (spigotref42_Valid.calls a2_0 a2_1 a2_2 a2_3 true _ A20.out).mono ?_); rintro e w106 ⟨rfl, hb⟩; replace BK317 := bb_ BK317 hb; replace BK318 := bb_ BK318 hb; replace BK319 := bb_ BK319 hb; replace HB := bs_ w hb; clear hb; replace hc318 := ce4_ BK318; replace hc317 := ce8_ BK317; replace hc319 := ce4_ BK319))
           go_meet
           case rel => exact ⟨_, (true), rf_, H', al_, ⟨bq_ BK317⟩, ⟨bq_ BK318⟩, ⟨bq_ BK319⟩, bw_⟩
     ·replace c21 := Bool.eq_false_iff.mpr c21
      subst c21
      rw [if_neg (show ¬ (false = true) by decide)] at H
      try dsimp only at H
      have H' := Aside0.mk H
      clear H
      replace hn317_318 := NB317_318.out
      replace hn318_317 := NB318_317.out
      replace hn317_319 := NB317_319.out
      replace hn319_317 := NB319_317.out
      replace hc317 := ce8_ BK317
      go_wp2_with (first | ((with_reducible refine gate_callee (f := 11) rfl ?_); (try refine ug_ (by rfl) ?_); refine goesA_ (some 16) Try.func11 #[.agg #[.int .i64 a0_0, .int .i64 a0_1, .int .i64 a0_2, .int .i64 a0_3, .int .i64 a0_4, .int .u64 a0_5, .int .i64 a0_6, .slice A0_7 l0_7.length c0_7], .slice none 0 0] ?_; (refine (spigotref42_Great.calls a0_0 a0_1 a0_2 a0_3 a0_4 a0_5 a0_6 _ _ l0_7 _ _ ([] : List (S31)) false _ ?side1 ?side2 ?side3 ?side4 A10.out).mono ?_); (case side1 => exact cs_ HR0_7 HB); (case side2 => exact HC0_7.out); (case side3 => exact Kd.C_nil _ _); (case side4 => exact Nat.le_refl _); rintro e w113 ⟨rfl, hb⟩; refine ⟨_, rfl, ?_⟩; replace BK317 := bb_ BK317 hb; replace BK318 := bb_ BK318 hb; replace BK319 := bb_ BK319 hb; replace HB := bs_ w hb; clear hb; replace hc317 := ce8_ BK317) | (go_at_call 12; (with_reducible refine (spigotref42_Check.calls k a0_0 a0_1 a0_2 a0_3 a0_4 a0_5 a0_6 _ _ l0_7 t322 _ ?side1 ?side2 A16.out).mono ?_); (case side1 => exact cs_ HR0_7 HB); (case side2 => exact HC0_7.out); rintro e w115 ⟨rfl, hb⟩; replace BK317 := bb_ BK317 hb; replace BK318 := bb_ BK318 hb; replace BK319 := bb_ BK319 hb; replace HB := bs_ w hb; clear hb; replace hn318_319 := NB318_319.out; replace hn319_318 := NB319_318.out; replace hc318 := ce4_ BK318) | (go_at_call 13; (with_reducible refine (spigotref42_Valid.calls a1_0 a1_1 a1_2 a1_3 true _ A18.out).mono ?_); rintro e w118 ⟨rfl, hb⟩; replace BK317 := bb_ BK317 hb; replace BK318 := bb_ BK318 hb; replace BK319 := bb_ BK319 hb; replace HB := bs_ w hb; clear hb; replace hc319 := ce4_ BK319) | (go_at_call 13; (with_reducible refine (spigotref42_Valid.calls a2_0 a2_1 a2_2 a2_3 false _ A20.out).mono ?_); rintro e w120 ⟨rfl, hb⟩; replace BK317 := bb_ BK317 hb; replace BK318 := bb_ BK318 hb; replace BK319 := bb_ BK319 hb; replace HB := bs_ w hb; clear hb))
      go_meet
      case rel => exact ⟨_, (true), rf_, H', al_, ⟨bq_ BK317⟩, ⟨bq_ BK318⟩, ⟨bq_ BK319⟩, bw_⟩
    ·replace c19 := Bool.eq_false_iff.mpr c19
     subst c19
     rw [if_neg (show ¬ (false = true) by decide)] at H
     try dsimp only at H
     have H' := Aside0.mk H
     clear H
     replace hn317_318 := NB317_318.out
     replace hn318_317 := NB318_317.out
     replace hn317_319 := NB317_319.out
     replace hn319_317 := NB319_317.out
     replace hc317 := ce8_ BK317
     go_wp2_with (first | ((with_reducible refine gate_callee (f := 11) rfl ?_); (try refine ug_ (by rfl) ?_); refine goesA_ (some 16) Try.func11 #[.agg #[.int .i64 a0_0, .int .i64 a0_1, .int .i64 a0_2, .int .i64 a0_3, .int .i64 a0_4, .int .u64 a0_5, .int .i64 a0_6, .slice A0_7 l0_7.length c0_7], .slice none 0 0] ?_; (refine (spigotref42_Great.calls a0_0 a0_1 a0_2 a0_3 a0_4 a0_5 a0_6 _ _ l0_7 _ _ ([] : List (S31)) false _ ?side1 ?side2 ?side3 ?side4 A10.out).mono ?_); (case side1 => exact cs_ HR0_7 HB); (case side2 => exact HC0_7.out); (case side3 => exact Kd.C_nil _ _); (case side4 => exact Nat.le_refl _); rintro e w124 ⟨rfl, hb⟩; refine ⟨_, rfl, ?_⟩; replace BK317 := bb_ BK317 hb; replace BK318 := bb_ BK318 hb; replace BK319 := bb_ BK319 hb; replace HB := bs_ w hb; clear hb; replace hc317 := ce8_ BK317) | (go_at_call 12; (with_reducible refine (spigotref42_Check.calls k a0_0 a0_1 a0_2 a0_3 a0_4 a0_5 a0_6 _ _ l0_7 t322 _ ?side1 ?side2 A16.out).mono ?_); (case side1 => exact cs_ HR0_7 HB); (case side2 => exact HC0_7.out); rintro e w126 ⟨rfl, hb⟩; replace BK317 := bb_ BK317 hb; replace BK318 := bb_ BK318 hb; replace BK319 := bb_ BK319 hb; replace HB := bs_ w hb; clear hb; replace hn318_319 := NB318_319.out; replace hn319_318 := NB319_318.out; replace hc318 := ce4_ BK318) | (go_at_call 13; (with_reducible refine (spigotref42_Valid.calls a1_0 a1_1 a1_2 a1_3 false _ A18.out).mono ?_); rintro e w129 ⟨rfl, hb⟩; replace BK317 := bb_ BK317 hb; replace BK318 := bb_ BK318 hb; replace BK319 := bb_ BK319 hb; replace HB := bs_ w hb; clear hb))
     go_meet
     case rel => exact ⟨_, (true), rf_, H', al_, ⟨bq_ BK317⟩, ⟨bq_ BK318⟩, ⟨bq_ BK319⟩, bw_⟩
   ·rw [if_neg c17] at H
    have c17b0 : (t322 == 0) = false := beq_eq_false_iff_ne.mpr c17
    have c17b1 : (t322 != 0) = true := bne_iff_ne.mpr c17
    (first | rw [c17b0] | (simp only [i64_w, i32_w]; rw [c17b0]) | skip)
    have H' := Aside0.mk H
    clear H
    replace hn317_318 := NB317_318.out
    replace hn318_317 := NB318_317.out
    replace hn317_319 := NB317_319.out
    replace hn319_317 := NB319_317.out
    replace hc317 := ce8_ BK317
    go_wp2_with (first | ((with_reducible refine gate_callee (f := 11) rfl ?_); (try refine ug_ (by rfl) ?_); refine goesA_ (some 16) Try.func11 #[.agg #[.int .i64 a0_0, .int .i64 a0_1, .int .i64 a0_2, .int .i64 a0_3, .int .i64 a0_4, .int .u64 a0_5, .int .i64 a0_6, .slice A0_7 l0_7.length c0_7], .slice none 0 0] ?_; (refine (spigotref42_Great.calls a0_0 a0_1 a0_2 a0_3 a0_4 a0_5 a0_6 _ _ l0_7 _ _ ([] : List (S31)) false _ ?side1 ?side2 ?side3 ?side4 A10.out).mono ?_); (case side1 => exact cs_ HR0_7 HB); (case side2 => exact HC0_7.out); (case side3 => exact Kd.C_nil _ _); (case side4 => exact Nat.le_refl _); rintro e w133 ⟨rfl, hb⟩; refine ⟨_, rfl, ?_⟩; replace BK317 := bb_ BK317 hb; replace BK318 := bb_ BK318 hb; replace BK319 := bb_ BK319 hb; replace HB := bs_ w hb; clear hb; replace hc317 := ce8_ BK317) | (go_at_call 12; (with_reducible refine (spigotref42_Check.calls k a0_0 a0_1 a0_2 a0_3 a0_4 a0_5 a0_6 _ _ l0_7 t322 _ ?side1 ?side2 A16.out).mono ?_); (case side1 => exact cs_ HR0_7 HB); (case side2 => exact HC0_7.out); rintro e w135 ⟨rfl, hb⟩; replace BK317 := bb_ BK317 hb; replace BK318 := bb_ BK318 hb; replace BK319 := bb_ BK319 hb; replace HB := bs_ w hb; clear hb))
    go_meet
    case rel => exact ⟨_, (true), rf_, H', al_, ⟨bq_ BK317⟩, ⟨bq_ BK318⟩, ⟨bq_ BK319⟩, bw_⟩
 case rest =>
  clear HC5
  obtain ⟨kq, x68_4, rfl, HA, HJ4, BK317, BK318, BK319, HB⟩ := hcut
  cases kq with
  | zero => exact absurd HA.out (by simp [spigotlaw42_LeaseSwap.j0])
  | succ kj4 =>
   have H := HA.out
   clear HA
   simp only [spigotlaw42_LeaseSwap.j0] at H
   by_cases c136 : x68_4 = true
   ·subst c136
    replace H : (some t320) = some r := by rw [if_pos rfl] at H; exact H
    obtain rfl := Option.some.inj H
    go_wp2
    go_ret
    exact fi_
   ·replace c136 := Bool.eq_false_iff.mpr c136
    subst c136
    rw [if_neg (show ¬ (false = true) by decide)] at H
    try dsimp only at H
    obtain ⟨y325, hy325⟩ : ∃ y_ : List (S31), y_ = (([(⟨a1_0, a1_1, a1_2, a1_3⟩ : S31), (⟨a2_0, a2_1, a1_2, a2_3⟩ : S31)] : List (S31))) := ⟨_, rfl⟩
    replace H : ((lease_Run.f kj4 a0_0 a0_1 a0_2 a0_3 a0_4 a0_5 a0_6 l0_7 y325).bind fun bt328 => ((lease_Run.f kj4 a0_0 a0_1 a0_2 a0_3 a0_4 a0_5 a0_6 l0_7 (([(⟨a2_0, a2_1, a1_2, a2_3⟩ : S31), (⟨a1_0, a1_1, a1_2, a1_3⟩ : S31)] : List (S31)))).bind fun bt346 => (if t320 = true then (if bt328.2.2.2.2.2.2.2.2.2 = 0 then (if bt346.2.2.2.2.2.2.2.2.2 = 0 then ((spigotref42_Same.f kj4 bt328.1 bt328.2.1 bt328.2.2.1 bt328.2.2.2.1 bt328.2.2.2.2.1 bt328.2.2.2.2.2.1 bt328.2.2.2.2.2.2.1 bt328.2.2.2.2.2.2.2.1 bt346.1 bt346.2.1 bt346.2.2.1 bt346.2.2.2.1 bt346.2.2.2.2.1 bt346.2.2.2.2.2.1 bt346.2.2.2.2.2.2.1 bt346.2.2.2.2.2.2.2.1).bind fun t361 => (if t361 = true then (if (bt328.2.2.2.2.2.2.2.2.1.length : Int) = 2 then (if (bt346.2.2.2.2.2.2.2.2.1.length : Int) = 2 then (if 0 < (bt328.2.2.2.2.2.2.2.2.1.length : Int) then (if 1 < (bt346.2.2.2.2.2.2.2.2.1.length : Int) then (if (rd bt328.2.2.2.2.2.2.2.2.1 0) = (rd bt346.2.2.2.2.2.2.2.2.1 1) then (if 1 < (bt328.2.2.2.2.2.2.2.2.1.length : Int) then (if 0 < (bt346.2.2.2.2.2.2.2.2.1.length : Int) then (some ((rd bt328.2.2.2.2.2.2.2.2.1 1) == (rd bt346.2.2.2.2.2.2.2.2.1 0))) else (none)) else (none)) else (none)) else (none)) else (none)) else (none)) else (none)) else (none))) else (none)) else (none)) else (none)))) = some r := by first | (rw [hy325]; with_reducible exact H) | (have H2_ := (Option.bind_some _ _).symm.trans H; rw [hy325]; with_reducible exact H2_) | (have H2_ := (Option.bind_some _ _).symm.trans H; with_reducible exact H2_) | with_reducible exact H | (rw [hy325]; exact H) | exact H
    have Ny325 := Aside0.mk hy325
    clear hy325
    obtain ⟨⟨t328, t329, t330, t331, t332, t333, t334, t335, t338, t341⟩, A137, H⟩ := bo_ H
    try dsimp only at H
    obtain ⟨y343, hy343⟩ : ∃ y_ : List (S31), y_ = (([(⟨a2_0, a2_1, a1_2, a2_3⟩ : S31), (⟨a1_0, a1_1, a1_2, a1_3⟩ : S31)] : List (S31))) := ⟨_, rfl⟩
    replace H : ((lease_Run.f kj4 a0_0 a0_1 a0_2 a0_3 a0_4 a0_5 a0_6 l0_7 y343).bind fun bt346 => (if t320 = true then (if t341 = 0 then (if bt346.2.2.2.2.2.2.2.2.2 = 0 then ((spigotref42_Same.f kj4 t328 t329 t330 t331 t332 t333 t334 t335 bt346.1 bt346.2.1 bt346.2.2.1 bt346.2.2.2.1 bt346.2.2.2.2.1 bt346.2.2.2.2.2.1 bt346.2.2.2.2.2.2.1 bt346.2.2.2.2.2.2.2.1).bind fun t361 => (if t361 = true then (if (t338.length : Int) = 2 then (if (bt346.2.2.2.2.2.2.2.2.1.length : Int) = 2 then (if 0 < (t338.length : Int) then (if 1 < (bt346.2.2.2.2.2.2.2.2.1.length : Int) then (if (rd t338 0) = (rd bt346.2.2.2.2.2.2.2.2.1 1) then (if 1 < (t338.length : Int) then (if 0 < (bt346.2.2.2.2.2.2.2.2.1.length : Int) then (some ((rd t338 1) == (rd bt346.2.2.2.2.2.2.2.2.1 0))) else (none)) else (none)) else (none)) else (none)) else (none)) else (none)) else (none)) else (none))) else (none)) else (none)) else (none))) = some r := by first | (rw [hy343]; with_reducible exact H) | (have H2_ := (Option.bind_some _ _).symm.trans H; rw [hy343]; with_reducible exact H2_) | (have H2_ := (Option.bind_some _ _).symm.trans H; with_reducible exact H2_) | with_reducible exact H | (rw [hy343]; exact H) | exact H
    have Ny343 := Aside0.mk hy343
    clear hy343
    obtain ⟨⟨t346, t347, t348, t349, t350, t351, t352, t353, t356, t359⟩, A138, H⟩ := bo_ H
    try dsimp only at H
    by_cases c139 : t320 = true
    ·subst c139
     rw [if_pos rfl] at H
     try dsimp only at H
     by_cases c140 : t341 = 0
     rotate_left
     ·rw [if_neg c140] at H; exact absurd H (by simp)
     rw [if_pos c140] at H
     have c140b0 : (t341 == 0) = true := beq_iff_eq.mpr c140
     have c140b1 : (t341 != 0) = false := bne_eq_false_iff_eq.mpr c140
     clear c140
     by_cases c141 : t359 = 0
     rotate_left
     ·rw [if_neg c141] at H; exact absurd H (by simp)
     rw [if_pos c141] at H
     have c141b0 : (t359 == 0) = true := beq_iff_eq.mpr c141
     have c141b1 : (t359 != 0) = false := bne_eq_false_iff_eq.mpr c141
     clear c141
     obtain ⟨t361, A142, H⟩ := bo_ H
     try dsimp only at H
     by_cases c143 : t361 = true
     ·subst c143
      rw [if_pos rfl] at H
      try dsimp only at H
      by_cases c144 : (t338.length : Int) = 2
      rotate_left
      ·rw [if_neg c144] at H; exact absurd H (by simp)
      rw [if_pos c144] at H
      have c144b0 : ((t338.length : Int) == 2) = true := beq_iff_eq.mpr c144
      have c144b1 : ((t338.length : Int) != 2) = false := bne_eq_false_iff_eq.mpr c144
      clear c144
      by_cases c145 : (t356.length : Int) = 2
      rotate_left
      ·rw [if_neg c145] at H; exact absurd H (by simp)
      rw [if_pos c145] at H
      have c145b0 : ((t356.length : Int) == 2) = true := beq_iff_eq.mpr c145
      have c145b1 : ((t356.length : Int) != 2) = false := bne_eq_false_iff_eq.mpr c145
      clear c145
      by_cases c146 : 0 < (t338.length : Int)
      rotate_left
      ·rw [if_neg c146] at H; exact absurd H (by simp)
      rw [if_pos c146] at H
      have c146b0 : decide (0 < (t338.length : Int)) = true := decide_eq_true c146
      have c146b1 : decide (0 < t338.length) = true := decide_eq_true (by omega)
      clear c146
      by_cases c147 : 1 < (t356.length : Int)
      rotate_left
      ·rw [if_neg c147] at H; exact absurd H (by simp)
      rw [if_pos c147] at H
      have c147b0 : decide (1 < (t356.length : Int)) = true := decide_eq_true c147
      have c147b1 : decide (1 < t356.length) = true := decide_eq_true (by omega)
      clear c147
      by_cases c148 : (rd t338 0) = (rd t356 1)
      rotate_left
      ·rw [if_neg c148] at H; exact absurd H (by simp)
      rw [if_pos c148] at H
      have c148b0 : ((rd t338 0) == (rd t356 1)) = true := beq_iff_eq.mpr c148
      have c148b1 : ((rd t338 0) != (rd t356 1)) = false := bne_eq_false_iff_eq.mpr c148
      clear c148
      by_cases c149 : 1 < (t338.length : Int)
      rotate_left
      ·rw [if_neg c149] at H; exact absurd H (by simp)
      rw [if_pos c149] at H
      have c149b0 : decide (1 < (t338.length : Int)) = true := decide_eq_true c149
      have c149b1 : decide (1 < t338.length) = true := decide_eq_true (by omega)
      clear c149
      by_cases c150 : 0 < (t356.length : Int)
      rotate_left
      ·rw [if_neg c150] at H; exact absurd H (by simp)
      rw [if_pos c150] at H
      have c150b0 : decide (0 < (t356.length : Int)) = true := decide_eq_true c150
      have c150b1 : decide (0 < t356.length) = true := decide_eq_true (by omega)
      clear c150
      obtain rfl := Option.some.inj H
      replace hn318_317 := NB318_317.out
      replace hn317_318 := NB317_318.out
      replace hn318_319 := NB318_319.out
      replace hn319_318 := NB319_318.out
      replace hc318 := ce4_ BK318
      replace hn319_317 := NB319_317.out
      replace hn317_319 := NB317_319.out
      replace hc319 := ce4_ BK319
      replace hc317 := ce8_ BK317
      try go_wp2_with (first | ((with_reducible refine gate_dst (N := 77) rfl ?_); (try refine ug_ (by rfl) ?_); refine Kd.R_lit k31 _ 31 ?hg (N := 77) ?hd (xs := ([(⟨a1_0, a1_1, a1_2, a1_3⟩ : S31), (⟨a2_0, a2_1, a1_2, a2_3⟩ : S31)] : List (S31))) (inner := [.int .u8 a1_0, .int .i64 a1_1, .int .u64 a1_2, .int .i64 a1_3, .int .u8 a2_0, .int .i64 a2_1, .int .u64 a1_2, .int .i64 a2_3]) (ok := fun _ => True) (okp := fun _ => True) ?hr ?hp (fun _ hk => hk) trivial (Below.refl _ _) (Nat.le_refl _) (by simp) ?_; (case hd => rfl); (case hg => rfl); (case hr => first | (go_simp; done) | (go_simp; rfl)); (case hp => exact (Reps.c4 (show Kd.M k31 _ _ _ (⟨a1_0, a1_1, a1_2, a1_3⟩ : S31) [.int .u8 a1_0, .int .i64 a1_1, .int .u64 a1_2, .int .i64 a1_3] from (k31_mkM _ _ _ (⟨a1_0, a1_1, a1_2, a1_3⟩ : S31) )) (Reps.c4 (show Kd.M k31 _ _ _ (⟨a2_0, a2_1, a1_2, a2_3⟩ : S31) [.int .u8 a2_0, .int .i64 a2_1, .int .u64 a1_2, .int .i64 a2_3] from (k31_mkM _ _ _ (⟨a2_0, a2_1, a1_2, a2_3⟩ : S31) )) (Reps.none _ _)))); intro v326 w157 ho158 hb hg_ hnew_; clear hg_ hnew_; (first | rw [← Ny325.out] at ho158 | (simp only [Int.reduceToNat] at ho158; rw [← Ny325.out] at ho158)); have HO327 := Aside0.mk (Kd.R_lower (Kd.R_newB (Kd.R_newB ho158 (g := gb318) (o := .cells #[.int .u8 a1_0, .int .i64 a1_1, .int .u64 a1_2, .int .i64 a1_3] 31 (0, 0)) (bt_ BK318)) (g := gb319) (o := .cells #[.int .u8 a2_0, .int .i64 a2_1, .int .u64 a1_2, .int .i64 a2_3] 31 (0, 0)) (blk_put (cs := #[.int .u8 a2_0, .int .i64 a2_1, .int .u64 a2_2, .int .i64 a2_3]) (bq_ BK319) 2 _ rfl)) (below_size bh_)); replace BK317 := bf_ BK317 hb; replace BK318 := bf_ BK318 hb; replace BK319 := Aside0.mk (blk_below (g := gb319) (o := .cells #[.int .u8 a2_0, .int .i64 a2_1, .int .u64 a1_2, .int .i64 a2_3] 31 (0, 0)) (blk_put (cs := #[.int .u8 a2_0, .int .i64 a2_1, .int .u64 a2_2, .int .i64 a2_3]) (bq_ BK319) 2 _ rfl) hb); replace HB := bs_ w hb; clear hb ho158; obtain ⟨Ao159, co159, eo159⟩ := Kd.R_slice HO327.out; subst eo159) | ((with_reducible refine gate_callee (f := 16) rfl ?_); (try refine ug_ (by rfl) ?_); refine goesA_ (some 78) Try.func16 #[.agg #[.int .i64 a0_0, .int .i64 a0_1, .int .i64 a0_2, .int .i64 a0_3, .int .i64 a0_4, .int .u64 a0_5, .int .i64 a0_6, .slice A0_7 l0_7.length c0_7], .slice Ao159 y325.length co159] ?_; (with_reducible refine (lease_Run.calls kj4 a0_0 a0_1 a0_2 a0_3 a0_4 a0_5 a0_6 _ _ l0_7 _ _ y325 t328 t329 t330 t331 t332 t333 t334 t335 t338 t341 _ ?side1 ?side2 ?side3 ?side4 A137.out).mono ?_); (case side1 => exact cs_ HR0_7 HB); (case side2 => exact HC0_7.out); (case side3 => exact cr_ HO327); (case side4 => exact (Kd.R_reads' HO327.out).2.1); rintro e w160 ⟨v336, v339, rfl, ho0, ho1, hb⟩; refine ⟨_, rfl, ?_⟩; have HO337 := Aside0.mk (Kd.R_lower ho0 (below_size bh_)); have HO340 := Aside0.mk (Kd.R_lower ho1 (below_size bh_)); replace HO327 := rb_ HO327 hb; replace BK317 := bb_ BK317 hb; replace BK318 := bb_ BK318 hb; replace BK319 := bb_ BK319 hb; replace HB := bs_ w hb; (try clear hb); (try clear hb2); (try clear hk); (try clear hi); (try clear ho0); (try clear ho1)) | ((with_reducible refine gate_dst (N := 8) rfl ?_); (try refine ug_ (by rfl) ?_); refine bx_ #[.int .i64 0, .int .i64 0, .int .i64 0, .int .i64 0, .int .i64 0, .int .u64 0, .int .i64 0, .slice none 0 0] 29 ?_; intro gb342 hg w161 BK342 hb; have GW342 := bz_ w hg; have NB317_342 := bn_ BK317 hg; have NB342_317 := bm_ BK317 hg; have NB318_342 := bn_ BK318 hg; have NB342_318 := bm_ BK318 hg; have NB319_342 := bn_ BK319 hg; have NB342_319 := bm_ BK319 hg; replace HO327 := rb_ HO327 hb; replace HO337 := rb_ HO337 hb; replace HO340 := rb_ HO340 hb; replace BK317 := bb_ BK317 hb; replace BK318 := bb_ BK318 hb; replace BK319 := bb_ BK319 hb; replace HB := bs_ w hb; clear hb hg; replace hn342_317 := NB342_317.out; replace hn317_342 := NB317_342.out; replace hn342_318 := NB342_318.out; replace hn318_342 := NB318_342.out; replace hn342_319 := NB342_319.out; replace hn319_342 := NB319_342.out; replace hc342 := ce8_ BK342; obtain ⟨Ao166, co166, eo166⟩ := Kd.R_slice HO337.out; subst eo166; replace hc317 := ce8_ BK317; replace hc319 := ce4_ BK319; replace hc318 := ce4_ BK318) | ((with_reducible refine gate_dst (N := 86) rfl ?_); (try refine ug_ (by rfl) ?_); refine Kd.R_lit k31 _ 31 ?hg (N := 86) ?hd (xs := ([(⟨a2_0, a2_1, a1_2, a2_3⟩ : S31), (⟨a1_0, a1_1, a1_2, a1_3⟩ : S31)] : List (S31))) (inner := [.int .u8 a2_0, .int .i64 a2_1, .int .u64 a1_2, .int .i64 a2_3, .int .u8 a1_0, .int .i64 a1_1, .int .u64 a1_2, .int .i64 a1_3]) (ok := fun _ => True) (okp := fun _ => True) ?hr ?hp (fun _ hk => hk) trivial (Below.refl _ _) (Nat.le_refl _) (by simp) ?_; (case hd => rfl); (case hg => rfl); (case hr => first | (go_simp; done) | (go_simp; rfl)); (case hp => exact (Reps.c4 (show Kd.M k31 _ _ _ (⟨a2_0, a2_1, a1_2, a2_3⟩ : S31) [.int .u8 a2_0, .int .i64 a2_1, .int .u64 a1_2, .int .i64 a2_3] from (k31_mkM _ _ _ (⟨a2_0, a2_1, a1_2, a2_3⟩ : S31) )) (Reps.c4 (show Kd.M k31 _ _ _ (⟨a1_0, a1_1, a1_2, a1_3⟩ : S31) [.int .u8 a1_0, .int .i64 a1_1, .int .u64 a1_2, .int .i64 a1_3] from (k31_mkM _ _ _ (⟨a1_0, a1_1, a1_2, a1_3⟩ : S31) )) (Reps.none _ _)))); intro v344 w170 ho171 hb hg_ hnew_; clear hg_ hnew_; (first | rw [← Ny343.out] at ho171 | (simp only [Int.reduceToNat] at ho171; rw [← Ny343.out] at ho171)); have HO345 := Aside0.mk (Kd.R_lower (Kd.R_newB (Kd.R_newB (Kd.R_new' ho171 (Kd.R_lt (by (with_reducible repeat (first | apply Kd.R_alloc | apply Kd.R_drewN | apply Kd.R_drew)); exact (Kd.R_mono (Kd.R_far (p := ⟨gb342, 7, none⟩) (Kd.R_far (p := ⟨gb342, 6, none⟩) (Kd.R_far (p := ⟨gb342, 5, none⟩) (Kd.R_far (p := ⟨gb342, 4, none⟩) (Kd.R_far (p := ⟨gb342, 3, none⟩) (Kd.R_far (p := ⟨gb342, 2, none⟩) (Kd.R_far (p := ⟨gb342, 1, none⟩) (Kd.R_far (p := ⟨gb342, 0, none⟩) (Kd.R_types HO327.out BK342.out (by decide)) (fun _ hk => hk.2) (.int .i64 t328)) (fun _ hk => hk.2) (.int .i64 t329)) (fun _ hk => hk.2) (.int .i64 t330)) (fun _ hk => hk.2) (.int .i64 t331)) (fun _ hk => hk.2) (.int .i64 t332)) (fun _ hk => hk.2) (.int .u64 t333)) (fun _ hk => hk.2) (.int .i64 t334)) (fun _ hk => hk.2) (.slice Ao166 t335.length co166)) (fun _ h_ => h_.1))))) (g := gb318) (o := .cells #[.int .u8 a1_0, .int .i64 a1_1, .int .u64 a1_2, .int .i64 a1_3] 31 (0, 0)) (bt_ BK318)) (g := gb319) (o := .cells #[.int .u8 a2_0, .int .i64 a2_1, .int .u64 a1_2, .int .i64 a2_3] 31 (0, 0)) (bt_ BK319)) (below_size bh_)); replace HO327 := Aside0.mk (Kd.R_elder' (by (with_reducible repeat (first | apply Kd.R_alloc | apply Kd.R_drewN | apply Kd.R_drew)); exact (Kd.R_mono (Kd.R_far (p := ⟨gb342, 7, none⟩) (Kd.R_far (p := ⟨gb342, 6, none⟩) (Kd.R_far (p := ⟨gb342, 5, none⟩) (Kd.R_far (p := ⟨gb342, 4, none⟩) (Kd.R_far (p := ⟨gb342, 3, none⟩) (Kd.R_far (p := ⟨gb342, 2, none⟩) (Kd.R_far (p := ⟨gb342, 1, none⟩) (Kd.R_far (p := ⟨gb342, 0, none⟩) (Kd.R_types HO327.out BK342.out (by decide)) (fun _ hk => hk.2) (.int .i64 t328)) (fun _ hk => hk.2) (.int .i64 t329)) (fun _ hk => hk.2) (.int .i64 t330)) (fun _ hk => hk.2) (.int .i64 t331)) (fun _ hk => hk.2) (.int .i64 t332)) (fun _ hk => hk.2) (.int .u64 t333)) (fun _ hk => hk.2) (.int .i64 t334)) (fun _ hk => hk.2) (.slice Ao166 t335.length co166)) (fun _ h_ => h_.1))) (Kd.R_base ho171) hb); replace HO337 := Aside0.mk (Kd.R_below (by (with_reducible repeat (first | apply Kd.R_alloc | apply Kd.R_drewN | apply Kd.R_drew)); exact (Kd.R_mono (Kd.R_far (p := ⟨gb342, 7, none⟩) (Kd.R_far (p := ⟨gb342, 6, none⟩) (Kd.R_far (p := ⟨gb342, 5, none⟩) (Kd.R_far (p := ⟨gb342, 4, none⟩) (Kd.R_far (p := ⟨gb342, 3, none⟩) (Kd.R_far (p := ⟨gb342, 2, none⟩) (Kd.R_far (p := ⟨gb342, 1, none⟩) (Kd.R_far (p := ⟨gb342, 0, none⟩) (Kd.R_types HO337.out BK342.out (by decide)) (fun _ hk => hk.2) (.int .i64 t328)) (fun _ hk => hk.2) (.int .i64 t329)) (fun _ hk => hk.2) (.int .i64 t330)) (fun _ hk => hk.2) (.int .i64 t331)) (fun _ hk => hk.2) (.int .i64 t332)) (fun _ hk => hk.2) (.int .u64 t333)) (fun _ hk => hk.2) (.int .i64 t334)) (fun _ hk => hk.2) (.slice Ao166 t335.length co166)) (fun _ h_ => h_.1))) hb); replace HO340 := Aside0.mk (Kd.R_below (by (with_reducible repeat (first | apply Kd.R_alloc | apply Kd.R_drewN | apply Kd.R_drew)); exact (Kd.R_mono (Kd.R_far (p := ⟨gb342, 7, none⟩) (Kd.R_far (p := ⟨gb342, 6, none⟩) (Kd.R_far (p := ⟨gb342, 5, none⟩) (Kd.R_far (p := ⟨gb342, 4, none⟩) (Kd.R_far (p := ⟨gb342, 3, none⟩) (Kd.R_far (p := ⟨gb342, 2, none⟩) (Kd.R_far (p := ⟨gb342, 1, none⟩) (Kd.R_far (p := ⟨gb342, 0, none⟩) (Kd.R_types HO340.out BK342.out (by decide)) (fun _ hk => hk.2) (.int .i64 t328)) (fun _ hk => hk.2) (.int .i64 t329)) (fun _ hk => hk.2) (.int .i64 t330)) (fun _ hk => hk.2) (.int .i64 t331)) (fun _ hk => hk.2) (.int .i64 t332)) (fun _ hk => hk.2) (.int .u64 t333)) (fun _ hk => hk.2) (.int .i64 t334)) (fun _ hk => hk.2) (.slice Ao166 t335.length co166)) (fun _ h_ => h_.1))) hb); replace BK317 := bf_ BK317 hb; replace BK318 := bf_ BK318 hb; replace BK319 := bf_ BK319 hb; replace BK342 := Aside0.mk (blk_below (g := gb342) (o := .cells #[.int .i64 t328, .int .i64 t329, .int .i64 t330, .int .i64 t331, .int .i64 t332, .int .u64 t333, .int .i64 t334, .slice Ao166 t335.length co166] 29 (0, 0)) (blk_put (cs := #[.int .i64 t328, .int .i64 t329, .int .i64 t330, .int .i64 t331, .int .i64 t332, .int .u64 t333, .int .i64 t334, .slice none 0 0]) (blk_put (cs := #[.int .i64 t328, .int .i64 t329, .int .i64 t330, .int .i64 t331, .int .i64 t332, .int .u64 t333, .int .i64 0, .slice none 0 0]) (blk_put (cs := #[.int .i64 t328, .int .i64 t329, .int .i64 t330, .int .i64 t331, .int .i64 t332, .int .u64 0, .int .i64 0, .slice none 0 0]) (blk_put (cs := #[.int .i64 t328, .int .i64 t329, .int .i64 t330, .int .i64 t331, .int .i64 0, .int .u64 0, .int .i64 0, .slice none 0 0]) (blk_put (cs := #[.int .i64 t328, .int .i64 t329, .int .i64 t330, .int .i64 0, .int .i64 0, .int .u64 0, .int .i64 0, .slice none 0 0]) (blk_put (cs := #[.int .i64 t328, .int .i64 t329, .int .i64 0, .int .i64 0, .int .i64 0, .int .u64 0, .int .i64 0, .slice none 0 0]) (blk_put (cs := #[.int .i64 t328, .int .i64 0, .int .i64 0, .int .i64 0, .int .i64 0, .int .u64 0, .int .i64 0, .slice none 0 0]) (blk_put (cs := #[.int .i64 0, .int .i64 0, .int .i64 0, .int .i64 0, .int .i64 0, .int .u64 0, .int .i64 0, .slice none 0 0]) (bq_ BK342) 0 _ rfl) 1 _ rfl) 2 _ rfl) 3 _ rfl) 4 _ rfl) 5 _ rfl) 6 _ rfl) 7 _ rfl) hb); replace HB := bs_ w hb; clear hb ho171; obtain ⟨Ao172, co172, eo172⟩ := Kd.R_slice HO345.out; subst eo172) | ((with_reducible refine gate_callee (f := 16) rfl ?_); (try refine ug_ (by rfl) ?_); refine goesA_ (some 87) Try.func16 #[.agg #[.int .i64 a0_0, .int .i64 a0_1, .int .i64 a0_2, .int .i64 a0_3, .int .i64 a0_4, .int .u64 a0_5, .int .i64 a0_6, .slice A0_7 l0_7.length c0_7], .slice Ao172 y343.length co172] ?_; (with_reducible refine (lease_Run.calls kj4 a0_0 a0_1 a0_2 a0_3 a0_4 a0_5 a0_6 _ _ l0_7 _ _ y343 t346 t347 t348 t349 t350 t351 t352 t353 t356 t359 _ ?side1 ?side2 ?side3 ?side4 A138.out).mono ?_); (case side1 => exact cs_ HR0_7 HB); (case side2 => exact HC0_7.out); (case side3 => exact cr_ HO345); (case side4 => exact (Kd.R_reads' HO345.out).2.1); rintro e w173 ⟨v354, v357, rfl, ho0, ho1, hb⟩; refine ⟨_, rfl, ?_⟩; have HO355 := Aside0.mk (Kd.R_lower (Kd.R_new' (Kd.R_new' ho0 (Kd.R_lt (rs_ HO337))) (Kd.R_lt (rs_ HO340))) (below_size bh_)); have HO358 := Aside0.mk (Kd.R_lower (Kd.R_new' (Kd.R_new' ho1 (Kd.R_lt (rs_ HO337))) (Kd.R_lt (rs_ HO340))) (below_size bh_)); replace HO327 := rb_ HO327 hb; replace HO337 := Aside0.mk (Kd.R_mono (Kd.R_told (Kd.R_told (Kd.R_old (rs_ HO337) hb) (Kd.R_base ho0)) (Kd.R_base ho1)) (fun _ h_ => h_.1)); replace HO340 := Aside0.mk (Kd.R_mono (Kd.R_told (Kd.R_told (Kd.R_old (rs_ HO340) hb) (Kd.R_base ho0)) (Kd.R_base ho1)) (fun _ h_ => h_.1)); replace HO345 := rb_ HO345 hb; replace BK317 := bb_ BK317 hb; replace BK318 := bb_ BK318 hb; replace BK319 := bb_ BK319 hb; replace BK342 := bb_ BK342 hb; replace HB := bs_ w hb; (try clear hb); (try clear hb2); (try clear hk); (try clear hi); (try clear ho0); (try clear ho1)) | ((with_reducible refine gate_dst (N := 11) rfl ?_); (try refine ug_ (by rfl) ?_); refine bx_ #[.int .i64 0, .int .i64 0, .int .i64 0, .int .i64 0, .int .i64 0, .int .u64 0, .int .i64 0, .slice none 0 0] 29 ?_; intro gb360 hg w174 BK360 hb; have GW360 := bz_ w hg; have NB317_360 := bn_ BK317 hg; have NB360_317 := bm_ BK317 hg; have NB318_360 := bn_ BK318 hg; have NB360_318 := bm_ BK318 hg; have NB319_360 := bn_ BK319 hg; have NB360_319 := bm_ BK319 hg; have NB342_360 := bn_ BK342 hg; have NB360_342 := bm_ BK342 hg; replace HO327 := rb_ HO327 hb; replace HO337 := rb_ HO337 hb; replace HO340 := rb_ HO340 hb; replace HO345 := rb_ HO345 hb; replace HO355 := rb_ HO355 hb; replace HO358 := rb_ HO358 hb; replace BK317 := bb_ BK317 hb; replace BK318 := bb_ BK318 hb; replace BK319 := bb_ BK319 hb; replace BK342 := bb_ BK342 hb; replace HB := bs_ w hb; clear hb hg; replace hn360_317 := NB360_317.out; replace hn317_360 := NB317_360.out; replace hn360_318 := NB360_318.out; replace hn318_360 := NB318_360.out; replace hn360_319 := NB360_319.out; replace hn319_360 := NB319_360.out; replace hn360_342 := NB360_342.out; replace hn342_360 := NB342_360.out; replace hc360 := ce8_ BK360; obtain ⟨Ao180, co180, eo180⟩ := Kd.R_slice HO355.out; subst eo180))
      have n0_ : Aside0 (Kd.R k31 31 ((((((((w174.setCell ⟨gb360, 0, none⟩ (.int .i64 t346)).setCell ⟨gb360, 1, none⟩ (.int .i64 t347)).setCell ⟨gb360, 2, none⟩ (.int .i64 t348)).setCell ⟨gb360, 3, none⟩ (.int .i64 t349)).setCell ⟨gb360, 4, none⟩ (.int .i64 t350)).setCell ⟨gb360, 5, none⟩ (.int .u64 t351)).setCell ⟨gb360, 6, none⟩ (.int .i64 t352)).setCell ⟨gb360, 7, none⟩ (.slice Ao180 t353.length co180)) w.heap.size (fun k_ => some k_ ≠ (.slice Ao172 y343.length co172 : Value).ownBlock ∧ k_ ≠ gb318 ∧ k_ ≠ gb319) (.slice Ao159 y325.length co159) y325) := ⟨by (with_reducible repeat (first | apply Kd.R_alloc | apply Kd.R_drewN | apply Kd.R_drew)); exact Kd.R_mono (Kd.R_far (p := ⟨gb360, 7, none⟩) (Kd.R_far (p := ⟨gb360, 6, none⟩) (Kd.R_far (p := ⟨gb360, 5, none⟩) (Kd.R_far (p := ⟨gb360, 4, none⟩) (Kd.R_far (p := ⟨gb360, 3, none⟩) (Kd.R_far (p := ⟨gb360, 2, none⟩) (Kd.R_far (p := ⟨gb360, 1, none⟩) (Kd.R_far (p := ⟨gb360, 0, none⟩) (Kd.R_types HO327.out BK360.out (by decide)) (fun _ hk => hk.2) (.int .i64 t346)) (fun _ hk => hk.2) (.int .i64 t347)) (fun _ hk => hk.2) (.int .i64 t348)) (fun _ hk => hk.2) (.int .i64 t349)) (fun _ hk => hk.2) (.int .i64 t350)) (fun _ hk => hk.2) (.int .u64 t351)) (fun _ hk => hk.2) (.int .i64 t352)) (fun _ hk => hk.2) (.slice Ao180 t353.length co180)) (fun _ hk => ⟨hk.1.2, ⟨hk.1.1.1.2, hk.1.1.2⟩⟩)⟩
      have n1_ : Aside0 (Kd.R (Kd.int .i64) 2 ((((((((w174.setCell ⟨gb360, 0, none⟩ (.int .i64 t346)).setCell ⟨gb360, 1, none⟩ (.int .i64 t347)).setCell ⟨gb360, 2, none⟩ (.int .i64 t348)).setCell ⟨gb360, 3, none⟩ (.int .i64 t349)).setCell ⟨gb360, 4, none⟩ (.int .i64 t350)).setCell ⟨gb360, 5, none⟩ (.int .u64 t351)).setCell ⟨gb360, 6, none⟩ (.int .i64 t352)).setCell ⟨gb360, 7, none⟩ (.slice Ao180 t353.length co180)) w.heap.size (fun k_ => some k_ ≠ (v339 : Value).ownBlock ∧ some k_ ≠ (.slice Ao180 t353.length co180 : Value).ownBlock ∧ some k_ ≠ (v357 : Value).ownBlock) (.slice Ao166 t335.length co166) t335) := ⟨by (with_reducible repeat (first | apply Kd.R_alloc | apply Kd.R_drewN | apply Kd.R_drew)); exact Kd.R_mono (Kd.R_far (p := ⟨gb360, 7, none⟩) (Kd.R_far (p := ⟨gb360, 6, none⟩) (Kd.R_far (p := ⟨gb360, 5, none⟩) (Kd.R_far (p := ⟨gb360, 4, none⟩) (Kd.R_far (p := ⟨gb360, 3, none⟩) (Kd.R_far (p := ⟨gb360, 2, none⟩) (Kd.R_far (p := ⟨gb360, 1, none⟩) (Kd.R_far (p := ⟨gb360, 0, none⟩) (Kd.R_types HO337.out BK360.out (by decide)) (fun _ hk => hk.2) (.int .i64 t346)) (fun _ hk => hk.2) (.int .i64 t347)) (fun _ hk => hk.2) (.int .i64 t348)) (fun _ hk => hk.2) (.int .i64 t349)) (fun _ hk => hk.2) (.int .i64 t350)) (fun _ hk => hk.2) (.int .u64 t351)) (fun _ hk => hk.2) (.int .i64 t352)) (fun _ hk => hk.2) (.slice Ao180 t353.length co180)) (fun _ hk => ⟨hk.1.1.1, ⟨hk.1.1.2, hk.1.2⟩⟩)⟩
      have n2_ : Aside0 (Kd.R (Kd.int .i64) 2 ((((((((w174.setCell ⟨gb360, 0, none⟩ (.int .i64 t346)).setCell ⟨gb360, 1, none⟩ (.int .i64 t347)).setCell ⟨gb360, 2, none⟩ (.int .i64 t348)).setCell ⟨gb360, 3, none⟩ (.int .i64 t349)).setCell ⟨gb360, 4, none⟩ (.int .i64 t350)).setCell ⟨gb360, 5, none⟩ (.int .u64 t351)).setCell ⟨gb360, 6, none⟩ (.int .i64 t352)).setCell ⟨gb360, 7, none⟩ (.slice Ao180 t353.length co180)) w.heap.size (fun k_ => some k_ ≠ (.slice Ao166 t335.length co166 : Value).ownBlock ∧ some k_ ≠ (.slice Ao180 t353.length co180 : Value).ownBlock ∧ some k_ ≠ (v357 : Value).ownBlock) v339 t338) := ⟨by (with_reducible repeat (first | apply Kd.R_alloc | apply Kd.R_drewN | apply Kd.R_drew)); exact Kd.R_mono (Kd.R_far (p := ⟨gb360, 7, none⟩) (Kd.R_far (p := ⟨gb360, 6, none⟩) (Kd.R_far (p := ⟨gb360, 5, none⟩) (Kd.R_far (p := ⟨gb360, 4, none⟩) (Kd.R_far (p := ⟨gb360, 3, none⟩) (Kd.R_far (p := ⟨gb360, 2, none⟩) (Kd.R_far (p := ⟨gb360, 1, none⟩) (Kd.R_far (p := ⟨gb360, 0, none⟩) (Kd.R_types HO340.out BK360.out (by decide)) (fun _ hk => hk.2) (.int .i64 t346)) (fun _ hk => hk.2) (.int .i64 t347)) (fun _ hk => hk.2) (.int .i64 t348)) (fun _ hk => hk.2) (.int .i64 t349)) (fun _ hk => hk.2) (.int .i64 t350)) (fun _ hk => hk.2) (.int .u64 t351)) (fun _ hk => hk.2) (.int .i64 t352)) (fun _ hk => hk.2) (.slice Ao180 t353.length co180)) (fun _ hk => ⟨hk.1.1.1, ⟨hk.1.1.2, hk.1.2⟩⟩)⟩
      have n3_ : Aside0 (Kd.R k31 31 ((((((((w174.setCell ⟨gb360, 0, none⟩ (.int .i64 t346)).setCell ⟨gb360, 1, none⟩ (.int .i64 t347)).setCell ⟨gb360, 2, none⟩ (.int .i64 t348)).setCell ⟨gb360, 3, none⟩ (.int .i64 t349)).setCell ⟨gb360, 4, none⟩ (.int .i64 t350)).setCell ⟨gb360, 5, none⟩ (.int .u64 t351)).setCell ⟨gb360, 6, none⟩ (.int .i64 t352)).setCell ⟨gb360, 7, none⟩ (.slice Ao180 t353.length co180)) w.heap.size (fun k_ => some k_ ≠ (.slice Ao159 y325.length co159 : Value).ownBlock ∧ k_ ≠ gb318 ∧ k_ ≠ gb319) (.slice Ao172 y343.length co172) y343) := ⟨by (with_reducible repeat (first | apply Kd.R_alloc | apply Kd.R_drewN | apply Kd.R_drew)); exact Kd.R_mono (Kd.R_far (p := ⟨gb360, 7, none⟩) (Kd.R_far (p := ⟨gb360, 6, none⟩) (Kd.R_far (p := ⟨gb360, 5, none⟩) (Kd.R_far (p := ⟨gb360, 4, none⟩) (Kd.R_far (p := ⟨gb360, 3, none⟩) (Kd.R_far (p := ⟨gb360, 2, none⟩) (Kd.R_far (p := ⟨gb360, 1, none⟩) (Kd.R_far (p := ⟨gb360, 0, none⟩) (Kd.R_types HO345.out BK360.out (by decide)) (fun _ hk => hk.2) (.int .i64 t346)) (fun _ hk => hk.2) (.int .i64 t347)) (fun _ hk => hk.2) (.int .i64 t348)) (fun _ hk => hk.2) (.int .i64 t349)) (fun _ hk => hk.2) (.int .i64 t350)) (fun _ hk => hk.2) (.int .u64 t351)) (fun _ hk => hk.2) (.int .i64 t352)) (fun _ hk => hk.2) (.slice Ao180 t353.length co180)) (fun _ hk => ⟨hk.1.1.1.2, ⟨hk.1.1.2, hk.1.2⟩⟩)⟩
      have n4_ : Aside0 (Kd.R (Kd.int .i64) 2 ((((((((w174.setCell ⟨gb360, 0, none⟩ (.int .i64 t346)).setCell ⟨gb360, 1, none⟩ (.int .i64 t347)).setCell ⟨gb360, 2, none⟩ (.int .i64 t348)).setCell ⟨gb360, 3, none⟩ (.int .i64 t349)).setCell ⟨gb360, 4, none⟩ (.int .i64 t350)).setCell ⟨gb360, 5, none⟩ (.int .u64 t351)).setCell ⟨gb360, 6, none⟩ (.int .i64 t352)).setCell ⟨gb360, 7, none⟩ (.slice Ao180 t353.length co180)) w.heap.size (fun k_ => some k_ ≠ (.slice Ao166 t335.length co166 : Value).ownBlock ∧ some k_ ≠ (v339 : Value).ownBlock ∧ some k_ ≠ (v357 : Value).ownBlock) (.slice Ao180 t353.length co180) t353) := ⟨by (with_reducible repeat (first | apply Kd.R_alloc | apply Kd.R_drewN | apply Kd.R_drew)); exact Kd.R_mono (Kd.R_far (p := ⟨gb360, 7, none⟩) (Kd.R_far (p := ⟨gb360, 6, none⟩) (Kd.R_far (p := ⟨gb360, 5, none⟩) (Kd.R_far (p := ⟨gb360, 4, none⟩) (Kd.R_far (p := ⟨gb360, 3, none⟩) (Kd.R_far (p := ⟨gb360, 2, none⟩) (Kd.R_far (p := ⟨gb360, 1, none⟩) (Kd.R_far (p := ⟨gb360, 0, none⟩) (Kd.R_types HO355.out BK360.out (by decide)) (fun _ hk => hk.2) (.int .i64 t346)) (fun _ hk => hk.2) (.int .i64 t347)) (fun _ hk => hk.2) (.int .i64 t348)) (fun _ hk => hk.2) (.int .i64 t349)) (fun _ hk => hk.2) (.int .i64 t350)) (fun _ hk => hk.2) (.int .u64 t351)) (fun _ hk => hk.2) (.int .i64 t352)) (fun _ hk => hk.2) (.slice Ao180 t353.length co180)) (fun _ hk => ⟨hk.1.1.2, ⟨hk.1.2, hk.1.1.1⟩⟩)⟩
      have n5_ : Aside0 (Kd.R (Kd.int .i64) 2 ((((((((w174.setCell ⟨gb360, 0, none⟩ (.int .i64 t346)).setCell ⟨gb360, 1, none⟩ (.int .i64 t347)).setCell ⟨gb360, 2, none⟩ (.int .i64 t348)).setCell ⟨gb360, 3, none⟩ (.int .i64 t349)).setCell ⟨gb360, 4, none⟩ (.int .i64 t350)).setCell ⟨gb360, 5, none⟩ (.int .u64 t351)).setCell ⟨gb360, 6, none⟩ (.int .i64 t352)).setCell ⟨gb360, 7, none⟩ (.slice Ao180 t353.length co180)) w.heap.size (fun k_ => some k_ ≠ (.slice Ao166 t335.length co166 : Value).ownBlock ∧ some k_ ≠ (v339 : Value).ownBlock ∧ some k_ ≠ (.slice Ao180 t353.length co180 : Value).ownBlock) v357 t356) := ⟨by (with_reducible repeat (first | apply Kd.R_alloc | apply Kd.R_drewN | apply Kd.R_drew)); exact Kd.R_mono (Kd.R_far (p := ⟨gb360, 7, none⟩) (Kd.R_far (p := ⟨gb360, 6, none⟩) (Kd.R_far (p := ⟨gb360, 5, none⟩) (Kd.R_far (p := ⟨gb360, 4, none⟩) (Kd.R_far (p := ⟨gb360, 3, none⟩) (Kd.R_far (p := ⟨gb360, 2, none⟩) (Kd.R_far (p := ⟨gb360, 1, none⟩) (Kd.R_far (p := ⟨gb360, 0, none⟩) (Kd.R_types HO358.out BK360.out (by decide)) (fun _ hk => hk.2) (.int .i64 t346)) (fun _ hk => hk.2) (.int .i64 t347)) (fun _ hk => hk.2) (.int .i64 t348)) (fun _ hk => hk.2) (.int .i64 t349)) (fun _ hk => hk.2) (.int .i64 t350)) (fun _ hk => hk.2) (.int .u64 t351)) (fun _ hk => hk.2) (.int .i64 t352)) (fun _ hk => hk.2) (.slice Ao180 t353.length co180)) (fun _ hk => ⟨hk.1.1.2, ⟨hk.1.2, hk.1.1.1⟩⟩)⟩
      have n6_ : Aside0 (((((((((w174.setCell ⟨gb360, 0, none⟩ (.int .i64 t346)).setCell ⟨gb360, 1, none⟩ (.int .i64 t347)).setCell ⟨gb360, 2, none⟩ (.int .i64 t348)).setCell ⟨gb360, 3, none⟩ (.int .i64 t349)).setCell ⟨gb360, 4, none⟩ (.int .i64 t350)).setCell ⟨gb360, 5, none⟩ (.int .u64 t351)).setCell ⟨gb360, 6, none⟩ (.int .i64 t352)).setCell ⟨gb360, 7, none⟩ (.slice Ao180 t353.length co180)).heap[gb317]? = some (.cells #[.int .i64 a0_0, .int .i64 a0_1, .int .i64 a0_2, .int .i64 a0_3, .int .i64 a0_4, .int .u64 a0_5, .int .i64 a0_6, .slice A0_7 l0_7.length c0_7] 29 (0, 0))) := ⟨(bt_ BK317)⟩
      have n7_ : Aside0 (((((((((w174.setCell ⟨gb360, 0, none⟩ (.int .i64 t346)).setCell ⟨gb360, 1, none⟩ (.int .i64 t347)).setCell ⟨gb360, 2, none⟩ (.int .i64 t348)).setCell ⟨gb360, 3, none⟩ (.int .i64 t349)).setCell ⟨gb360, 4, none⟩ (.int .i64 t350)).setCell ⟨gb360, 5, none⟩ (.int .u64 t351)).setCell ⟨gb360, 6, none⟩ (.int .i64 t352)).setCell ⟨gb360, 7, none⟩ (.slice Ao180 t353.length co180)).heap[gb318]? = some (.cells #[.int .u8 a1_0, .int .i64 a1_1, .int .u64 a1_2, .int .i64 a1_3] 31 (0, 0))) := ⟨(bt_ BK318)⟩
      have n8_ : Aside0 (((((((((w174.setCell ⟨gb360, 0, none⟩ (.int .i64 t346)).setCell ⟨gb360, 1, none⟩ (.int .i64 t347)).setCell ⟨gb360, 2, none⟩ (.int .i64 t348)).setCell ⟨gb360, 3, none⟩ (.int .i64 t349)).setCell ⟨gb360, 4, none⟩ (.int .i64 t350)).setCell ⟨gb360, 5, none⟩ (.int .u64 t351)).setCell ⟨gb360, 6, none⟩ (.int .i64 t352)).setCell ⟨gb360, 7, none⟩ (.slice Ao180 t353.length co180)).heap[gb319]? = some (.cells #[.int .u8 a2_0, .int .i64 a2_1, .int .u64 a1_2, .int .i64 a2_3] 31 (0, 0))) := ⟨(bt_ BK319)⟩
      have n9_ : Aside0 (((((((((w174.setCell ⟨gb360, 0, none⟩ (.int .i64 t346)).setCell ⟨gb360, 1, none⟩ (.int .i64 t347)).setCell ⟨gb360, 2, none⟩ (.int .i64 t348)).setCell ⟨gb360, 3, none⟩ (.int .i64 t349)).setCell ⟨gb360, 4, none⟩ (.int .i64 t350)).setCell ⟨gb360, 5, none⟩ (.int .u64 t351)).setCell ⟨gb360, 6, none⟩ (.int .i64 t352)).setCell ⟨gb360, 7, none⟩ (.slice Ao180 t353.length co180)).heap[gb342]? = some (.cells #[.int .i64 t328, .int .i64 t329, .int .i64 t330, .int .i64 t331, .int .i64 t332, .int .u64 t333, .int .i64 t334, .slice Ao166 t335.length co166] 29 (0, 0))) := ⟨(bt_ BK342)⟩
      have n10_ : Aside0 (((((((((w174.setCell ⟨gb360, 0, none⟩ (.int .i64 t346)).setCell ⟨gb360, 1, none⟩ (.int .i64 t347)).setCell ⟨gb360, 2, none⟩ (.int .i64 t348)).setCell ⟨gb360, 3, none⟩ (.int .i64 t349)).setCell ⟨gb360, 4, none⟩ (.int .i64 t350)).setCell ⟨gb360, 5, none⟩ (.int .u64 t351)).setCell ⟨gb360, 6, none⟩ (.int .i64 t352)).setCell ⟨gb360, 7, none⟩ (.slice Ao180 t353.length co180)).heap[gb360]? = some (.cells #[.int .i64 t346, .int .i64 t347, .int .i64 t348, .int .i64 t349, .int .i64 t350, .int .u64 t351, .int .i64 t352, .slice Ao180 t353.length co180] 29 (0, 0))) := ⟨(blk_put (cs := #[.int .i64 t346, .int .i64 t347, .int .i64 t348, .int .i64 t349, .int .i64 t350, .int .u64 t351, .int .i64 t352, .slice none 0 0]) (blk_put (cs := #[.int .i64 t346, .int .i64 t347, .int .i64 t348, .int .i64 t349, .int .i64 t350, .int .u64 t351, .int .i64 0, .slice none 0 0]) (blk_put (cs := #[.int .i64 t346, .int .i64 t347, .int .i64 t348, .int .i64 t349, .int .i64 t350, .int .u64 0, .int .i64 0, .slice none 0 0]) (blk_put (cs := #[.int .i64 t346, .int .i64 t347, .int .i64 t348, .int .i64 t349, .int .i64 0, .int .u64 0, .int .i64 0, .slice none 0 0]) (blk_put (cs := #[.int .i64 t346, .int .i64 t347, .int .i64 t348, .int .i64 0, .int .i64 0, .int .u64 0, .int .i64 0, .slice none 0 0]) (blk_put (cs := #[.int .i64 t346, .int .i64 t347, .int .i64 0, .int .i64 0, .int .i64 0, .int .u64 0, .int .i64 0, .slice none 0 0]) (blk_put (cs := #[.int .i64 t346, .int .i64 0, .int .i64 0, .int .i64 0, .int .i64 0, .int .u64 0, .int .i64 0, .slice none 0 0]) (blk_put (cs := #[.int .i64 0, .int .i64 0, .int .i64 0, .int .i64 0, .int .i64 0, .int .u64 0, .int .i64 0, .slice none 0 0]) (bq_ BK360) 0 _ rfl) 1 _ rfl) 2 _ rfl) 3 _ rfl) 4 _ rfl) 5 _ rfl) 6 _ rfl) 7 _ rfl)⟩
      have n11_ : Aside0 (Below w.heap.size w ((((((((w174.setCell ⟨gb360, 0, none⟩ (.int .i64 t346)).setCell ⟨gb360, 1, none⟩ (.int .i64 t347)).setCell ⟨gb360, 2, none⟩ (.int .i64 t348)).setCell ⟨gb360, 3, none⟩ (.int .i64 t349)).setCell ⟨gb360, 4, none⟩ (.int .i64 t350)).setCell ⟨gb360, 5, none⟩ (.int .u64 t351)).setCell ⟨gb360, 6, none⟩ (.int .i64 t352)).setCell ⟨gb360, 7, none⟩ (.slice Ao180 t353.length co180))) := bw_
      (try clear HO327)
      (try clear HO337)
      (try clear HO340)
      (try clear HO345)
      (try clear HO355)
      (try clear HO358)
      (try clear BK317)
      (try clear BK318)
      (try clear BK319)
      (try clear BK342)
      (try clear BK360)
      (try clear HB)
      generalize ((((((((w174.setCell ⟨gb360, 0, none⟩ (.int .i64 t346)).setCell ⟨gb360, 1, none⟩ (.int .i64 t347)).setCell ⟨gb360, 2, none⟩ (.int .i64 t348)).setCell ⟨gb360, 3, none⟩ (.int .i64 t349)).setCell ⟨gb360, 4, none⟩ (.int .i64 t350)).setCell ⟨gb360, 5, none⟩ (.int .u64 t351)).setCell ⟨gb360, 6, none⟩ (.int .i64 t352)).setCell ⟨gb360, 7, none⟩ (.slice Ao180 t353.length co180)) = w181 at n0_ n1_ n2_ n3_ n4_ n5_ n6_ n7_ n8_ n9_ n10_ n11_ ⊢
      have HO327 := n0_
      have HO337 := n1_
      have HO340 := n2_
      have HO345 := n3_
      have HO355 := n4_
      have HO358 := n5_
      have BK317 := n6_
      have BK318 := n7_
      have BK319 := n8_
      have BK342 := n9_
      have BK360 := n10_
      have HB := n11_
      clear n0_ n1_ n2_ n3_ n4_ n5_ n6_ n7_ n8_ n9_ n10_ n11_
      replace HO327 := Aside0.mk (Kd.R_drew HO327.out)
      replace HO337 := Aside0.mk (Kd.R_drew HO337.out)
      replace HO340 := Aside0.mk (Kd.R_drew HO340.out)
      replace HO345 := Aside0.mk (Kd.R_drew HO345.out)
      replace HO355 := Aside0.mk (Kd.R_drew HO355.out)
      replace HO358 := Aside0.mk (Kd.R_drew HO358.out)
      replace BK317 := Aside0.mk (blk_drew BK317.out)
      replace BK318 := Aside0.mk (blk_drew BK318.out)
      replace BK319 := Aside0.mk (blk_drew BK319.out)
      replace BK342 := Aside0.mk (blk_drew BK342.out)
      replace BK360 := Aside0.mk (blk_drew BK360.out)
      replace HB := Aside0.mk (below_drew1 HB.out)
      have p362 : 0 ≤ (0 : Int) := (by omega)
      have q362 : 0 < (t338.length : Int) := of_decide_eq_true (by first | (with_reducible assumption) | assumption)
      (first | (have hz_ := Kd.R_reads' HO340.out; clear hz_) | (obtain ⟨Aoad362z, coad362z, eoad362z⟩ := Kd.R_slice HO340.out; subst eoad362z))
      obtain ⟨ad362, e362, hx362_0⟩ := Kd.at_int (Kd.R_reads' HO340.out).2.2 0 p362 q362
      cases e362
      have qi362 : (0 < t338.length) = True := eq_true (by omega)
      (try rw [show ((0 : Int)).toNat = 0 from rfl] at hx362_0)
      (try rw [Addr.add_zero'] at hx362_0)
      replace p362 := eq_true p362
      replace q362 := eq_true q362
      have p363 : 0 ≤ (1 : Int) := (by omega)
      have q363 : 1 < (t356.length : Int) := of_decide_eq_true (by first | (with_reducible assumption) | assumption)
      (first | (have hz_ := Kd.R_reads' HO358.out; clear hz_) | (obtain ⟨Aoad363z, coad363z, eoad363z⟩ := Kd.R_slice HO358.out; subst eoad363z))
      obtain ⟨ad363, e363, hx363_0⟩ := Kd.at_int (Kd.R_reads' HO358.out).2.2 1 p363 q363
      cases e363
      (try simp only [show (1 : Int).toNat = 1 from rfl, Nat.reduceMul, Nat.reduceEqDiff, Go.Addr.add, ↓reduceIte] at hx363_0)
      have qi363 : (1 < t356.length) = True := eq_true (by omega)
      (try rw [show ((1 : Int)).toNat = 1 from rfl] at hx363_0)
      replace p363 := eq_true p363
      replace q363 := eq_true q363
      have p364 : 0 ≤ (1 : Int) := (by omega)
      have q364 : 1 < (t338.length : Int) := of_decide_eq_true (by first | (with_reducible assumption) | assumption)
      (first | (have hz_ := Kd.R_reads' HO340.out; clear hz_) | (obtain ⟨Aoad364z, coad364z, eoad364z⟩ := Kd.R_slice HO340.out; subst eoad364z))
      obtain ⟨ad364, e364, hx364_0⟩ := Kd.at_int (Kd.R_reads' HO340.out).2.2 1 p364 q364
      obtain rfl : ad362 = ad364 := (by injection e364)
      (try simp only [show (1 : Int).toNat = 1 from rfl, Nat.reduceMul, Nat.reduceEqDiff, Go.Addr.add, ↓reduceIte] at hx364_0)
      have qi364 : (1 < t338.length) = True := eq_true (by omega)
      (try rw [show ((1 : Int)).toNat = 1 from rfl] at hx364_0)
      replace p364 := eq_true p364
      replace q364 := eq_true q364
      have p365 : 0 ≤ (0 : Int) := (by omega)
      have q365 : 0 < (t356.length : Int) := of_decide_eq_true (by first | (with_reducible assumption) | assumption)
      (first | (have hz_ := Kd.R_reads' HO358.out; clear hz_) | (obtain ⟨Aoad365z, coad365z, eoad365z⟩ := Kd.R_slice HO358.out; subst eoad365z))
      obtain ⟨ad365, e365, hx365_0⟩ := Kd.at_int (Kd.R_reads' HO358.out).2.2 0 p365 q365
      obtain rfl : ad363 = ad365 := (by injection e365)
      have qi365 : (0 < t356.length) = True := eq_true (by omega)
      (try rw [show ((0 : Int)).toNat = 0 from rfl] at hx365_0)
      (try rw [Addr.add_zero'] at hx365_0)
      replace p365 := eq_true p365
      replace q365 := eq_true q365
      refine start_ (n := 43) (S := fun w' => w'.cell? ⟨gb342, 0, none⟩ = some (.int .i64 t328) ∧ w'.cell? ⟨gb342, 1, none⟩ = some (.int .i64 t329) ∧ w'.cell? ⟨gb342, 2, none⟩ = some (.int .i64 t330) ∧ w'.cell? ⟨gb342, 3, none⟩ = some (.int .i64 t331) ∧ w'.cell? ⟨gb342, 4, none⟩ = some (.int .i64 t332) ∧ w'.cell? ⟨gb342, 5, none⟩ = some (.int .u64 t333) ∧ w'.cell? ⟨gb342, 6, none⟩ = some (.int .i64 t334) ∧ w'.cell? ⟨gb342, 7, none⟩ = some (.slice Ao166 t335.length co166) ∧ w'.cell? ⟨gb360, 0, none⟩ = some (.int .i64 t346) ∧ w'.cell? ⟨gb360, 1, none⟩ = some (.int .i64 t347) ∧ w'.cell? ⟨gb360, 2, none⟩ = some (.int .i64 t348) ∧ w'.cell? ⟨gb360, 3, none⟩ = some (.int .i64 t349) ∧ w'.cell? ⟨gb360, 4, none⟩ = some (.int .i64 t350) ∧ w'.cell? ⟨gb360, 5, none⟩ = some (.int .u64 t351) ∧ w'.cell? ⟨gb360, 6, none⟩ = some (.int .i64 t352) ∧ w'.cell? ⟨gb360, 7, none⟩ = some (.slice Ao180 t353.length co180) ∧ w'.cell? ad362 = some (.int .i64 (rd t338 0)) ∧ w'.cell? ⟨ad363.block, ad363.off + 1, none⟩ = some (.int .i64 (rd t356 1)) ∧ w'.cell? ⟨ad362.block, ad362.off + 1, none⟩ = some (.int .i64 (rd t338 1)) ∧ w'.cell? ad363 = some (.int .i64 (rd t356 0))) (ds := []) (bl_ 43 0) (by kernel_rfl) rfl (by kernel_rfl) ⟨(blk_cell BK342.out 0).trans rfl, (blk_cell BK342.out 1).trans rfl, (blk_cell BK342.out 2).trans rfl, (blk_cell BK342.out 3).trans rfl, (blk_cell BK342.out 4).trans rfl, (blk_cell BK342.out 5).trans rfl, (blk_cell BK342.out 6).trans rfl, (blk_cell BK342.out 7).trans rfl, (blk_cell BK360.out 0).trans rfl, (blk_cell BK360.out 1).trans rfl, (blk_cell BK360.out 2).trans rfl, (blk_cell BK360.out 3).trans rfl, (blk_cell BK360.out 4).trans rfl, (blk_cell BK360.out 5).trans rfl, (blk_cell BK360.out 6).trans rfl, (blk_cell BK360.out 7).trans rfl, hx362_0, hx363_0, hx364_0, hx365_0⟩ (fun hHeld => ?_); refine with_tabW spigotlaw42_LeaseSwap.tab7 spigotlaw42_LeaseSwap.bits7 (fun HT_ HW_ => ?_)
      generalize w181.drew = w182 at HO327 HO337 HO340 HO345 HO355 HO358 BK317 BK318 BK319 BK342 BK360 HB hx362_0 hx363_0 hx364_0 hx365_0 hHeld ⊢
      refine pa_ 0 (some 91) (bl_ 43 1) HT_ ?_
      refine pa_ 1 (some 92) (bl_ 43 3) HT_ ?_
      refine pa_ 2 (some 93) (bl_ 43 7) HT_ ?_
      refine pa_ 3 (some 94) (bl_ 43 15) HT_ ?_
      refine pa_ 4 (some 95) (bl_ 43 31) HT_ ?_
      refine pa_ 5 (some 96) (bl_ 43 63) HT_ ?_
      refine pa_ 6 (some 97) (bl_ 43 127) HT_ ?_
      refine pa_ 7 (some 98) (bl_ 43 255) HT_ ?_
      refine pa_ 8 (some 99) (bl_ 43 511) HT_ ?_
      refine pa_ 9 (some 100) (bl_ 43 1023) HT_ ?_
      refine ta_ 10 (some 101) (bl_ 43 2047) HT_ HW_ hHeld ?_
      refine ta_ 11 (some 102) (bl_ 43 4095) HT_ HW_ hHeld ?_
      refine oa_ 12 (some 103) (bl_ 43 8191) HT_ fun K hK => ?_
      refine goesB_ Try.func17 #[.agg #[.int .i64 t328, .int .i64 t329, .int .i64 t330, .int .i64 t331, .int .i64 t332, .int .u64 t333, .int .i64 t334, .slice Ao166 t335.length co166], .agg #[.int .i64 t346, .int .i64 t347, .int .i64 t348, .int .i64 t349, .int .i64 t350, .int .u64 t351, .int .i64 t352, .slice Ao180 t353.length co180]] ?_
      with_reducible refine (spigotref42_Same.calls kj4 t328 t329 t330 t331 t332 t333 t334 _ _ t335 t346 t347 t348 t349 t350 t351 t352 _ _ t353 true _ ?side1 ?side2 ?side3 ?side4 A142.out).mono ?_
      (case side1 => exact cr_ HO337)
      (case side2 => exact (Kd.R_reads' HO337.out).2.1)
      (case side3 => exact cr_ HO355)
      (case side4 => exact (Kd.R_reads' HO355.out).2.1)
      rintro e w183 ⟨rfl, hb⟩
      have HS16_ := (hb.cell (World.block_lt_of_cell? _ _ (hHeld.2.2.2.2.2.2.2.2.2.2.2.2.2.2.2.2.1))).trans (hHeld.2.2.2.2.2.2.2.2.2.2.2.2.2.2.2.2.1)
      have HS17_ := (hb.cell (World.block_lt_of_cell? _ _ (hHeld.2.2.2.2.2.2.2.2.2.2.2.2.2.2.2.2.2.1))).trans (hHeld.2.2.2.2.2.2.2.2.2.2.2.2.2.2.2.2.2.1)
      have HS18_ := (hb.cell (World.block_lt_of_cell? _ _ (hHeld.2.2.2.2.2.2.2.2.2.2.2.2.2.2.2.2.2.2.1))).trans (hHeld.2.2.2.2.2.2.2.2.2.2.2.2.2.2.2.2.2.2.1)
      have HS19_ := (hb.cell (World.block_lt_of_cell? _ _ (hHeld.2.2.2.2.2.2.2.2.2.2.2.2.2.2.2.2.2.2.2))).trans (hHeld.2.2.2.2.2.2.2.2.2.2.2.2.2.2.2.2.2.2.2)
      refine ⟨_, rfl, ?_⟩
      replace HO327 := rb_ HO327 hb
      replace HO337 := rb_ HO337 hb
      replace HO340 := rb_ HO340 hb
      replace HO345 := rb_ HO345 hb
      replace HO355 := rb_ HO355 hb
      replace HO358 := rb_ HO358 hb
      replace BK317 := bb_ BK317 hb
      replace BK318 := bb_ BK318 hb
      replace BK319 := bb_ BK319 hb
      replace BK342 := bb_ BK342 hb
      replace BK360 := bb_ BK360 hb
      replace HB := bs_ w hb
      clear hb
      obtain ⟨Ao184, co184, eo184⟩ := Kd.R_slice HO340.out
      (first | subst eo184 | (injection eo184 with f1_ f2_ f3_; have f4_ := f1_.symm; have f5_ := f3_.symm; clear f1_ f2_ f3_; subst f4_; subst f5_))
      obtain ⟨Ao185, co185, eo185⟩ := Kd.R_slice HO358.out
      (first | subst eo185 | (injection eo185 with f1_ f2_ f3_; have f4_ := f1_.symm; have f5_ := f3_.symm; clear f1_ f2_ f3_; subst f4_; subst f5_))
      refine hK.out _ _ ⟨(blk_cell BK342.out 0).trans rfl, (blk_cell BK342.out 1).trans rfl, (blk_cell BK342.out 2).trans rfl, (blk_cell BK342.out 3).trans rfl, (blk_cell BK342.out 4).trans rfl, (blk_cell BK342.out 5).trans rfl, (blk_cell BK342.out 6).trans rfl, (blk_cell BK342.out 7).trans rfl, (blk_cell BK360.out 0).trans rfl, (blk_cell BK360.out 1).trans rfl, (blk_cell BK360.out 2).trans rfl, (blk_cell BK360.out 3).trans rfl, (blk_cell BK360.out 4).trans rfl, (blk_cell BK360.out 5).trans rfl, (blk_cell BK360.out 6).trans rfl, (blk_cell BK360.out 7).trans rfl, HS16_, HS17_, HS18_, HS19_⟩ (fun hHeld => ?_)
      clear hK K
      refine nm_ (some 103) ?_
      refine pa_ 13 (some 104) (bl_ 43 16383) HT_ ?_
      refine pa_ 14 (some 105) (bl_ 43 32767) HT_ ?_
      refine pa_ 15 (some 106) (bl_ 43 65535) HT_ ?_
      refine pa_ 16 (some 107) (bl_ 43 131071) HT_ ?_
      refine pa_ 17 (some 108) (bl_ 43 262143) HT_ ?_
      refine pa_ 18 (some 109) (bl_ 43 524287) HT_ ?_
      refine pa_ 19 (some 110) (bl_ 43 1048575) HT_ ?_
      refine pa_ 20 (some 111) (bl_ 43 2097151) HT_ ?_
      refine pa_ 21 (some 112) (bl_ 43 4194303) HT_ ?_
      refine pa_ 22 (some 113) (bl_ 43 8388607) HT_ ?_
      refine pa_ 23 (some 114) (bl_ 43 16777215) HT_ ?_
      refine pa_ 24 (some 115) (bl_ 43 33554431) HT_ ?_
      refine pa_ 25 (some 116) (bl_ 43 67108863) HT_ ?_
      refine pa_ 26 (some 117) (bl_ 43 134217727) HT_ ?_
      refine pa_ 28 (some 119) (bl_ 43 402653183) HT_ ?_
      refine pa_ 29 (some 120) (bl_ 43 939524095) HT_ ?_
      refine ta_ 27 (some 118) (bl_ 43 1073741823) HT_ HW_ hHeld ?_
      refine ta_ 30 (some 121) (bl_ 43 2147483647) HT_ HW_ hHeld ?_
      refine pa_ 31 (some 122) (bl_ 43 4294967295) HT_ ?_
      refine pa_ 32 (some 123) (bl_ 43 8589934591) HT_ ?_
      refine pa_ 33 (some 124) (bl_ 43 17179869183) HT_ ?_
      refine pa_ 34 (some 125) (bl_ 43 34359738367) HT_ ?_
      refine pa_ 35 (some 126) (bl_ 43 68719476735) HT_ ?_
      refine pa_ 37 (some 128) (bl_ 43 206158430207) HT_ ?_
      refine pa_ 38 (some 129) (bl_ 43 481036337151) HT_ ?_
      refine ta_ 36 (some 127) (bl_ 43 549755813887) HT_ HW_ hHeld ?_
      refine ta_ 39 (some 130) (bl_ 43 1099511627775) HT_ HW_ hHeld ?_
      refine pa_ 40 (some 131) (bl_ 43 2199023255551) HT_ ?_
      refine pa_ 41 (some 132) (bl_ 43 4398046511103) HT_ ?_
      refine pa_ 42 (some 6) (bl_ 43 8796093022207) HT_ ?_
      refine done_ (done_of HT_.out (by kernel_rfl)) ?_
      try go_wp2
      go_ret
      exact fi_
     ·replace c143 := Bool.eq_false_iff.mpr c143
      subst c143
      replace H : (none) = some r := by rw [if_neg (show ¬ (false = true) by decide)] at H; exact H
      exact absurd H (by simp)
    ·replace c139 := Bool.eq_false_iff.mpr c139
     subst c139
     replace H : (none) = some r := by rw [if_neg (show ¬ (false = true) by decide)] at H; exact H
     exact absurd H (by simp)

end Go.Proofs.Ytbfdpodlnijeoaa.X
