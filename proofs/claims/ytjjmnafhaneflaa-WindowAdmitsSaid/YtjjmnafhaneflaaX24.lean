-- written by xprint.py, a program of this session over the kit's print
import Derived.Test.YtjjmnafhaneflaaX0
import Derived.Test.YtjjmnafhaneflaaX1
import Derived.Test.YtjjmnafhaneflaaX4
import Derived.Test.YtjjmnafhaneflaaX6
import Derived.Test.YtjjmnafhaneflaaX9
import Derived.Test.YtjjmnafhaneflaaX10
import Derived.Test.YtjjmnafhaneflaaX19
import Derived.Test.YtjjmnafhaneflaaX20
import Derived.Test.YtjjmnafhaneflaaX21
import Derived.Test.YtjjmnafhaneflaaX22
import Derived.Test.YtjjmnafhaneflaaX23
namespace Go.Proofs.Ytjjmnafhaneflaa.X
open Go.RowKit Go.Proofs.YtjjmnafhaneflaaW.PrintWords Go.Proofs.YtjjmnafhaneflaaW.PrintLast Go.Proofs.YtjjmnafhaneflaaW.PrintMore
attribute [local go_sem] max2_int min2_int max_two min_two max_three min_three max_four min_four   -- for this text's walks alone
set_option linter.unusedVariables false
set_option linter.unusedSimpArgs false

attribute [local go_sem high] eqA43
/-! ### spigotlaw38_WindowAdmits: function 4 -/
def spigotlaw38_WindowAdmits.f (k : Nat) (a0_0 : Int) (a0_1 : Int) (l1 : List (S58)) : Option (Bool) := (spigotref38_Great.f l1).bind fun t223 => (if t223 = true then (some true) else ((some (([] : List (S58)) : List (S58))).bind fun y224 => (if y224.length + l1.length < 8796093022208 then ((window_Fixed.f k a0_0 a0_1 l1).bind fun bt230 => ((spigotref38_Fixed.f k a0_0 a0_1 l1).bind fun bt234 => ((window_Slide.f k a0_0 a0_1 l1).bind fun bt238 => ((spigotref38_Slide.f k a0_0 a0_1 l1).bind fun bt242 => ((window_Limit.f a0_0 a0_1).bind fun bt246 => ((spigotref38_Limit.f a0_0 a0_1).bind fun bt251 => ((window_Check.f a0_0 a0_1).bind fun t256 => ((spigotref38_Check.f a0_0 a0_1).bind fun t257 => (if t256 = t257 then ((window_Charges.f k l1).bind fun t258 => ((spigotref38_Charges.f k l1).bind fun t259 => (if t258 = t259 then ((spigotref38_Same.f k bt230.1 bt234.1).bind fun t260 => (if t260 = true then (if bt230.2 = bt234.2 then ((spigotref38_Same.f k bt238.1 bt242.1).bind fun t261 => (if t261 = true then (if bt238.2 = bt242.2 then (if (bt246.1 == bt251.1 && (bt246.2.1 == bt251.2.1 && (bt246.2.2.1 == bt251.2.2.1))) = true then (if bt246.2.2.2 = bt251.2.2.2 then ((spigotref38_Same.f k l1 (y224 ++ l1)).bind fun t262 => (some t262)) else (none)) else (none)) else (none)) else (none))) else (none)) else (none))) else (none)))) else (none)))))))))) else (none))))
theorem spigotlaw38_WindowAdmits.mono : ∀ a0 a1 a2 k, LeO (spigotlaw38_WindowAdmits.f k a0 a1 a2) (spigotlaw38_WindowAdmits.f (k + 1) a0 a1 a2) := by
  intro a0 a1 a2 k
  unfold spigotlaw38_WindowAdmits.f
  repeat' first
      | (with_reducible exact spigotref38_Charges.mono _ _)
      | (with_reducible exact spigotref38_Fixed.mono _ _ _ _)
      | (with_reducible exact spigotref38_Same.mono _ _ _)
      | (with_reducible exact spigotref38_Slide.mono _ _ _ _)
      | (with_reducible exact window_Charges.mono _ _)
      | (with_reducible exact window_Fixed.mono _ _ _ _)
      | (with_reducible exact window_Slide.mono _ _ _ _)
      | (with_reducible exact LeO.refl _)
      | (with_reducible exact LeO.none _)
      | (with_reducible refine LeO.ite ?_ ?_)
      | (with_reducible refine LeO.bind ?_ (fun _ => ?_))
      | exact spigotref38_Charges.mono _ _
      | exact spigotref38_Fixed.mono _ _ _ _
      | exact spigotref38_Same.mono _ _ _
      | exact spigotref38_Slide.mono _ _ _ _
      | exact window_Charges.mono _ _
      | exact window_Fixed.mono _ _ _ _
      | exact window_Slide.mono _ _ _ _
      | exact LeO.none _
      | refine LeO.ite ?_ ?_
      | refine LeO.bind ?_ (fun _ => ?_)
def spigotlaw38_WindowAdmits.T10 : Bool × List (List Nat × List Nat) := (true, [([], []), ([0], [0]), ([], []), ([2, 1], [2]), ([1, 3], [1, 3]), ([4, 3], [4]), ([5], [5]), ([6, 5, 5], [5, 6]), ([5], [5]), ([8, 7, 5], [5, 8]), ([7, 9, 5], [5, 7, 9]), ([5, 10], [5, 10]), ([11, 9], [11]), ([12], [12]), ([12], [12]), ([13, 14, 12, 12], [12, 13, 14]), ([12, 15], [12, 15]), ([16, 15], [16]), ([17], [17]), ([17], [17]), ([18, 19, 17], [17, 18, 19]), ([17, 20], [17, 20]), ([21, 17], [21]), ([22], [22]), ([22], [22]), ([23, 24, 22, 22], [22, 23, 24]), ([22, 25], [22, 25]), ([26, 25], [26]), ([27], [27]), ([27], [27]), ([28, 29, 27], [27, 28, 29]), ([27, 30], [27, 30]), ([31, 27], [31]), ([32], [32]), ([32], [32]), ([33, 34, 32], [32, 33, 34]), ([32, 35], [32, 35]), ([36, 32], [36]), ([37], [37]), ([37], [37]), ([38, 39, 37], [37, 38, 39]), ([37, 40], [37, 40]), ([41, 37], [41]), ([42], [42]), ([42], [42]), ([43, 44, 42, 42], [42, 43, 44]), ([42, 45], [42, 45]), ([46, 45, 0, 1, 2, 3, 4, 5, 6, 7, 8, 9, 10, 11, 12, 13, 14, 15, 16, 17, 18, 19, 20, 21, 22, 23, 24, 25, 26, 27, 28, 29, 30, 31, 32, 33, 34, 35, 36, 37, 38, 39, 40, 41, 42, 43, 44, 45, 46], [46])])
def spigotlaw38_WindowAdmits.B10 : List Nat := [0, 1, 0, 7, 15, 31, 63, 127, 63, 511, 1023, 2047, 4095, 8191, 8191, 32767, 65535, 131071, 262143, 262143, 1048575, 2097151, 4194303, 8388607, 8388607, 33554431, 67108863, 134217727, 268435455, 268435455, 1073741823, 2147483647, 4294967295, 8589934591, 8589934591, 34359738367, 68719476735, 137438953471, 274877906943, 274877906943, 1099511627775, 2199023255551, 4398046511103, 8796093022207, 8796093022207, 35184372088831, 70368744177663, 140737488355327]
theorem spigotlaw38_WindowAdmits.tab10 : rtab .any (opsOf Try.f4 10) = spigotlaw38_WindowAdmits.T10 := by kernel_rfl
theorem spigotlaw38_WindowAdmits.bits10 : waitsOk spigotlaw38_WindowAdmits.T10.2 spigotlaw38_WindowAdmits.B10 = true := by kernel_rfl
set_option maxHeartbeats 8000000 in
set_option maxRecDepth 100000 in
theorem spigotlaw38_WindowAdmits.calls (k : Nat) (a0_0 : Int) (a0_1 : Int) (A1 : Option Addr) (c1 : Nat) (l1 : List (S58)) (r : Bool) (w : World) (hr1 : Kd.C k58 w A1 l1.length l1) (hc1 : l1.length ≤ c1) (h : spigotlaw38_WindowAdmits.f k a0_0 a0_1 l1 = some r) :
  Calls Try.prog 4 #[.agg #[.int .i64 a0_0, .int .i64 a0_1], .slice A1 l1.length c1] w fun e w' => e = .returned (.bool r) ∧ Below w.heap.size w w' := by
 have hu23 := Try.underlying23
 have hu43 := Try.underlying43
 have HR1 := Aside0.mk hr1
 have HC1 := Aside0.mk hc1
 clear hr1 hc1
 have HB := Aside0.mk (Below.refl w.heap.size w)
 have H : ((spigotref38_Great.f l1).bind fun t223 => (if t223 = true then (some true) else ((some (([] : List (S58)) : List (S58))).bind fun y224 => (if y224.length + l1.length < 8796093022208 then ((window_Fixed.f k a0_0 a0_1 l1).bind fun bt230 => ((spigotref38_Fixed.f k a0_0 a0_1 l1).bind fun bt234 => ((window_Slide.f k a0_0 a0_1 l1).bind fun bt238 => ((spigotref38_Slide.f k a0_0 a0_1 l1).bind fun bt242 => ((window_Limit.f a0_0 a0_1).bind fun bt246 => ((spigotref38_Limit.f a0_0 a0_1).bind fun bt251 => ((window_Check.f a0_0 a0_1).bind fun t256 => ((spigotref38_Check.f a0_0 a0_1).bind fun t257 => (if t256 = t257 then ((window_Charges.f k l1).bind fun t258 => ((spigotref38_Charges.f k l1).bind fun t259 => (if t258 = t259 then ((spigotref38_Same.f k bt230.1 bt234.1).bind fun t260 => (if t260 = true then (if bt230.2 = bt234.2 then ((spigotref38_Same.f k bt238.1 bt242.1).bind fun t261 => (if t261 = true then (if bt238.2 = bt242.2 then (if (bt246.1 == bt251.1 && (bt246.2.1 == bt251.2.1 && (bt246.2.2.1 == bt251.2.2.1))) = true then (if bt246.2.2.2 = bt251.2.2.2 then ((spigotref38_Same.f k l1 (y224 ++ l1)).bind fun t262 => (some t262)) else (none)) else (none)) else (none)) else (none))) else (none)) else (none))) else (none)))) else (none)))))))))) else (none))))) = some r := h
 clear h
 obtain ⟨t223, A3, H⟩ := bo_ H
 try dsimp only at H
 by_cases c4 : t223 = true
 ·subst c4
  replace H : (some true) = some r := by rw [if_pos rfl] at H; exact H
  obtain rfl := Option.some.inj H
  go_enter Try.func4, Try.ntmps4
  go_wp2_with (first | ((with_reducible refine gate_dst (N := 2) rfl ?_); (try refine ug_ (by rfl) ?_); refine bx_ #[.int .i64 a0_0, .int .i64 a0_1] 23 ?_; intro gb222 hg w5 BK222 hb; have GW222 := bz_ w hg; have GE222 := GW222; replace HB := bs_ w hb; clear hb hg) | ((with_reducible refine gate_callee (f := 9) rfl ?_); (try refine ug_ (by rfl) ?_); refine goesA_ (some 19) Try.func9 #[.slice A1 l1.length c1] ?_; (with_reducible refine (spigotref38_Great.calls _ _ l1 true _ ?side1 ?side2 A3.out).mono ?_); (case side1 => exact cs_ HR1 HB); (case side2 => exact HC1.out); rintro e w' ⟨rfl, ⟨nd, rfl⟩⟩; refine ⟨_, rfl, ?_⟩))
  go_ret
  exact fi_
 ·replace c4 := Bool.eq_false_iff.mpr c4
  subst c4
  rw [if_neg (show ¬ (false = true) by decide)] at H
  try dsimp only at H
  obtain ⟨y224, hy224⟩ : ∃ y_ : List (S58), y_ = (([] : List (S58))) := ⟨_, rfl⟩
  replace H : (if y224.length + l1.length < 8796093022208 then ((window_Fixed.f k a0_0 a0_1 l1).bind fun bt230 => ((spigotref38_Fixed.f k a0_0 a0_1 l1).bind fun bt234 => ((window_Slide.f k a0_0 a0_1 l1).bind fun bt238 => ((spigotref38_Slide.f k a0_0 a0_1 l1).bind fun bt242 => ((window_Limit.f a0_0 a0_1).bind fun bt246 => ((spigotref38_Limit.f a0_0 a0_1).bind fun bt251 => ((window_Check.f a0_0 a0_1).bind fun t256 => ((spigotref38_Check.f a0_0 a0_1).bind fun t257 => (if t256 = t257 then ((window_Charges.f k l1).bind fun t258 => ((spigotref38_Charges.f k l1).bind fun t259 => (if t258 = t259 then ((spigotref38_Same.f k bt230.1 bt234.1).bind fun t260 => (if t260 = true then (if bt230.2 = bt234.2 then ((spigotref38_Same.f k bt238.1 bt242.1).bind fun t261 => (if t261 = true then (if bt238.2 = bt242.2 then (if (bt246.1 == bt251.1 && (bt246.2.1 == bt251.2.1 && (bt246.2.2.1 == bt251.2.2.1))) = true then (if bt246.2.2.2 = bt251.2.2.2 then ((spigotref38_Same.f k l1 (y224 ++ l1)).bind fun t262 => (some t262)) else (none)) else (none)) else (none)) else (none))) else (none)) else (none))) else (none)))) else (none)))))))))) else (none)) = some r := by first | (rw [hy224]; with_reducible exact H) | (have H2_ := (Option.bind_some _ _).symm.trans H; rw [hy224]; with_reducible exact H2_) | (have H2_ := (Option.bind_some _ _).symm.trans H; with_reducible exact H2_) | with_reducible exact H | (rw [hy224]; exact H) | exact H
  have Ny224 := Aside0.mk hy224
  clear hy224
  by_cases c6 : y224.length + l1.length < 8796093022208
  rotate_left
  ·rw [if_neg c6] at H; exact absurd H (by simp)
  rw [if_pos c6] at H
  have LMc6 := Aside0.mk c6
  clear c6
  obtain ⟨y227, hy227⟩ : ∃ y_ : List (S58), y_ = (y224 ++ l1) := ⟨_, rfl⟩
  replace H : ((window_Fixed.f k a0_0 a0_1 l1).bind fun bt230 => ((spigotref38_Fixed.f k a0_0 a0_1 l1).bind fun bt234 => ((window_Slide.f k a0_0 a0_1 l1).bind fun bt238 => ((spigotref38_Slide.f k a0_0 a0_1 l1).bind fun bt242 => ((window_Limit.f a0_0 a0_1).bind fun bt246 => ((spigotref38_Limit.f a0_0 a0_1).bind fun bt251 => ((window_Check.f a0_0 a0_1).bind fun t256 => ((spigotref38_Check.f a0_0 a0_1).bind fun t257 => (if t256 = t257 then ((window_Charges.f k l1).bind fun t258 => ((spigotref38_Charges.f k l1).bind fun t259 => (if t258 = t259 then ((spigotref38_Same.f k bt230.1 bt234.1).bind fun t260 => (if t260 = true then (if bt230.2 = bt234.2 then ((spigotref38_Same.f k bt238.1 bt242.1).bind fun t261 => (if t261 = true then (if bt238.2 = bt242.2 then (if (bt246.1 == bt251.1 && (bt246.2.1 == bt251.2.1 && (bt246.2.2.1 == bt251.2.2.1))) = true then (if bt246.2.2.2 = bt251.2.2.2 then ((spigotref38_Same.f k l1 y227).bind fun t262 => (some t262)) else (none)) else (none)) else (none)) else (none))) else (none)) else (none))) else (none)))) else (none)))))))))) = some r := by first | (rw [hy227]; with_reducible exact H) | (have H2_ := (Option.bind_some _ _).symm.trans H; rw [hy227]; with_reducible exact H2_) | (have H2_ := (Option.bind_some _ _).symm.trans H; with_reducible exact H2_) | with_reducible exact H | (rw [hy227]; exact H) | exact H
  have Ny227 := Aside0.mk hy227
  clear hy227
  obtain ⟨⟨t230, t233⟩, A7, H⟩ := bo_ H
  try dsimp only at H
  obtain ⟨⟨t234, t237⟩, A8, H⟩ := bo_ H
  try dsimp only at H
  obtain ⟨⟨t238, t241⟩, A9, H⟩ := bo_ H
  try dsimp only at H
  obtain ⟨⟨t242, t245⟩, A10, H⟩ := bo_ H
  try dsimp only at H
  obtain ⟨⟨t246, t247, t248, t249⟩, A11, H⟩ := bo_ H
  try dsimp only at H
  obtain ⟨⟨t251, t252, t253, t254⟩, A12, H⟩ := bo_ H
  try dsimp only at H
  obtain ⟨t256, A13, H⟩ := bo_ H
  try dsimp only at H
  obtain ⟨t257, A14, H⟩ := bo_ H
  try dsimp only at H
  by_cases c15 : t256 = t257
  rotate_left
  ·rw [if_neg c15] at H; exact absurd H (by simp)
  rw [if_pos c15] at H
  have c15b0 : (t256 == t257) = true := beq_iff_eq.mpr c15
  have c15b1 : (t256 != t257) = false := bne_eq_false_iff_eq.mpr c15
  clear c15
  obtain ⟨t258, A16, H⟩ := bo_ H
  try dsimp only at H
  obtain ⟨t259, A17, H⟩ := bo_ H
  try dsimp only at H
  by_cases c18 : t258 = t259
  rotate_left
  ·rw [if_neg c18] at H; exact absurd H (by simp)
  rw [if_pos c18] at H
  have c18b0 : (t258 == t259) = true := beq_iff_eq.mpr c18
  have c18b1 : (t258 != t259) = false := bne_eq_false_iff_eq.mpr c18
  clear c18
  obtain ⟨t260, A19, H⟩ := bo_ H
  try dsimp only at H
  by_cases c20 : t260 = true
  ·subst c20
   rw [if_pos rfl] at H
   try dsimp only at H
   by_cases c21 : t233 = t237
   rotate_left
   ·rw [if_neg c21] at H; exact absurd H (by simp)
   rw [if_pos c21] at H
   have c21b0 : (t233 == t237) = true := beq_iff_eq.mpr c21
   have c21b1 : (t233 != t237) = false := bne_eq_false_iff_eq.mpr c21
   clear c21
   obtain ⟨t261, A22, H⟩ := bo_ H
   try dsimp only at H
   by_cases c23 : t261 = true
   ·subst c23
    rw [if_pos rfl] at H
    try dsimp only at H
    by_cases c24 : t241 = t245
    rotate_left
    ·rw [if_neg c24] at H; exact absurd H (by simp)
    rw [if_pos c24] at H
    have c24b0 : (t241 == t245) = true := beq_iff_eq.mpr c24
    have c24b1 : (t241 != t245) = false := bne_eq_false_iff_eq.mpr c24
    clear c24
    by_cases c25 : (t246 == t251 && (t247 == t252 && (t248 == t253))) = true
    rotate_left
    ·rw [if_neg c25] at H; exact absurd H (by simp)
    rw [if_pos c25] at H
    have c25b0 : (t246 == t251 && (t247 == t252 && (t248 == t253))) = true := c25
    (try (have c25b1 : decide (t246 = t251 && (t247 == t252 && (t248 == t253))) = true := by simpa using c25))
    (try (have c25b2 : (t246 == t251 && (t247 == t252 && (t248 == t253))) = true := by simpa using c25))
    clear c25
    by_cases c26 : t249 = t254
    rotate_left
    ·rw [if_neg c26] at H; exact absurd H (by simp)
    rw [if_pos c26] at H
    have c26b0 : (t249 == t254) = true := beq_iff_eq.mpr c26
    have c26b1 : (t249 != t254) = false := bne_eq_false_iff_eq.mpr c26
    clear c26
    obtain ⟨t262, A27, H⟩ := bo_ H
    replace H : (some t262) = some r := H
    obtain rfl := Option.some.inj H
    go_enter Try.func4, Try.ntmps4
    try go_wp2_with (first | ((with_reducible refine gate_dst (N := 2) rfl ?_); (try refine ug_ (by rfl) ?_); refine bx_ #[.int .i64 a0_0, .int .i64 a0_1] 23 ?_; intro gb222 hg w28 BK222 hb; have GW222 := bz_ w hg; have GE222 := GW222; replace HB := bs_ w hb; clear hb hg) | ((with_reducible refine gate_callee (f := 9) rfl ?_); (try refine ug_ (by rfl) ?_); refine goesA_ (some 19) Try.func9 #[.slice A1 l1.length c1] ?_; (with_reducible refine (spigotref38_Great.calls _ _ l1 false _ ?side1 ?side2 A3.out).mono ?_); (case side1 => exact cs_ HR1 HB); (case side2 => exact HC1.out); rintro e w' ⟨rfl, ⟨nd, rfl⟩⟩; refine ⟨_, rfl, ?_⟩; (try ((first | generalize hq_ : World.drewN w28 _ = w28 | (rw [drewN_self w28]; generalize hq_ : World.drewN w28 _ = w28)); replace BK222 : Aside0 (w28.heap[gb222]? = some (.cells #[.int .i64 a0_0, .int .i64 a0_1] 23 (0, 0))) := ⟨by rw [← hq_]; exact (bq_ BK222)⟩; replace HB : Aside0 (Below w.heap.size w w28) := ⟨by rw [← hq_]; exact bh_⟩; clear hq_))) | ((with_reducible refine gate_dst (N := 20) rfl ?_); (try refine ug_ (by rfl) ?_); refine Kd.R_lit k58 _ 58 ?hg (N := 20) ?hd (xs := ([] : List (S58))) (inner := []) (ok := fun _ => True) (okp := fun _ => True) ?hr ?hp (fun _ hk => hk) trivial (Below.refl _ _) (Nat.le_refl _) (by simp) ?_; (case hd => rfl); (case hg => rfl); (case hr => first | (go_simp; done) | (go_simp; rfl)); (case hp => exact (Reps.none _ _)); intro v225 w29 ho30 hb hg_ hnew_; clear hg_ hnew_; (first | rw [← Ny224.out] at ho30 | (simp only [Int.reduceToNat] at ho30; rw [← Ny224.out] at ho30)); have HO226 := Aside0.mk (Kd.R_lower ho30 (below_size bh_)); replace BK222 := bb_ BK222 hb; replace HB := bs_ w hb; clear hb ho30) | ((with_reducible refine gate_builtin (b := .append) (xs := #[.tmp 20, .tmp 21]) rfl ?_); (try refine ug_ (by rfl) ?_); at_builtin; refine Kd.R_append_rows k58 (w0 := w) w.heap.size rfl (.tmp 20) (.tmp 21) 24 58 (.agg #[(.int .u64 0), (.int .i64 0)]) 16 rfl Try.underlying24 info58 rfl (by decide) (by omega) v225 y224 l1 _ _ _ (fun _ => True) (fun _ => False) rfl rfl ?aO ?aR (fun _ _ h => h) (fun _ h => h.elim) ?aF ?aB ?aS ?aL ?_; (case aR => exact cs_ HR1 HB); (case aB => exact bh_); (case aF => exact (fun _ _ => trivial)); (case aO => exact (rs_ HO226)); (case aS => exact (below_size bh_)); (case aL => have := LMc6.out; omega); intro v228 w31 ho hb hg hat; rw [← Ny227.out] at ho; have HO229 := Aside0.mk (ho); replace BK222 := Aside0.mk (blk_grown (g := gb222) (o := .cells #[.int .i64 a0_0, .int .i64 a0_1] 23 (0, 0)) (bq_ BK222) hg (Kd.R_ne HO226.out BK222.out (by decide))); replace HB := Aside0.mk (hb); clear HO226; clear ho hb hg hat; replace hc222 := ce2_ BK222) | ((with_reducible refine gate_callee (f := 15) rfl ?_); (try refine ug_ (by rfl) ?_); refine goesA_ (some 26) Try.func15 #[.agg #[.int .i64 a0_0, .int .i64 a0_1], .slice A1 l1.length c1] ?_; (with_reducible refine (window_Fixed.calls k a0_0 a0_1 _ _ l1 t230 t233 _ ?side1 ?side2 A7.out).mono ?_); (case side1 => exact cs_ HR1 HB); (case side2 => exact HC1.out); rintro e w33 ⟨v231, rfl, ho0, hb⟩; refine ⟨_, rfl, ?_⟩; have HO232 := Aside0.mk (Kd.R_lower (Kd.R_new' ho0 (Kd.R_lt (rs_ HO229))) (below_size bh_)); replace HO229 := Aside0.mk (Kd.R_elder' (rs_ HO229) (Kd.R_base ho0) hb); replace BK222 := bb_ BK222 hb; replace HB := bs_ w hb; (try clear hb); (try clear hb2); (try clear hk); (try clear hi); (try clear ho0); replace hc222 := ce2_ BK222) | ((with_reducible refine gate_callee (f := 16) rfl ?_); (try refine ug_ (by rfl) ?_); refine goesA_ (some 32) Try.func16 #[.agg #[.int .i64 a0_0, .int .i64 a0_1], .slice A1 l1.length c1] ?_; (with_reducible refine (spigotref38_Fixed.calls k a0_0 a0_1 _ _ l1 t234 t237 _ ?side1 ?side2 A8.out).mono ?_); (case side1 => exact cs_ HR1 HB); (case side2 => exact HC1.out); rintro e w35 ⟨v235, rfl, ho0, hb⟩; refine ⟨_, rfl, ?_⟩; have HO236 := Aside0.mk (Kd.R_lower (Kd.R_new' (Kd.R_new' ho0 (Kd.R_lt (rs_ HO229))) (Kd.R_lt (rs_ HO232))) (below_size bh_)); replace HO229 := Aside0.mk (Kd.R_elder' (rs_ HO229) (Kd.R_base ho0) hb); replace HO232 := Aside0.mk (Kd.R_elder' (rs_ HO232) (Kd.R_base ho0) hb); replace BK222 := bb_ BK222 hb; replace HB := bs_ w hb; (try clear hb); (try clear hb2); (try clear hk); (try clear hi); (try clear ho0); replace hc222 := ce2_ BK222) | ((with_reducible refine gate_callee (f := 17) rfl ?_); (try refine ug_ (by rfl) ?_); refine goesA_ (some 38) Try.func17 #[.agg #[.int .i64 a0_0, .int .i64 a0_1], .slice A1 l1.length c1] ?_; (with_reducible refine (window_Slide.calls k a0_0 a0_1 _ _ l1 t238 t241 _ ?side1 ?side2 A9.out).mono ?_); (case side1 => exact cs_ HR1 HB); (case side2 => exact HC1.out); rintro e w37 ⟨v239, rfl, ho0, hb⟩; refine ⟨_, rfl, ?_⟩; have HO240 := Aside0.mk (Kd.R_lower (Kd.R_new' (Kd.R_new' (Kd.R_new' ho0 (Kd.R_lt (rs_ HO229))) (Kd.R_lt (rs_ HO232))) (Kd.R_lt (rs_ HO236))) (below_size bh_)); replace HO229 := Aside0.mk (Kd.R_elder' (rs_ HO229) (Kd.R_base ho0) hb); replace HO232 := Aside0.mk (Kd.R_elder' (rs_ HO232) (Kd.R_base ho0) hb); replace HO236 := Aside0.mk (Kd.R_elder' (rs_ HO236) (Kd.R_base ho0) hb); replace BK222 := bb_ BK222 hb; replace HB := bs_ w hb; (try clear hb); (try clear hb2); (try clear hk); (try clear hi); (try clear ho0); replace hc222 := ce2_ BK222) | ((with_reducible refine gate_callee (f := 18) rfl ?_); (try refine ug_ (by rfl) ?_); refine goesA_ (some 44) Try.func18 #[.agg #[.int .i64 a0_0, .int .i64 a0_1], .slice A1 l1.length c1] ?_; (with_reducible refine (spigotref38_Slide.calls k a0_0 a0_1 _ _ l1 t242 t245 _ ?side1 ?side2 A10.out).mono ?_); (case side1 => exact cs_ HR1 HB); (case side2 => exact HC1.out); rintro e w39 ⟨v243, rfl, ho0, hb⟩; refine ⟨_, rfl, ?_⟩; have HO244 := Aside0.mk (Kd.R_lower (Kd.R_new' (Kd.R_new' (Kd.R_new' (Kd.R_new' ho0 (Kd.R_lt (rs_ HO229))) (Kd.R_lt (rs_ HO232))) (Kd.R_lt (rs_ HO236))) (Kd.R_lt (rs_ HO240))) (below_size bh_)); replace HO229 := Aside0.mk (Kd.R_elder' (rs_ HO229) (Kd.R_base ho0) hb); replace HO232 := Aside0.mk (Kd.R_elder' (rs_ HO232) (Kd.R_base ho0) hb); replace HO236 := Aside0.mk (Kd.R_elder' (rs_ HO236) (Kd.R_base ho0) hb); replace HO240 := Aside0.mk (Kd.R_elder' (rs_ HO240) (Kd.R_base ho0) hb); replace BK222 := bb_ BK222 hb; replace HB := bs_ w hb; (try clear hb); (try clear hb2); (try clear hk); (try clear hi); (try clear ho0); replace hc222 := ce2_ BK222) | ((with_reducible refine gate_callee (f := 19) rfl ?_); (try refine ug_ (by rfl) ?_); refine goesA_ (some 49) Try.func19 #[.agg #[.int .i64 a0_0, .int .i64 a0_1]] ?_; (with_reducible refine (window_Limit.calls a0_0 a0_1 t246 t247 t248 t249 _ A11.out).mono ?_); rintro e w41 ⟨rfl, hb⟩; refine ⟨_, rfl, ?_⟩; replace HO229 := rb_ HO229 hb; replace HO232 := rb_ HO232 hb; replace HO236 := rb_ HO236 hb; replace HO240 := rb_ HO240 hb; replace HO244 := rb_ HO244 hb; replace BK222 := bb_ BK222 hb; replace HB := bs_ w hb; clear hb) | ((with_reducible refine gate_dst (N := 14) rfl ?_); (try refine ug_ (by rfl) ?_); refine bx_ #[.int .i64 0, .int .i64 0, .int .i64 0] 43 ?_; intro gb250 hg w42 BK250 hb; have GW250 := bz_ w hg; have NB222_250 := bn_ BK222 hg; have NB250_222 := bm_ BK222 hg; replace HO229 := rb_ HO229 hb; replace HO232 := rb_ HO232 hb; replace HO236 := rb_ HO236 hb; replace HO240 := rb_ HO240 hb; replace HO244 := rb_ HO244 hb; replace BK222 := bb_ BK222 hb; replace HB := bs_ w hb; clear hb hg; replace hn250_222 := NB250_222.out; replace hn222_250 := NB222_250.out; replace hc250 := ce3_ BK250; replace hc222 := ce2_ BK222) | ((with_reducible refine gate_callee (f := 20) rfl ?_); (try refine ug_ (by rfl) ?_); refine goesA_ (some 54) Try.func20 #[.agg #[.int .i64 a0_0, .int .i64 a0_1]] ?_; (with_reducible refine (spigotref38_Limit.calls a0_0 a0_1 t251 t252 t253 t254 _ A12.out).mono ?_); rintro e w46 ⟨rfl, hb⟩; refine ⟨_, rfl, ?_⟩; replace HO229 := Aside0.mk (Kd.R_below (by (with_reducible repeat (first | apply Kd.R_alloc | apply Kd.R_drewN | apply Kd.R_drew)); exact (Kd.R_mono (Kd.R_far (p := ⟨gb250, 2, none⟩) (Kd.R_far (p := ⟨gb250, 1, none⟩) (Kd.R_far (p := ⟨gb250, 0, none⟩) (Kd.R_types HO229.out BK250.out (by decide)) (fun _ hk => hk.2) (.int .i64 t246)) (fun _ hk => hk.2) (.int .i64 t247)) (fun _ hk => hk.2) (.int .i64 t248)) (fun _ h_ => h_.1))) hb); replace HO232 := Aside0.mk (Kd.R_below (by (with_reducible repeat (first | apply Kd.R_alloc | apply Kd.R_drewN | apply Kd.R_drew)); exact (Kd.R_mono (Kd.R_far (p := ⟨gb250, 2, none⟩) (Kd.R_far (p := ⟨gb250, 1, none⟩) (Kd.R_far (p := ⟨gb250, 0, none⟩) (Kd.R_types HO232.out BK250.out (by decide)) (fun _ hk => hk.2) (.int .i64 t246)) (fun _ hk => hk.2) (.int .i64 t247)) (fun _ hk => hk.2) (.int .i64 t248)) (fun _ h_ => h_.1))) hb); replace HO236 := Aside0.mk (Kd.R_below (by (with_reducible repeat (first | apply Kd.R_alloc | apply Kd.R_drewN | apply Kd.R_drew)); exact (Kd.R_mono (Kd.R_far (p := ⟨gb250, 2, none⟩) (Kd.R_far (p := ⟨gb250, 1, none⟩) (Kd.R_far (p := ⟨gb250, 0, none⟩) (Kd.R_types HO236.out BK250.out (by decide)) (fun _ hk => hk.2) (.int .i64 t246)) (fun _ hk => hk.2) (.int .i64 t247)) (fun _ hk => hk.2) (.int .i64 t248)) (fun _ h_ => h_.1))) hb); replace HO240 := Aside0.mk (Kd.R_below (by (with_reducible repeat (first | apply Kd.R_alloc | apply Kd.R_drewN | apply Kd.R_drew)); exact (Kd.R_mono (Kd.R_far (p := ⟨gb250, 2, none⟩) (Kd.R_far (p := ⟨gb250, 1, none⟩) (Kd.R_far (p := ⟨gb250, 0, none⟩) (Kd.R_types HO240.out BK250.out (by decide)) (fun _ hk => hk.2) (.int .i64 t246)) (fun _ hk => hk.2) (.int .i64 t247)) (fun _ hk => hk.2) (.int .i64 t248)) (fun _ h_ => h_.1))) hb); replace HO244 := Aside0.mk (Kd.R_below (by (with_reducible repeat (first | apply Kd.R_alloc | apply Kd.R_drewN | apply Kd.R_drew)); exact (Kd.R_mono (Kd.R_far (p := ⟨gb250, 2, none⟩) (Kd.R_far (p := ⟨gb250, 1, none⟩) (Kd.R_far (p := ⟨gb250, 0, none⟩) (Kd.R_types HO244.out BK250.out (by decide)) (fun _ hk => hk.2) (.int .i64 t246)) (fun _ hk => hk.2) (.int .i64 t247)) (fun _ hk => hk.2) (.int .i64 t248)) (fun _ h_ => h_.1))) hb); replace BK222 := bf_ BK222 hb; replace BK250 := Aside0.mk (blk_below (g := gb250) (o := .cells #[.int .i64 t246, .int .i64 t247, .int .i64 t248] 43 (0, 0)) (bp3_ (bq_ BK250)) hb); replace HB := bs_ w hb; clear hb) | ((with_reducible refine gate_dst (N := 16) rfl ?_); (try refine ug_ (by rfl) ?_); refine bx_ #[.int .i64 0, .int .i64 0, .int .i64 0] 43 ?_; intro gb255 hg w47 BK255 hb; have GW255 := bz_ w hg; have NB222_255 := bn_ BK222 hg; have NB255_222 := bm_ BK222 hg; have NB250_255 := bn_ BK250 hg; have NB255_250 := bm_ BK250 hg; replace HO229 := rb_ HO229 hb; replace HO232 := rb_ HO232 hb; replace HO236 := rb_ HO236 hb; replace HO240 := rb_ HO240 hb; replace HO244 := rb_ HO244 hb; replace BK222 := bb_ BK222 hb; replace BK250 := bb_ BK250 hb; replace HB := bs_ w hb; clear hb hg; replace hn255_222 := NB255_222.out; replace hn222_255 := NB222_255.out; replace hn255_250 := NB255_250.out; replace hn250_255 := NB250_255.out; replace hc255 := ce3_ BK255))
    have n0_ : Aside0 (Kd.R k58 58 (((w47.setCell ⟨gb255, 0, none⟩ (.int .i64 t251)).setCell ⟨gb255, 1, none⟩ (.int .i64 t252)).setCell ⟨gb255, 2, none⟩ (.int .i64 t253)) w.heap.size (fun k_ => some k_ ≠ (v231 : Value).ownBlock ∧ some k_ ≠ (v235 : Value).ownBlock ∧ some k_ ≠ (v239 : Value).ownBlock ∧ some k_ ≠ (v243 : Value).ownBlock) v228 y227) := ⟨by (with_reducible repeat (first | apply Kd.R_alloc | apply Kd.R_drewN | apply Kd.R_drew)); exact Kd.R_mono (Kd.R_far (p := ⟨gb255, 2, none⟩) (Kd.R_far (p := ⟨gb255, 1, none⟩) (Kd.R_far (p := ⟨gb255, 0, none⟩) (Kd.R_types HO229.out BK255.out (by decide)) (fun _ hk => hk.2) (.int .i64 t251)) (fun _ hk => hk.2) (.int .i64 t252)) (fun _ hk => hk.2) (.int .i64 t253)) (fun _ hk => ⟨hk.1.1.1.1.2, ⟨hk.1.1.1.2, ⟨hk.1.1.2, hk.1.2⟩⟩⟩)⟩
    have n1_ : Aside0 (Kd.R k58 58 (((w47.setCell ⟨gb255, 0, none⟩ (.int .i64 t251)).setCell ⟨gb255, 1, none⟩ (.int .i64 t252)).setCell ⟨gb255, 2, none⟩ (.int .i64 t253)) w.heap.size (fun k_ => some k_ ≠ (v228 : Value).ownBlock ∧ some k_ ≠ (v235 : Value).ownBlock ∧ some k_ ≠ (v239 : Value).ownBlock ∧ some k_ ≠ (v243 : Value).ownBlock) v231 t230) := ⟨by (with_reducible repeat (first | apply Kd.R_alloc | apply Kd.R_drewN | apply Kd.R_drew)); exact Kd.R_mono (Kd.R_far (p := ⟨gb255, 2, none⟩) (Kd.R_far (p := ⟨gb255, 1, none⟩) (Kd.R_far (p := ⟨gb255, 0, none⟩) (Kd.R_types HO232.out BK255.out (by decide)) (fun _ hk => hk.2) (.int .i64 t251)) (fun _ hk => hk.2) (.int .i64 t252)) (fun _ hk => hk.2) (.int .i64 t253)) (fun _ hk => ⟨hk.1.1.1.1.2, ⟨hk.1.1.1.2, ⟨hk.1.1.2, hk.1.2⟩⟩⟩)⟩
    have n2_ : Aside0 (Kd.R k58 58 (((w47.setCell ⟨gb255, 0, none⟩ (.int .i64 t251)).setCell ⟨gb255, 1, none⟩ (.int .i64 t252)).setCell ⟨gb255, 2, none⟩ (.int .i64 t253)) w.heap.size (fun k_ => some k_ ≠ (v228 : Value).ownBlock ∧ some k_ ≠ (v231 : Value).ownBlock ∧ some k_ ≠ (v239 : Value).ownBlock ∧ some k_ ≠ (v243 : Value).ownBlock) v235 t234) := ⟨by (with_reducible repeat (first | apply Kd.R_alloc | apply Kd.R_drewN | apply Kd.R_drew)); exact Kd.R_mono (Kd.R_far (p := ⟨gb255, 2, none⟩) (Kd.R_far (p := ⟨gb255, 1, none⟩) (Kd.R_far (p := ⟨gb255, 0, none⟩) (Kd.R_types HO236.out BK255.out (by decide)) (fun _ hk => hk.2) (.int .i64 t251)) (fun _ hk => hk.2) (.int .i64 t252)) (fun _ hk => hk.2) (.int .i64 t253)) (fun _ hk => ⟨hk.1.1.1.1.2, ⟨hk.1.1.1.2, ⟨hk.1.1.2, hk.1.2⟩⟩⟩)⟩
    have n3_ : Aside0 (Kd.R k58 58 (((w47.setCell ⟨gb255, 0, none⟩ (.int .i64 t251)).setCell ⟨gb255, 1, none⟩ (.int .i64 t252)).setCell ⟨gb255, 2, none⟩ (.int .i64 t253)) w.heap.size (fun k_ => some k_ ≠ (v228 : Value).ownBlock ∧ some k_ ≠ (v231 : Value).ownBlock ∧ some k_ ≠ (v235 : Value).ownBlock ∧ some k_ ≠ (v243 : Value).ownBlock) v239 t238) := ⟨by (with_reducible repeat (first | apply Kd.R_alloc | apply Kd.R_drewN | apply Kd.R_drew)); exact Kd.R_mono (Kd.R_far (p := ⟨gb255, 2, none⟩) (Kd.R_far (p := ⟨gb255, 1, none⟩) (Kd.R_far (p := ⟨gb255, 0, none⟩) (Kd.R_types HO240.out BK255.out (by decide)) (fun _ hk => hk.2) (.int .i64 t251)) (fun _ hk => hk.2) (.int .i64 t252)) (fun _ hk => hk.2) (.int .i64 t253)) (fun _ hk => ⟨hk.1.1.1.1.2, ⟨hk.1.1.1.2, ⟨hk.1.1.2, hk.1.2⟩⟩⟩)⟩
    have n4_ : Aside0 (Kd.R k58 58 (((w47.setCell ⟨gb255, 0, none⟩ (.int .i64 t251)).setCell ⟨gb255, 1, none⟩ (.int .i64 t252)).setCell ⟨gb255, 2, none⟩ (.int .i64 t253)) w.heap.size (fun k_ => some k_ ≠ (v228 : Value).ownBlock ∧ some k_ ≠ (v231 : Value).ownBlock ∧ some k_ ≠ (v235 : Value).ownBlock ∧ some k_ ≠ (v239 : Value).ownBlock) v243 t242) := ⟨by (with_reducible repeat (first | apply Kd.R_alloc | apply Kd.R_drewN | apply Kd.R_drew)); exact Kd.R_mono (Kd.R_far (p := ⟨gb255, 2, none⟩) (Kd.R_far (p := ⟨gb255, 1, none⟩) (Kd.R_far (p := ⟨gb255, 0, none⟩) (Kd.R_types HO244.out BK255.out (by decide)) (fun _ hk => hk.2) (.int .i64 t251)) (fun _ hk => hk.2) (.int .i64 t252)) (fun _ hk => hk.2) (.int .i64 t253)) (fun _ hk => ⟨hk.1.1.1.1.2, ⟨hk.1.1.1.2, ⟨hk.1.1.2, hk.1.2⟩⟩⟩)⟩
    have n5_ : Aside0 ((((w47.setCell ⟨gb255, 0, none⟩ (.int .i64 t251)).setCell ⟨gb255, 1, none⟩ (.int .i64 t252)).setCell ⟨gb255, 2, none⟩ (.int .i64 t253)).heap[gb222]? = some (.cells #[.int .i64 a0_0, .int .i64 a0_1] 23 (0, 0))) := ⟨(bt_ BK222)⟩
    have n6_ : Aside0 ((((w47.setCell ⟨gb255, 0, none⟩ (.int .i64 t251)).setCell ⟨gb255, 1, none⟩ (.int .i64 t252)).setCell ⟨gb255, 2, none⟩ (.int .i64 t253)).heap[gb250]? = some (.cells #[.int .i64 t246, .int .i64 t247, .int .i64 t248] 43 (0, 0))) := ⟨(bt_ BK250)⟩
    have n7_ : Aside0 ((((w47.setCell ⟨gb255, 0, none⟩ (.int .i64 t251)).setCell ⟨gb255, 1, none⟩ (.int .i64 t252)).setCell ⟨gb255, 2, none⟩ (.int .i64 t253)).heap[gb255]? = some (.cells #[.int .i64 t251, .int .i64 t252, .int .i64 t253] 43 (0, 0))) := ⟨(bp3_ (bq_ BK255))⟩
    have n8_ : Aside0 (Below w.heap.size w (((w47.setCell ⟨gb255, 0, none⟩ (.int .i64 t251)).setCell ⟨gb255, 1, none⟩ (.int .i64 t252)).setCell ⟨gb255, 2, none⟩ (.int .i64 t253))) := bw_
    (try clear HO229)
    (try clear HO232)
    (try clear HO236)
    (try clear HO240)
    (try clear HO244)
    (try clear BK222)
    (try clear BK250)
    (try clear BK255)
    (try clear HB)
    generalize (((w47.setCell ⟨gb255, 0, none⟩ (.int .i64 t251)).setCell ⟨gb255, 1, none⟩ (.int .i64 t252)).setCell ⟨gb255, 2, none⟩ (.int .i64 t253)) = w51 at n0_ n1_ n2_ n3_ n4_ n5_ n6_ n7_ n8_ ⊢
    have HO229 := n0_
    have HO232 := n1_
    have HO236 := n2_
    have HO240 := n3_
    have HO244 := n4_
    have BK222 := n5_
    have BK250 := n6_
    have BK255 := n7_
    have HB := n8_
    clear n0_ n1_ n2_ n3_ n4_ n5_ n6_ n7_ n8_
    replace HO229 := Aside0.mk (Kd.R_drew HO229.out)
    replace HO232 := Aside0.mk (Kd.R_drew HO232.out)
    replace HO236 := Aside0.mk (Kd.R_drew HO236.out)
    replace HO240 := Aside0.mk (Kd.R_drew HO240.out)
    replace HO244 := Aside0.mk (Kd.R_drew HO244.out)
    replace BK222 := Aside0.mk (blk_drew BK222.out)
    replace BK250 := Aside0.mk (blk_drew BK250.out)
    replace BK255 := Aside0.mk (blk_drew BK255.out)
    replace HB := Aside0.mk (below_drew1 HB.out)
    refine start_ (n := 48) (S := fun w' => w'.cell? ⟨gb222, 0, none⟩ = some (.int .i64 a0_0) ∧ w'.cell? ⟨gb222, 1, none⟩ = some (.int .i64 a0_1) ∧ w'.cell? ⟨gb250, 0, none⟩ = some (.int .i64 t246) ∧ w'.cell? ⟨gb250, 1, none⟩ = some (.int .i64 t247) ∧ w'.cell? ⟨gb250, 2, none⟩ = some (.int .i64 t248) ∧ w'.cell? ⟨gb255, 0, none⟩ = some (.int .i64 t251) ∧ w'.cell? ⟨gb255, 1, none⟩ = some (.int .i64 t252) ∧ w'.cell? ⟨gb255, 2, none⟩ = some (.int .i64 t253)) (ds := []) (bl_ 48 0) (by kernel_rfl) rfl (by kernel_rfl) ⟨(blk_cell BK222.out 0).trans rfl, (blk_cell BK222.out 1).trans rfl, (blk_cell BK250.out 0).trans rfl, (blk_cell BK250.out 1).trans rfl, (blk_cell BK250.out 2).trans rfl, (blk_cell BK255.out 0).trans rfl, (blk_cell BK255.out 1).trans rfl, (blk_cell BK255.out 2).trans rfl⟩ (fun hHeld => ?_); refine with_tabW spigotlaw38_WindowAdmits.tab10 spigotlaw38_WindowAdmits.bits10 (fun HT_ HW_ => ?_)
    generalize w51.drew = w52 at HO229 HO232 HO236 HO240 HO244 BK222 BK250 BK255 HB hHeld ⊢
    refine ta_ 0 (some 57) (bl_ 48 1) HT_ HW_ hHeld ?_
    refine ta_ 2 (some 59) (bl_ 48 5) HT_ HW_ hHeld ?_
    refine oa_ 1 (some 58) (bl_ 48 7) HT_ fun K hK => ?_
    refine goesB_ Try.func21 #[.agg #[.int .i64 a0_0, .int .i64 a0_1]] ?_
    with_reducible refine (window_Check.calls a0_0 a0_1 t256 _ A13.out).mono ?_
    rintro e w53 ⟨rfl, hb⟩
    refine ⟨_, rfl, ?_⟩
    replace HO229 := rb_ HO229 hb
    replace HO232 := rb_ HO232 hb
    replace HO236 := rb_ HO236 hb
    replace HO240 := rb_ HO240 hb
    replace HO244 := rb_ HO244 hb
    replace BK222 := bb_ BK222 hb
    replace BK250 := bb_ BK250 hb
    replace BK255 := bb_ BK255 hb
    replace HB := bs_ w hb
    clear hb
    refine hK.out _ _ ⟨(blk_cell BK222.out 0).trans rfl, (blk_cell BK222.out 1).trans rfl, (blk_cell BK250.out 0).trans rfl, (blk_cell BK250.out 1).trans rfl, (blk_cell BK250.out 2).trans rfl, (blk_cell BK255.out 0).trans rfl, (blk_cell BK255.out 1).trans rfl, (blk_cell BK255.out 2).trans rfl⟩ (fun hHeld => ?_)
    clear hK K
    refine nm_ (some 58) ?_
    refine oa_ 3 (some 60) (bl_ 48 15) HT_ fun K hK => ?_
    refine goesB_ Try.func22 #[.agg #[.int .i64 a0_0, .int .i64 a0_1]] ?_
    with_reducible refine (spigotref38_Check.calls a0_0 a0_1 t257 _ A14.out).mono ?_
    rintro e w54 ⟨rfl, hb⟩
    refine ⟨_, rfl, ?_⟩
    replace HO229 := rb_ HO229 hb
    replace HO232 := rb_ HO232 hb
    replace HO236 := rb_ HO236 hb
    replace HO240 := rb_ HO240 hb
    replace HO244 := rb_ HO244 hb
    replace BK222 := bb_ BK222 hb
    replace BK250 := bb_ BK250 hb
    replace BK255 := bb_ BK255 hb
    replace HB := bs_ w hb
    clear hb
    refine hK.out _ _ ⟨(blk_cell BK222.out 0).trans rfl, (blk_cell BK222.out 1).trans rfl, (blk_cell BK250.out 0).trans rfl, (blk_cell BK250.out 1).trans rfl, (blk_cell BK250.out 2).trans rfl, (blk_cell BK255.out 0).trans rfl, (blk_cell BK255.out 1).trans rfl, (blk_cell BK255.out 2).trans rfl⟩ (fun hHeld => ?_)
    clear hK K
    refine nm_ (some 60) ?_
    refine pa_ 4 (some 61) (bl_ 48 31) HT_ ?_
    refine pa_ 5 (some 62) (bl_ 48 63) HT_ ?_
    refine pa_ 6 (some 63) (bl_ 48 127) HT_ ?_
    refine pa_ 8 (some 65) (bl_ 48 383) HT_ ?_
    refine oa_ 7 (some 64) (bl_ 48 511) HT_ fun K hK => ?_
    refine goesB_ Try.func23 #[.slice A1 l1.length c1] ?_
    with_reducible refine (window_Charges.calls k _ _ l1 t258 _ ?side1 ?side2 A16.out).mono ?_
    (case side1 => exact cs_ HR1 HB)
    (case side2 => exact HC1.out)
    rintro e w55 ⟨rfl, hb⟩
    refine ⟨_, rfl, ?_⟩
    replace HO229 := rb_ HO229 hb
    replace HO232 := rb_ HO232 hb
    replace HO236 := rb_ HO236 hb
    replace HO240 := rb_ HO240 hb
    replace HO244 := rb_ HO244 hb
    replace BK222 := bb_ BK222 hb
    replace BK250 := bb_ BK250 hb
    replace BK255 := bb_ BK255 hb
    replace HB := bs_ w hb
    clear hb
    refine hK.out _ _ ⟨(blk_cell BK222.out 0).trans rfl, (blk_cell BK222.out 1).trans rfl, (blk_cell BK250.out 0).trans rfl, (blk_cell BK250.out 1).trans rfl, (blk_cell BK250.out 2).trans rfl, (blk_cell BK255.out 0).trans rfl, (blk_cell BK255.out 1).trans rfl, (blk_cell BK255.out 2).trans rfl⟩ (fun hHeld => ?_)
    clear hK K
    refine nm_ (some 64) ?_
    refine oa_ 9 (some 66) (bl_ 48 1023) HT_ fun K hK => ?_
    refine goesB_ Try.func24 #[.slice A1 l1.length c1] ?_
    with_reducible refine (spigotref38_Charges.calls k _ _ l1 t259 _ ?side1 ?side2 A17.out).mono ?_
    (case side1 => exact cs_ HR1 HB)
    (case side2 => exact HC1.out)
    rintro e w' ⟨rfl, ⟨nd, rfl⟩⟩
    refine ⟨_, rfl, ?_⟩
    obtain ⟨Ao56, co56, eo56⟩ := Kd.R_slice HO232.out
    (first | subst eo56 | (injection eo56 with f1_ f2_ f3_; have f4_ := f1_.symm; have f5_ := f3_.symm; clear f1_ f2_ f3_; subst f4_; subst f5_))
    obtain ⟨Ao57, co57, eo57⟩ := Kd.R_slice HO236.out
    (first | subst eo57 | (injection eo57 with f1_ f2_ f3_; have f4_ := f1_.symm; have f5_ := f3_.symm; clear f1_ f2_ f3_; subst f4_; subst f5_))
    refine hK.out _ _ ⟨(blk_cell BK222.out 0).trans rfl, (blk_cell BK222.out 1).trans rfl, (blk_cell BK250.out 0).trans rfl, (blk_cell BK250.out 1).trans rfl, (blk_cell BK250.out 2).trans rfl, (blk_cell BK255.out 0).trans rfl, (blk_cell BK255.out 1).trans rfl, (blk_cell BK255.out 2).trans rfl⟩ (fun hHeld => ?_)
    clear hK K
    refine nm_ (some 66) ?_
    refine pa_ 10 (some 67) (bl_ 48 2047) HT_ ?_
    refine pa_ 11 (some 68) (bl_ 48 4095) HT_ ?_
    refine pa_ 12 (some 69) (bl_ 48 8191) HT_ ?_
    refine pa_ 13 (some 70) (bl_ 48 16383) HT_ ?_
    refine pa_ 14 (some 71) (bl_ 48 32767) HT_ ?_
    refine oa_ 15 (some 72) (bl_ 48 65535) HT_ fun K hK => ?_
    refine goesB_ Try.func25 #[.slice Ao56 t230.length co56, .slice Ao57 t234.length co57] ?_
    with_reducible refine (spigotref38_Same.calls k _ _ t230 _ _ t234 true _ ?side1 ?side2 ?side3 ?side4 A19.out).mono ?_
    (case side1 => exact cr_ HO232)
    (case side2 => exact (Kd.R_reads' HO232.out).2.1)
    (case side3 => exact cr_ HO236)
    (case side4 => exact (Kd.R_reads' HO236.out).2.1)
    rintro e w' ⟨rfl, ⟨nd, rfl⟩⟩
    refine ⟨_, rfl, ?_⟩
    obtain ⟨Ao58, co58, eo58⟩ := Kd.R_slice HO240.out
    (first | subst eo58 | (injection eo58 with f1_ f2_ f3_; have f4_ := f1_.symm; have f5_ := f3_.symm; clear f1_ f2_ f3_; subst f4_; subst f5_))
    obtain ⟨Ao59, co59, eo59⟩ := Kd.R_slice HO244.out
    (first | subst eo59 | (injection eo59 with f1_ f2_ f3_; have f4_ := f1_.symm; have f5_ := f3_.symm; clear f1_ f2_ f3_; subst f4_; subst f5_))
    refine hK.out _ _ ⟨(blk_cell BK222.out 0).trans rfl, (blk_cell BK222.out 1).trans rfl, (blk_cell BK250.out 0).trans rfl, (blk_cell BK250.out 1).trans rfl, (blk_cell BK250.out 2).trans rfl, (blk_cell BK255.out 0).trans rfl, (blk_cell BK255.out 1).trans rfl, (blk_cell BK255.out 2).trans rfl⟩ (fun hHeld => ?_)
    clear hK K
    refine nm_ (some 72) ?_
    refine pa_ 16 (some 73) (bl_ 48 131071) HT_ ?_
    refine pa_ 17 (some 74) (bl_ 48 262143) HT_ ?_
    refine pa_ 18 (some 75) (bl_ 48 524287) HT_ ?_
    refine pa_ 19 (some 76) (bl_ 48 1048575) HT_ ?_
    refine pa_ 20 (some 77) (bl_ 48 2097151) HT_ ?_
    refine pa_ 21 (some 78) (bl_ 48 4194303) HT_ ?_
    refine pa_ 22 (some 79) (bl_ 48 8388607) HT_ ?_
    refine pa_ 23 (some 80) (bl_ 48 16777215) HT_ ?_
    refine pa_ 24 (some 81) (bl_ 48 33554431) HT_ ?_
    refine oa_ 25 (some 82) (bl_ 48 67108863) HT_ fun K hK => ?_
    refine goesB_ Try.func25 #[.slice Ao58 t238.length co58, .slice Ao59 t242.length co59] ?_
    with_reducible refine (spigotref38_Same.calls k _ _ t238 _ _ t242 true _ ?side1 ?side2 ?side3 ?side4 A22.out).mono ?_
    (case side1 => exact cr_ HO240)
    (case side2 => exact (Kd.R_reads' HO240.out).2.1)
    (case side3 => exact cr_ HO244)
    (case side4 => exact (Kd.R_reads' HO244.out).2.1)
    rintro e w' ⟨rfl, ⟨nd, rfl⟩⟩
    refine ⟨_, rfl, ?_⟩
    obtain ⟨Ao60, co60, eo60⟩ := Kd.R_slice HO229.out
    (first | subst eo60 | (injection eo60 with f1_ f2_ f3_; have f4_ := f1_.symm; have f5_ := f3_.symm; clear f1_ f2_ f3_; subst f4_; subst f5_))
    refine hK.out _ _ ⟨(blk_cell BK222.out 0).trans rfl, (blk_cell BK222.out 1).trans rfl, (blk_cell BK250.out 0).trans rfl, (blk_cell BK250.out 1).trans rfl, (blk_cell BK250.out 2).trans rfl, (blk_cell BK255.out 0).trans rfl, (blk_cell BK255.out 1).trans rfl, (blk_cell BK255.out 2).trans rfl⟩ (fun hHeld => ?_)
    clear hK K
    refine nm_ (some 82) ?_
    refine pa_ 26 (some 83) (bl_ 48 134217727) HT_ ?_
    refine pa_ 27 (some 84) (bl_ 48 268435455) HT_ ?_
    refine pa_ 28 (some 85) (bl_ 48 536870911) HT_ ?_
    refine pa_ 29 (some 86) (bl_ 48 1073741823) HT_ ?_
    refine pa_ 30 (some 87) (bl_ 48 2147483647) HT_ ?_
    refine pa_ 31 (some 88) (bl_ 48 4294967295) HT_ ?_
    refine pa_ 32 (some 89) (bl_ 48 8589934591) HT_ ?_
    refine ta_ 33 (some 90) (bl_ 48 17179869183) HT_ HW_ hHeld ?_
    refine ta_ 34 (some 91) (bl_ 48 34359738367) HT_ HW_ hHeld ?_
    refine pa_ 35 (some 92) (bl_ 48 68719476735) HT_ ?_
    refine pa_ 36 (some 93) (bl_ 48 137438953471) HT_ ?_
    refine pa_ 37 (some 94) (bl_ 48 274877906943) HT_ ?_
    refine pa_ 38 (some 95) (bl_ 48 549755813887) HT_ ?_
    refine pa_ 39 (some 96) (bl_ 48 1099511627775) HT_ ?_
    refine pa_ 40 (some 97) (bl_ 48 2199023255551) HT_ ?_
    refine pa_ 41 (some 98) (bl_ 48 4398046511103) HT_ ?_
    refine pa_ 42 (some 99) (bl_ 48 8796093022207) HT_ ?_
    refine pa_ 43 (some 100) (bl_ 48 17592186044415) HT_ ?_
    refine pa_ 44 (some 101) (bl_ 48 35184372088831) HT_ ?_
    refine oa_ 45 (some 102) (bl_ 48 70368744177663) HT_ fun K hK => ?_
    refine goesB_ Try.func25 #[.slice A1 l1.length c1, .slice Ao60 y227.length co60] ?_
    with_reducible refine (spigotref38_Same.calls k _ _ l1 _ _ y227 t262 _ ?side1 ?side2 ?side3 ?side4 A27.out).mono ?_
    (case side1 => repeat (first | exact (Kd.C_below HR1.out bh_) | (with_reducible refine Kd.C_alloc ?_ _) | (with_reducible refine Kd.C_drewN ?_ _) | (with_reducible refine Kd.C_drew ?_)))
    (case side2 => exact HC1.out)
    (case side3 => exact cr_ HO229)
    (case side4 => exact (Kd.R_reads' HO229.out).2.1)
    rintro e w' ⟨rfl, ⟨nd, rfl⟩⟩
    refine ⟨_, rfl, ?_⟩
    refine hK.out _ _ ⟨(blk_cell BK222.out 0).trans rfl, (blk_cell BK222.out 1).trans rfl, (blk_cell BK250.out 0).trans rfl, (blk_cell BK250.out 1).trans rfl, (blk_cell BK250.out 2).trans rfl, (blk_cell BK255.out 0).trans rfl, (blk_cell BK255.out 1).trans rfl, (blk_cell BK255.out 2).trans rfl⟩ (fun hHeld => ?_)
    clear hK K
    refine nm_ (some 102) ?_
    refine pa_ 46 (some 103) (bl_ 48 140737488355327) HT_ ?_
    refine pa_ 47 (some 4) (bl_ 48 281474976710655) HT_ ?_
    refine done_ (done_of HT_.out (by kernel_rfl)) ?_
    try go_wp2
    go_ret
    exact fi_
   ·replace c23 := Bool.eq_false_iff.mpr c23
    subst c23
    replace H : (none) = some r := by rw [if_neg (show ¬ (false = true) by decide)] at H; exact H
    exact absurd H (by simp)
  ·replace c20 := Bool.eq_false_iff.mpr c20
   subst c20
   replace H : (none) = some r := by rw [if_neg (show ¬ (false = true) by decide)] at H; exact H
   exact absurd H (by simp)

end Go.Proofs.Ytjjmnafhaneflaa.X
