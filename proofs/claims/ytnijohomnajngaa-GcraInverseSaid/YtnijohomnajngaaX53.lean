-- written by xprint.py, a program of this session over the kit's print
import Derived.Test.YtnijohomnajngaaX0
import Derived.Test.YtnijohomnajngaaX3
import Derived.Test.YtnijohomnajngaaX4
import Derived.Test.YtnijohomnajngaaX12
import Derived.Test.YtnijohomnajngaaX13
import Derived.Test.YtnijohomnajngaaX27
import Derived.Test.YtnijohomnajngaaX28
import Derived.Test.YtnijohomnajngaaX37
import Derived.Test.YtnijohomnajngaaX39
import Derived.Test.YtnijohomnajngaaX45
import Derived.Test.YtnijohomnajngaaX50
import Derived.Test.YtnijohomnajngaaX52
namespace Go.Proofs.Ytnijohomnajngaa.X
open Go.RowKit Go.Proofs.YtnijohomnajngaaW.PrintWords Go.Proofs.YtnijohomnajngaaW.PrintLast Go.Proofs.YtnijohomnajngaaW.PrintMore
attribute [local go_sem] max2_int min2_int max_two min_two max_three min_three max_four min_four   -- for this text's walks alone
set_option linter.unusedVariables false
set_option linter.unusedSimpArgs false

attribute [local go_sem high] eqA28 eqA30
/-! ### spigotlaw37_GcraInverse: function 8 -/
mutual
def spigotlaw37_GcraInverse.j0 : Nat → Int → Int → Bool → Int → Int → Int → Int → Int → Int → Option (Bool)
  | 0, _, _, _, _, _, _, _, _, _ => none
  | k + 1, x2, x3, x9, x887000, x887001, x887002, x887003, x887004, x887005 => (spigotref37_Check.f k x887000 x887001 x887002 x887003 x887004 x887005).bind fun t906 => (if t906 = 0 then (if x3 < 0 then (spigotlaw37_GcraInverse.j1 k x2 x3 x9 true x887000 x887001 x887002 x887003 x887004 x887005) else (spigotlaw37_GcraInverse.j1 k x2 x3 x9 (!x9) x887000 x887001 x887002 x887003 x887004 x887005)) else (spigotlaw37_GcraInverse.j1 k x2 x3 x9 true x887000 x887001 x887002 x887003 x887004 x887005))
def spigotlaw37_GcraInverse.j1 : Nat → Int → Int → Bool → Bool → Int → Int → Int → Int → Int → Int → Option (Bool)
  | 0, _, _, _, _, _, _, _, _, _, _ => none
  | k + 1, x2, x3, x9, x66, x887000, x887001, x887002, x887003, x887004, x887005 => if x66 = true then (some x9) else ((gcra_Bucket.f k x887000 x887001 x887002 x887003 x887004 x887005).bind fun bt907 => ((gcra_Of.f k bt907.1 bt907.2.1 bt907.2.2.1 bt907.2.2.2.1 bt907.2.2.2.2.1 bt907.2.2.2.2.2.1).bind fun bt915 => (if bt907.2.2.2.2.2.2 = 0 then (if bt915.2.2.2.2.2.2 = 0 then (if ((!(bt915.1 == x887000) || (!(bt915.2.1 == x887001) || (!(bt915.2.2.1 == x887002)))) || ((!(bt915.2.2.2.1 == x887003) || (!(bt915.2.2.2.2.1 == x887004))) || (!(bt915.2.2.2.2.2.1 == x887005)))) = true then (none) else ((bucket_Refill.f k bt907.1 bt907.2.1 bt907.2.2.1 bt907.2.2.2.1 bt907.2.2.2.2.1 bt907.2.2.2.2.2.1 x2).bind fun bt923 => ((gcra_Level.f k x887000 x887001 x887002 x887003 x887004 x887005 x2).bind fun bt931 => ((gcra_Wait.f k x887000 x887001 x887002 x887003 x887004 x887005 x3).bind fun bt933 => ((bucket_Wait.f k bt907.1 bt907.2.1 bt907.2.2.1 bt907.2.2.2.1 bt907.2.2.2.2.1 bt907.2.2.2.2.2.1 x3).bind fun bt935 => (if x9 = true then (if bt923.2.2.2.2.2.2 = 0 then (if bt931.2 = 0 then (if bt931.1 = bt923.2.2.2.1 then (if bt933.2 = 0 then (if bt935.2 = 0 then (some (bt933.1 == bt935.1)) else (none)) else (none)) else (none)) else (none)) else (none)) else (none))))))) else (none)) else (none))))
end
def spigotlaw37_GcraInverse.f (k : Nat) (a0_0 : Int) (a0_1 : Int) (a0_2 : Int) (a0_3 : Int) (a0_4 : Int) (a0_5 : Int) (a1_0 : Int) (a1_1 : Int) (a1_2 : Int) (a1_3 : Int) (a1_4 : Int) (a1_5 : Int) (a2 : Int) (a3 : Int) : Option (Bool) := (spigotlaw37_alive.f k).bind fun t887 => ((spigotref03_Check.f a0_0 a0_1 a0_2 a0_3 a0_4 a0_5).bind fun t888 => (if t888 = 0 then ((gcra_Of.f k a0_0 a0_1 a0_2 a0_3 a0_4 a0_5).bind fun bt889 => ((gcra_Bucket.f k bt889.1 bt889.2.1 bt889.2.2.1 bt889.2.2.2.1 bt889.2.2.2.2.1 bt889.2.2.2.2.2.1).bind fun bt897 => (if bt889.2.2.2.2.2.2 = 0 then (if bt897.2.2.2.2.2.2 = 0 then ((spigotref37_Check.f k bt889.1 bt889.2.1 bt889.2.2.1 bt889.2.2.2.1 bt889.2.2.2.2.1 bt889.2.2.2.2.2.1).bind fun t905 => (if t905 = 0 then (if ((!(bt897.1 == a0_0) || (!(bt897.2.1 == a0_1) || (!(bt897.2.2.1 == a0_2)))) || (!(bt897.2.2.2.1 == a0_3) || (!(bt897.2.2.2.2.1 == a0_4) || (!(bt897.2.2.2.2.2.1 == a0_5))))) = true then (none) else (spigotlaw37_GcraInverse.j0 k a2 a3 t887 a1_0 a1_1 a1_2 a1_3 a1_4 a1_5)) else (none))) else (none)) else (none)))) else (spigotlaw37_GcraInverse.j0 k a2 a3 t887 a1_0 a1_1 a1_2 a1_3 a1_4 a1_5)))
theorem spigotlaw37_GcraInverse.mono_l : ∀ k, (∀ y0 y1 y2 y3 y4 y5 y6 y7 y8, LeO (spigotlaw37_GcraInverse.j0 k y0 y1 y2 y3 y4 y5 y6 y7 y8) (spigotlaw37_GcraInverse.j0 (k + 1) y0 y1 y2 y3 y4 y5 y6 y7 y8)) ∧ (∀ y0 y1 y2 y3 y4 y5 y6 y7 y8 y9, LeO (spigotlaw37_GcraInverse.j1 k y0 y1 y2 y3 y4 y5 y6 y7 y8 y9) (spigotlaw37_GcraInverse.j1 (k + 1) y0 y1 y2 y3 y4 y5 y6 y7 y8 y9))
  | 0 => ⟨fun _ _ _ _ _ _ _ _ _ r h => by simp [spigotlaw37_GcraInverse.j0] at h, fun _ _ _ _ _ _ _ _ _ _ r h => by simp [spigotlaw37_GcraInverse.j1] at h⟩
  | k + 1 => by
    obtain ⟨ih0, ih1⟩ := spigotlaw37_GcraInverse.mono_l k
    refine ⟨?_, ?_⟩
    · intro y0 y1 y2 y3 y4 y5 y6 y7 y8
      unfold spigotlaw37_GcraInverse.j0
      repeat' first
      | (with_reducible exact ih0 _ _ _ _ _ _ _ _ _)
      | (with_reducible exact ih1 _ _ _ _ _ _ _ _ _ _)
      | (with_reducible exact bucket_Refill.mono _ _ _ _ _ _ _ _)
      | (with_reducible exact bucket_Wait.mono _ _ _ _ _ _ _ _)
      | (with_reducible exact gcra_Bucket.mono _ _ _ _ _ _ _)
      | (with_reducible exact gcra_Level.mono _ _ _ _ _ _ _ _)
      | (with_reducible exact gcra_Of.mono _ _ _ _ _ _ _)
      | (with_reducible exact gcra_Wait.mono _ _ _ _ _ _ _ _)
      | (with_reducible exact spigotlaw37_alive.mono _)
      | (with_reducible exact spigotref37_Check.mono _ _ _ _ _ _ _)
      | (with_reducible exact LeO.refl _)
      | (with_reducible exact LeO.none _)
      | (with_reducible refine LeO.ite ?_ ?_)
      | (with_reducible refine LeO.bind ?_ (fun _ => ?_))
      | exact ih0 _ _ _ _ _ _ _ _ _
      | exact ih1 _ _ _ _ _ _ _ _ _ _
      | exact bucket_Refill.mono _ _ _ _ _ _ _ _
      | exact bucket_Wait.mono _ _ _ _ _ _ _ _
      | exact gcra_Bucket.mono _ _ _ _ _ _ _
      | exact gcra_Level.mono _ _ _ _ _ _ _ _
      | exact gcra_Of.mono _ _ _ _ _ _ _
      | exact gcra_Wait.mono _ _ _ _ _ _ _ _
      | exact spigotlaw37_alive.mono _
      | exact spigotref37_Check.mono _ _ _ _ _ _ _
      | exact LeO.none _
      | refine LeO.ite ?_ ?_
      | refine LeO.bind ?_ (fun _ => ?_)
    · intro y0 y1 y2 y3 y4 y5 y6 y7 y8 y9
      unfold spigotlaw37_GcraInverse.j1
      repeat' first
      | (with_reducible exact ih0 _ _ _ _ _ _ _ _ _)
      | (with_reducible exact ih1 _ _ _ _ _ _ _ _ _ _)
      | (with_reducible exact bucket_Refill.mono _ _ _ _ _ _ _ _)
      | (with_reducible exact bucket_Wait.mono _ _ _ _ _ _ _ _)
      | (with_reducible exact gcra_Bucket.mono _ _ _ _ _ _ _)
      | (with_reducible exact gcra_Level.mono _ _ _ _ _ _ _ _)
      | (with_reducible exact gcra_Of.mono _ _ _ _ _ _ _)
      | (with_reducible exact gcra_Wait.mono _ _ _ _ _ _ _ _)
      | (with_reducible exact spigotlaw37_alive.mono _)
      | (with_reducible exact spigotref37_Check.mono _ _ _ _ _ _ _)
      | (with_reducible exact LeO.refl _)
      | (with_reducible exact LeO.none _)
      | (with_reducible refine LeO.ite ?_ ?_)
      | (with_reducible refine LeO.bind ?_ (fun _ => ?_))
      | exact ih0 _ _ _ _ _ _ _ _ _
      | exact ih1 _ _ _ _ _ _ _ _ _ _
      | exact bucket_Refill.mono _ _ _ _ _ _ _ _
      | exact bucket_Wait.mono _ _ _ _ _ _ _ _
      | exact gcra_Bucket.mono _ _ _ _ _ _ _
      | exact gcra_Level.mono _ _ _ _ _ _ _ _
      | exact gcra_Of.mono _ _ _ _ _ _ _
      | exact gcra_Wait.mono _ _ _ _ _ _ _ _
      | exact spigotlaw37_alive.mono _
      | exact spigotref37_Check.mono _ _ _ _ _ _ _
      | exact LeO.none _
      | refine LeO.ite ?_ ?_
      | refine LeO.bind ?_ (fun _ => ?_)
theorem spigotlaw37_GcraInverse.mono : ∀ a0 a1 a2 a3 a4 a5 a6 a7 a8 a9 a10 a11 a12 a13 k, LeO (spigotlaw37_GcraInverse.f k a0 a1 a2 a3 a4 a5 a6 a7 a8 a9 a10 a11 a12 a13) (spigotlaw37_GcraInverse.f (k + 1) a0 a1 a2 a3 a4 a5 a6 a7 a8 a9 a10 a11 a12 a13) := by
  intro a0 a1 a2 a3 a4 a5 a6 a7 a8 a9 a10 a11 a12 a13 k
  obtain ⟨ih0, ih1⟩ := spigotlaw37_GcraInverse.mono_l k
  unfold spigotlaw37_GcraInverse.f
  repeat' first
      | (with_reducible exact ih0 _ _ _ _ _ _ _ _ _)
      | (with_reducible exact ih1 _ _ _ _ _ _ _ _ _ _)
      | (with_reducible exact bucket_Refill.mono _ _ _ _ _ _ _ _)
      | (with_reducible exact bucket_Wait.mono _ _ _ _ _ _ _ _)
      | (with_reducible exact gcra_Bucket.mono _ _ _ _ _ _ _)
      | (with_reducible exact gcra_Level.mono _ _ _ _ _ _ _ _)
      | (with_reducible exact gcra_Of.mono _ _ _ _ _ _ _)
      | (with_reducible exact gcra_Wait.mono _ _ _ _ _ _ _ _)
      | (with_reducible exact spigotlaw37_alive.mono _)
      | (with_reducible exact spigotref37_Check.mono _ _ _ _ _ _ _)
      | (with_reducible exact LeO.refl _)
      | (with_reducible exact LeO.none _)
      | (with_reducible refine LeO.ite ?_ ?_)
      | (with_reducible refine LeO.bind ?_ (fun _ => ?_))
      | exact ih0 _ _ _ _ _ _ _ _ _
      | exact ih1 _ _ _ _ _ _ _ _ _ _
      | exact bucket_Refill.mono _ _ _ _ _ _ _ _
      | exact bucket_Wait.mono _ _ _ _ _ _ _ _
      | exact gcra_Bucket.mono _ _ _ _ _ _ _
      | exact gcra_Level.mono _ _ _ _ _ _ _ _
      | exact gcra_Of.mono _ _ _ _ _ _ _
      | exact gcra_Wait.mono _ _ _ _ _ _ _ _
      | exact spigotlaw37_alive.mono _
      | exact spigotref37_Check.mono _ _ _ _ _ _ _
      | exact LeO.none _
      | refine LeO.ite ?_ ?_
      | refine LeO.bind ?_ (fun _ => ?_)
set_option maxHeartbeats 8000000 in
set_option maxRecDepth 100000 in
theorem spigotlaw37_GcraInverse.calls (k : Nat) (a0_0 : Int) (a0_1 : Int) (a0_2 : Int) (a0_3 : Int) (a0_4 : Int) (a0_5 : Int) (a1_0 : Int) (a1_1 : Int) (a1_2 : Int) (a1_3 : Int) (a1_4 : Int) (a1_5 : Int) (a2 : Int) (a3 : Int) (r : Bool) (w : World) (h : spigotlaw37_GcraInverse.f k a0_0 a0_1 a0_2 a0_3 a0_4 a0_5 a1_0 a1_1 a1_2 a1_3 a1_4 a1_5 a2 a3 = some r) :
  Calls Try.prog 8 #[.agg #[.int .i64 a0_0, .int .i64 a0_1, .int .i64 a0_2, .int .i64 a0_3, .int .i64 a0_4, .int .u64 a0_5], .agg #[.int .i64 a1_0, .int .i64 a1_1, .int .i64 a1_2, .int .u64 a1_3, .int .u64 a1_4, .int .u64 a1_5], .int .u64 a2, .int .i64 a3] w fun e w' => e = .returned (.bool r) ∧ Below w.heap.size w w' := by
 have hu30 := Try.underlying30
 have hu28 := Try.underlying28
 have HB := Aside0.mk (Below.refl w.heap.size w)
 have H : ((spigotlaw37_alive.f k).bind fun t887 => ((spigotref03_Check.f a0_0 a0_1 a0_2 a0_3 a0_4 a0_5).bind fun t888 => (if t888 = 0 then ((gcra_Of.f k a0_0 a0_1 a0_2 a0_3 a0_4 a0_5).bind fun bt889 => ((gcra_Bucket.f k bt889.1 bt889.2.1 bt889.2.2.1 bt889.2.2.2.1 bt889.2.2.2.2.1 bt889.2.2.2.2.2.1).bind fun bt897 => (if bt889.2.2.2.2.2.2 = 0 then (if bt897.2.2.2.2.2.2 = 0 then ((spigotref37_Check.f k bt889.1 bt889.2.1 bt889.2.2.1 bt889.2.2.2.1 bt889.2.2.2.2.1 bt889.2.2.2.2.2.1).bind fun t905 => (if t905 = 0 then (if ((!(bt897.1 == a0_0) || (!(bt897.2.1 == a0_1) || (!(bt897.2.2.1 == a0_2)))) || (!(bt897.2.2.2.1 == a0_3) || (!(bt897.2.2.2.2.1 == a0_4) || (!(bt897.2.2.2.2.2.1 == a0_5))))) = true then (none) else (spigotlaw37_GcraInverse.j0 k a2 a3 t887 a1_0 a1_1 a1_2 a1_3 a1_4 a1_5)) else (none))) else (none)) else (none)))) else (spigotlaw37_GcraInverse.j0 k a2 a3 t887 a1_0 a1_1 a1_2 a1_3 a1_4 a1_5)))) = some r := h
 clear h
 obtain ⟨t887, A5, H⟩ := bo_ H
 try dsimp only at H
 obtain ⟨t888, A6, H⟩ := bo_ H
 try dsimp only at H
 have HC7 := Aside0.mk H
 clear H
 go_enter Try.func8, Try.ntmps8
 go_upto_if 29 with (first | ((with_reducible refine gate_dst (N := 4) rfl ?_); refine bx_ #[.int .i64 a0_0, .int .i64 a0_1, .int .i64 a0_2, .int .i64 a0_3, .int .i64 a0_4, .int .u64 a0_5] 30 ?_; intro gb885 hg w8 BK885 hb; have GW885 := bz_ w hg; replace HB := bs_ w hb; clear hb hg) | ((with_reducible refine gate_dst (N := 5) rfl ?_); refine bx_ #[.int .i64 a1_0, .int .i64 a1_1, .int .i64 a1_2, .int .u64 a1_3, .int .u64 a1_4, .int .u64 a1_5] 28 ?_; intro gb886 hg w9 BK886 hb; have GW886 := bz_ w hg; have NB885_886 := bn_ BK885 hg; have NB886_885 := bm_ BK885 hg; replace BK885 := bb_ BK885 hb; replace HB := bs_ w hb; clear hb hg) | ((with_reducible refine gate_callee (f := 23) rfl ?_); refine goesA_ (some 26) Try.func23 #[] ?_; (with_reducible refine (spigotlaw37_alive.calls k  t887 _ A5.out).mono ?_); rintro e w10 ⟨rfl, hb⟩; refine ⟨_, rfl, ?_⟩; replace BK885 := bb_ BK885 hb; replace BK886 := bb_ BK886 hb; replace HB := bs_ w hb; clear hb; have hnb11 := NB885_886.out; have hnc11 := NB886_885.out; obtain ⟨hcz12_0, hcz12_1, hcz12_2, hcz12_3, hcz12_4, hcz12_5, hfz12_0, hfz12_1, hfz12_2, hfz12_3, hfz12_4, hfz12_5⟩ := ce6_ BK885) | ((with_reducible refine gate_callee (f := 26) rfl ?_); refine goesA_ (some 28) Try.func26 #[.agg #[.int .i64 a0_0, .int .i64 a0_1, .int .i64 a0_2, .int .i64 a0_3, .int .i64 a0_4, .int .u64 a0_5]] ?_; (with_reducible refine (spigotref03_Check.calls a0_0 a0_1 a0_2 a0_3 a0_4 a0_5 t888 _ A6.out).mono ?_); rintro e w13 ⟨rfl, hb⟩; refine ⟨_, rfl, ?_⟩; replace BK885 := bb_ BK885 hb; replace BK886 := bb_ BK886 hb; replace HB := bs_ w hb; clear hb))
 (try simp only [Act.put, List.setIfInBounds_toArray, List.set_cons_zero, List.set_cons_succ])
 go_cut [] (fun wc => ∃ (kq : Nat), Aside0 (spigotlaw37_GcraInverse.j0 kq a2 a3 t887 a1_0 a1_1 a1_2 a1_3 a1_4 a1_5 = some r) ∧ Aside0 (kq ≤ k) ∧ Aside0 (wc.heap[gb885]? = some (.cells #[.int .i64 a0_0, .int .i64 a0_1, .int .i64 a0_2, .int .i64 a0_3, .int .i64 a0_4, .int .u64 a0_5] 30 (0, 0))) ∧ Aside0 (wc.heap[gb886]? = some (.cells #[.int .i64 a1_0, .int .i64 a1_1, .int .i64 a1_2, .int .u64 a1_3, .int .u64 a1_4, .int .u64 a1_5] 28 (0, 0))) ∧ Aside0 (Below w.heap.size w wc))
 case first =>
  have H := HC7.out
  clear HC7
  by_cases c14 : t888 = 0
  ·rw [if_pos c14] at H
   have c14b0 : (t888 == 0) = true := beq_iff_eq.mpr c14
   have c14b1 : (t888 != 0) = false := bne_eq_false_iff_eq.mpr c14
   clear c14
   (first | rw [c14b0] | (simp only [i64_w, i32_w]; rw [c14b0]) | skip)
   obtain ⟨⟨t889, t890, t891, t892, t893, t894, t895⟩, A15, H⟩ := bo_ H
   try dsimp only at H
   obtain ⟨⟨t897, t898, t899, t900, t901, t902, t903⟩, A16, H⟩ := bo_ H
   try dsimp only at H
   by_cases c17 : t895 = 0
   rotate_left
   ·rw [if_neg c17] at H; exact absurd H (by simp)
   rw [if_pos c17] at H
   have c17b0 : (t895 == 0) = true := beq_iff_eq.mpr c17
   have c17b1 : (t895 != 0) = false := bne_eq_false_iff_eq.mpr c17
   clear c17
   by_cases c18 : t903 = 0
   rotate_left
   ·rw [if_neg c18] at H; exact absurd H (by simp)
   rw [if_pos c18] at H
   have c18b0 : (t903 == 0) = true := beq_iff_eq.mpr c18
   have c18b1 : (t903 != 0) = false := bne_eq_false_iff_eq.mpr c18
   clear c18
   obtain ⟨t905, A19, H⟩ := bo_ H
   try dsimp only at H
   by_cases c20 : t905 = 0
   rotate_left
   ·rw [if_neg c20] at H; exact absurd H (by simp)
   rw [if_pos c20] at H
   have c20b0 : (t905 == 0) = true := beq_iff_eq.mpr c20
   have c20b1 : (t905 != 0) = false := bne_eq_false_iff_eq.mpr c20
   clear c20
   by_cases c21 : ((!(t897 == a0_0) || (!(t898 == a0_1) || (!(t899 == a0_2)))) || (!(t900 == a0_3) || (!(t901 == a0_4) || (!(t902 == a0_5))))) = true
   ·rw [if_pos c21] at H; exact absurd H (by simp)
   rw [if_neg c21] at H
   have c21b0 : ((!(t897 == a0_0) || (!(t898 == a0_1) || (!(t899 == a0_2)))) || (!(t900 == a0_3) || (!(t901 == a0_4) || (!(t902 == a0_5))))) = false := by simpa using c21
   clear c21
   have H' := Aside0.mk H
   clear H
   have hnb22 := NB885_886.out
   have hnc22 := NB886_885.out
   obtain ⟨_, _, _, _, _, _, _, _, _, _, _, _⟩ := ce6_ BK885
   go_wp2_with (first | ((with_reducible refine gate_callee (f := 11) rfl ?_); refine goesA_ (some 32) Try.func11 #[.agg #[.int .i64 a0_0, .int .i64 a0_1, .int .i64 a0_2, .int .i64 a0_3, .int .i64 a0_4, .int .u64 a0_5]] ?_; (with_reducible refine (gcra_Of.calls k a0_0 a0_1 a0_2 a0_3 a0_4 a0_5 t889 t890 t891 t892 t893 t894 t895 _ A15.out).mono ?_); rintro e w24 ⟨rfl, hb⟩; refine ⟨_, rfl, ?_⟩; replace BK885 := bb_ BK885 hb; replace BK886 := bb_ BK886 hb; replace HB := bs_ w hb; clear hb) | ((with_reducible refine gate_dst (N := 10) rfl ?_); refine bx_ #[.int .i64 0, .int .i64 0, .int .i64 0, .int .u64 0, .int .u64 0, .int .u64 0] 28 ?_; intro gb896 hg w25 BK896 hb; have GW896 := bz_ w hg; have NB885_896 := bn_ BK885 hg; have NB896_885 := bm_ BK885 hg; have NB886_896 := bn_ BK886 hg; have NB896_886 := bm_ BK886 hg; replace BK885 := bb_ BK885 hb; replace BK886 := bb_ BK886 hb; replace HB := bs_ w hb; clear hb hg; have hnb26 := NB896_885.out; have hnc26 := NB885_896.out; have hnb27 := NB896_886.out; have hnc27 := NB886_896.out; obtain ⟨_, _, _, _, _, _, _, _, _, _, _, _⟩ := ce6_ BK896) | ((with_reducible refine gate_callee (f := 13) rfl ?_); refine goesA_ (some 37) Try.func13 #[.agg #[.int .i64 t889, .int .i64 t890, .int .i64 t891, .int .u64 t892, .int .u64 t893, .int .u64 t894]] ?_; (with_reducible refine (gcra_Bucket.calls k t889 t890 t891 t892 t893 t894 t897 t898 t899 t900 t901 t902 t903 _ A16.out).mono ?_); rintro e w29 ⟨rfl, hb⟩; refine ⟨_, rfl, ?_⟩; replace BK885 := bf_ BK885 hb; replace BK886 := bf_ BK886 hb; replace BK896 := Aside0.mk (blk_below (g := gb896) (o := .cells #[.int .i64 t889, .int .i64 t890, .int .i64 t891, .int .u64 t892, .int .u64 t893, .int .u64 t894] 28 (0, 0)) (bp6_ (bq_ BK896)) hb); replace HB := bs_ w hb; clear hb) | ((with_reducible refine gate_dst (N := 12) rfl ?_); refine bx_ #[.int .i64 0, .int .i64 0, .int .i64 0, .int .i64 0, .int .i64 0, .int .u64 0] 30 ?_; intro gb904 hg w30 BK904 hb; have GW904 := bz_ w hg; have NB885_904 := bn_ BK885 hg; have NB904_885 := bm_ BK885 hg; have NB886_904 := bn_ BK886 hg; have NB904_886 := bm_ BK886 hg; have NB896_904 := bn_ BK896 hg; have NB904_896 := bm_ BK896 hg; replace BK885 := bb_ BK885 hb; replace BK886 := bb_ BK886 hb; replace BK896 := bb_ BK896 hb; replace HB := bs_ w hb; clear hb hg; have hnb31 := NB904_885.out; have hnc31 := NB885_904.out; have hnb32 := NB904_886.out; have hnc32 := NB886_904.out; have hnb33 := NB904_896.out; have hnc33 := NB896_904.out; obtain ⟨_, _, _, _, _, _, _, _, _, _, _, _⟩ := ce6_ BK904; obtain ⟨_, _, _, _, _, _, _, _, _, _, _, _⟩ := ce6_ BK896) | (go_at_call 16; (with_reducible refine (spigotref37_Check.calls k t889 t890 t891 t892 t893 t894 t905 _ A19.out).mono ?_); rintro e w36 ⟨rfl, hb⟩; replace BK885 := bf_ BK885 hb; replace BK886 := bf_ BK886 hb; replace BK896 := bf_ BK896 hb; replace BK904 := Aside0.mk (blk_below (g := gb904) (o := .cells #[.int .i64 t897, .int .i64 t898, .int .i64 t899, .int .i64 t900, .int .i64 t901, .int .u64 t902] 30 (0, 0)) (bp6_ (bq_ BK904)) hb); replace HB := bs_ w hb; clear hb; obtain ⟨_, _, _, _, _, _, _, _, _, _, _, _⟩ := ce6_ BK904; obtain ⟨_, _, _, _, _, _, _, _, _, _, _, _⟩ := ce6_ BK885))
   go_meet
   case rel => exact ⟨_, H', al_, ⟨bq_ BK885⟩, ⟨bq_ BK886⟩, bw_⟩
  ·rw [if_neg c14] at H
   have c14b0 : (t888 == 0) = false := beq_eq_false_iff_ne.mpr c14
   have c14b1 : (t888 != 0) = true := bne_iff_ne.mpr c14
   (first | rw [c14b0] | (simp only [i64_w, i32_w]; rw [c14b0]) | skip)
   have H' := Aside0.mk H
   clear H
   go_wp2
   go_meet
   case rel => exact ⟨_, H', al_, ⟨bq_ BK885⟩, ⟨bq_ BK886⟩, bw_⟩
 case rest =>
  clear HC7
  try clear hcz12_0
  try clear hcz12_1
  try clear hcz12_2
  try clear hcz12_3
  try clear hcz12_4
  try clear hcz12_5
  try clear hfz12_0
  try clear hfz12_1
  try clear hfz12_2
  try clear hfz12_3
  try clear hfz12_4
  try clear hfz12_5
  obtain ⟨kq, HA, HJ6, BK885, BK886, HB⟩ := hcut
  cases kq with
  | zero => exact absurd HA.out (by simp [spigotlaw37_GcraInverse.j0])
  | succ kj6 =>
   have H := HA.out
   clear HA
   simp only [spigotlaw37_GcraInverse.j0] at H
   have HC39 := Aside0.mk H
   clear H
   go_upto_region 7 with (fail)
   go_cut [66] (fun v66 wc => ∃ (kq : Nat) (x66_38 : Bool), v66 = .bool x66_38 ∧ Aside0 (spigotlaw37_GcraInverse.j1 kq a2 a3 t887 x66_38 a1_0 a1_1 a1_2 a1_3 a1_4 a1_5 = some r) ∧ Aside0 (kq ≤ kj6) ∧ Aside0 (wc.heap[gb885]? = some (.cells #[.int .i64 a0_0, .int .i64 a0_1, .int .i64 a0_2, .int .i64 a0_3, .int .i64 a0_4, .int .u64 a0_5] 30 (0, 0))) ∧ Aside0 (wc.heap[gb886]? = some (.cells #[.int .i64 a1_0, .int .i64 a1_1, .int .i64 a1_2, .int .u64 a1_3, .int .u64 a1_4, .int .u64 a1_5] 28 (0, 0))) ∧ Aside0 (Below w.heap.size w wc))
   case first =>
    have H := HC39.out
    clear HC39
    obtain ⟨t906, A40, H⟩ := bo_ H
    try dsimp only at H
    by_cases c41 : t906 = 0
    ·rw [if_pos c41] at H
     have c41b0 : (t906 == 0) = true := beq_iff_eq.mpr c41
     have c41b1 : (t906 != 0) = false := bne_eq_false_iff_eq.mpr c41
     clear c41
     (first | rw [c41b0] | (simp only [i64_w, i32_w]; rw [c41b0]) | skip)
     by_cases c42 : a3 < 0
     ·rw [if_pos c42] at H
      have c42b0 : decide (a3 < 0) = true := decide_eq_true c42
      clear c42
      have H' := Aside0.mk H
      clear H
      have hnb43 := NB886_885.out
      have hnc43 := NB885_886.out
      obtain ⟨_, _, _, _, _, _, _, _, _, _, _, _⟩ := ce6_ BK886
      go_wp2_with (first | ((with_reducible refine gate_callee (f := 16) rfl ?_); refine goesA_ (some 57) Try.func16 #[.agg #[.int .i64 a1_0, .int .i64 a1_1, .int .i64 a1_2, .int .u64 a1_3, .int .u64 a1_4, .int .u64 a1_5]] ?_; (with_reducible refine (spigotref37_Check.calls kj6 a1_0 a1_1 a1_2 a1_3 a1_4 a1_5 t906 _ A40.out).mono ?_); rintro e w45 ⟨rfl, hb⟩; refine ⟨_, rfl, ?_⟩; replace BK885 := bb_ BK885 hb; replace BK886 := bb_ BK886 hb; replace HB := bs_ w hb; clear hb))
      go_meet
      case rel => exact ⟨_, (true), rf_, H', ⟨by have := HJ6.out; first | omega | exact Nat.le_refl _⟩, ⟨bq_ BK885⟩, ⟨bq_ BK886⟩, bw_⟩
     ·rw [if_neg c42] at H
      have c42b0 : decide (a3 < 0) = false := decide_eq_false c42
      clear c42
      have H' := Aside0.mk H
      clear H
      have hnb46 := NB886_885.out
      have hnc46 := NB885_886.out
      obtain ⟨_, _, _, _, _, _, _, _, _, _, _, _⟩ := ce6_ BK886
      go_wp2_with (first | ((with_reducible refine gate_callee (f := 16) rfl ?_); refine goesA_ (some 57) Try.func16 #[.agg #[.int .i64 a1_0, .int .i64 a1_1, .int .i64 a1_2, .int .u64 a1_3, .int .u64 a1_4, .int .u64 a1_5]] ?_; (with_reducible refine (spigotref37_Check.calls kj6 a1_0 a1_1 a1_2 a1_3 a1_4 a1_5 t906 _ A40.out).mono ?_); rintro e w48 ⟨rfl, hb⟩; refine ⟨_, rfl, ?_⟩; replace BK885 := bb_ BK885 hb; replace BK886 := bb_ BK886 hb; replace HB := bs_ w hb; clear hb))
      go_meet
      case rel => exact ⟨_, (!t887), rf_, H', ⟨by have := HJ6.out; first | omega | exact Nat.le_refl _⟩, ⟨bq_ BK885⟩, ⟨bq_ BK886⟩, bw_⟩
    ·rw [if_neg c41] at H
     have c41b0 : (t906 == 0) = false := beq_eq_false_iff_ne.mpr c41
     have c41b1 : (t906 != 0) = true := bne_iff_ne.mpr c41
     (first | rw [c41b0] | (simp only [i64_w, i32_w]; rw [c41b0]) | skip)
     have H' := Aside0.mk H
     clear H
     have hnb49 := NB886_885.out
     have hnc49 := NB885_886.out
     obtain ⟨_, _, _, _, _, _, _, _, _, _, _, _⟩ := ce6_ BK886
     go_wp2_with (first | ((with_reducible refine gate_callee (f := 16) rfl ?_); refine goesA_ (some 57) Try.func16 #[.agg #[.int .i64 a1_0, .int .i64 a1_1, .int .i64 a1_2, .int .u64 a1_3, .int .u64 a1_4, .int .u64 a1_5]] ?_; (with_reducible refine (spigotref37_Check.calls kj6 a1_0 a1_1 a1_2 a1_3 a1_4 a1_5 t906 _ A40.out).mono ?_); rintro e w51 ⟨rfl, hb⟩; refine ⟨_, rfl, ?_⟩; replace BK885 := bb_ BK885 hb; replace BK886 := bb_ BK886 hb; replace HB := bs_ w hb; clear hb))
     go_meet
     case rel => exact ⟨_, (true), rf_, H', ⟨by have := HJ6.out; first | omega | exact Nat.le_refl _⟩, ⟨bq_ BK885⟩, ⟨bq_ BK886⟩, bw_⟩
   case rest =>
    clear HC39
    try clear hcz12_0
    try clear hcz12_1
    try clear hcz12_2
    try clear hcz12_3
    try clear hcz12_4
    try clear hcz12_5
    try clear hfz12_0
    try clear hfz12_1
    try clear hfz12_2
    try clear hfz12_3
    try clear hfz12_4
    try clear hfz12_5
    obtain ⟨kq, x66_38, rfl, HA, HJ38, BK885, BK886, HB⟩ := hcut
    cases kq with
    | zero => exact absurd HA.out (by simp [spigotlaw37_GcraInverse.j1])
    | succ kj38 =>
     have H := HA.out
     clear HA
     simp only [spigotlaw37_GcraInverse.j1] at H
     by_cases c52 : x66_38 = true
     ·subst c52
      replace H : (some t887) = some r := by rw [if_pos rfl] at H; exact H
      obtain rfl := Option.some.inj H
      go_wp2
      go_ret
      exact fi_
     ·replace c52 := Bool.eq_false_iff.mpr c52
      subst c52
      rw [if_neg (show ¬ (false = true) by decide)] at H
      try dsimp only at H
      obtain ⟨⟨t907, t908, t909, t910, t911, t912, t913⟩, A53, H⟩ := bo_ H
      try dsimp only at H
      obtain ⟨⟨t915, t916, t917, t918, t919, t920, t921⟩, A54, H⟩ := bo_ H
      try dsimp only at H
      by_cases c55 : t913 = 0
      rotate_left
      ·rw [if_neg c55] at H; exact absurd H (by simp)
      rw [if_pos c55] at H
      have c55b0 : (t913 == 0) = true := beq_iff_eq.mpr c55
      have c55b1 : (t913 != 0) = false := bne_eq_false_iff_eq.mpr c55
      clear c55
      by_cases c56 : t921 = 0
      rotate_left
      ·rw [if_neg c56] at H; exact absurd H (by simp)
      rw [if_pos c56] at H
      have c56b0 : (t921 == 0) = true := beq_iff_eq.mpr c56
      have c56b1 : (t921 != 0) = false := bne_eq_false_iff_eq.mpr c56
      clear c56
      by_cases c57 : ((!(t915 == a1_0) || (!(t916 == a1_1) || (!(t917 == a1_2)))) || ((!(t918 == a1_3) || (!(t919 == a1_4))) || (!(t920 == a1_5)))) = true
      ·rw [if_pos c57] at H; exact absurd H (by simp)
      rw [if_neg c57] at H
      have c57b0 : ((!(t915 == a1_0) || (!(t916 == a1_1) || (!(t917 == a1_2)))) || ((!(t918 == a1_3) || (!(t919 == a1_4))) || (!(t920 == a1_5)))) = false := by simpa using c57
      clear c57
      obtain ⟨⟨t923, t924, t925, t926, t927, t928, t929⟩, A58, H⟩ := bo_ H
      try dsimp only at H
      obtain ⟨⟨t931, t932⟩, A59, H⟩ := bo_ H
      try dsimp only at H
      obtain ⟨⟨t933, t934⟩, A60, H⟩ := bo_ H
      try dsimp only at H
      obtain ⟨⟨t935, t936⟩, A61, H⟩ := bo_ H
      try dsimp only at H
      by_cases c62 : t887 = true
      ·subst c62
       rw [if_pos rfl] at H
       try dsimp only at H
       by_cases c63 : t929 = 0
       rotate_left
       ·rw [if_neg c63] at H; exact absurd H (by simp)
       rw [if_pos c63] at H
       have c63b0 : (t929 == 0) = true := beq_iff_eq.mpr c63
       have c63b1 : (t929 != 0) = false := bne_eq_false_iff_eq.mpr c63
       clear c63
       by_cases c64 : t932 = 0
       rotate_left
       ·rw [if_neg c64] at H; exact absurd H (by simp)
       rw [if_pos c64] at H
       have c64b0 : (t932 == 0) = true := beq_iff_eq.mpr c64
       have c64b1 : (t932 != 0) = false := bne_eq_false_iff_eq.mpr c64
       clear c64
       by_cases c65 : t931 = t926
       rotate_left
       ·rw [if_neg c65] at H; exact absurd H (by simp)
       rw [if_pos c65] at H
       have c65b0 : (t931 == t926) = true := beq_iff_eq.mpr c65
       have c65b1 : (t931 != t926) = false := bne_eq_false_iff_eq.mpr c65
       clear c65
       by_cases c66 : t934 = 0
       rotate_left
       ·rw [if_neg c66] at H; exact absurd H (by simp)
       rw [if_pos c66] at H
       have c66b0 : (t934 == 0) = true := beq_iff_eq.mpr c66
       have c66b1 : (t934 != 0) = false := bne_eq_false_iff_eq.mpr c66
       clear c66
       by_cases c67 : t936 = 0
       rotate_left
       ·rw [if_neg c67] at H; exact absurd H (by simp)
       rw [if_pos c67] at H
       have c67b0 : (t936 == 0) = true := beq_iff_eq.mpr c67
       have c67b1 : (t936 != 0) = false := bne_eq_false_iff_eq.mpr c67
       clear c67
       obtain rfl := Option.some.inj H
       have hnb68 := NB886_885.out
       have hnc68 := NB885_886.out
       obtain ⟨_, _, _, _, _, _, _, _, _, _, _, _⟩ := ce6_ BK886
       go_wp2_with (first | ((with_reducible refine gate_callee (f := 13) rfl ?_); refine goesA_ (some 70) Try.func13 #[.agg #[.int .i64 a1_0, .int .i64 a1_1, .int .i64 a1_2, .int .u64 a1_3, .int .u64 a1_4, .int .u64 a1_5]] ?_; (with_reducible refine (gcra_Bucket.calls kj38 a1_0 a1_1 a1_2 a1_3 a1_4 a1_5 t907 t908 t909 t910 t911 t912 t913 _ A53.out).mono ?_); rintro e w70 ⟨rfl, hb⟩; refine ⟨_, rfl, ?_⟩; replace BK885 := bb_ BK885 hb; replace BK886 := bb_ BK886 hb; replace HB := bs_ w hb; clear hb) | ((with_reducible refine gate_dst (N := 14) rfl ?_); refine bx_ #[.int .i64 0, .int .i64 0, .int .i64 0, .int .i64 0, .int .i64 0, .int .u64 0] 30 ?_; intro gb914 hg w71 BK914 hb; have GW914 := bz_ w hg; have NB885_914 := bn_ BK885 hg; have NB914_885 := bm_ BK885 hg; have NB886_914 := bn_ BK886 hg; have NB914_886 := bm_ BK886 hg; replace BK885 := bb_ BK885 hb; replace BK886 := bb_ BK886 hb; replace HB := bs_ w hb; clear hb hg; have hnb72 := NB914_885.out; have hnc72 := NB885_914.out; have hnb73 := NB914_886.out; have hnc73 := NB886_914.out; obtain ⟨_, _, _, _, _, _, _, _, _, _, _, _⟩ := ce6_ BK914) | ((with_reducible refine gate_callee (f := 11) rfl ?_); refine goesA_ (some 75) Try.func11 #[.agg #[.int .i64 t907, .int .i64 t908, .int .i64 t909, .int .i64 t910, .int .i64 t911, .int .u64 t912]] ?_; (with_reducible refine (gcra_Of.calls kj38 t907 t908 t909 t910 t911 t912 t915 t916 t917 t918 t919 t920 t921 _ A54.out).mono ?_); rintro e w75 ⟨rfl, hb⟩; refine ⟨_, rfl, ?_⟩; replace BK885 := bf_ BK885 hb; replace BK886 := bf_ BK886 hb; replace BK914 := Aside0.mk (blk_below (g := gb914) (o := .cells #[.int .i64 t907, .int .i64 t908, .int .i64 t909, .int .i64 t910, .int .i64 t911, .int .u64 t912] 30 (0, 0)) (bp6_ (bq_ BK914)) hb); replace HB := bs_ w hb; clear hb) | ((with_reducible refine gate_dst (N := 16) rfl ?_); refine bx_ #[.int .i64 0, .int .i64 0, .int .i64 0, .int .u64 0, .int .u64 0, .int .u64 0] 28 ?_; intro gb922 hg w76 BK922 hb; have GW922 := bz_ w hg; have NB885_922 := bn_ BK885 hg; have NB922_885 := bm_ BK885 hg; have NB886_922 := bn_ BK886 hg; have NB922_886 := bm_ BK886 hg; have NB914_922 := bn_ BK914 hg; have NB922_914 := bm_ BK914 hg; replace BK885 := bb_ BK885 hb; replace BK886 := bb_ BK886 hb; replace BK914 := bb_ BK914 hb; replace HB := bs_ w hb; clear hb hg; have hnb77 := NB922_885.out; have hnc77 := NB885_922.out; have hnb78 := NB922_886.out; have hnc78 := NB886_922.out; have hnb79 := NB922_914.out; have hnc79 := NB914_922.out; obtain ⟨_, _, _, _, _, _, _, _, _, _, _, _⟩ := ce6_ BK922; obtain ⟨_, _, _, _, _, _, _, _, _, _, _, _⟩ := ce6_ BK886; obtain ⟨_, _, _, _, _, _, _, _, _, _, _, _⟩ := ce6_ BK914) | ((with_reducible refine gate_callee (f := 27) rfl ?_); refine goesA_ (some 92) Try.func27 #[.agg #[.int .i64 t907, .int .i64 t908, .int .i64 t909, .int .i64 t910, .int .i64 t911, .int .u64 t912], .int .u64 a2] ?_; (with_reducible refine (bucket_Refill.calls kj38 t907 t908 t909 t910 t911 t912 a2 t923 t924 t925 t926 t927 t928 t929 _ A58.out).mono ?_); rintro e w83 ⟨rfl, hb⟩; refine ⟨_, rfl, ?_⟩; replace BK885 := bf_ BK885 hb; replace BK886 := bf_ BK886 hb; replace BK914 := bf_ BK914 hb; replace BK922 := Aside0.mk (blk_below (g := gb922) (o := .cells #[.int .i64 t915, .int .i64 t916, .int .i64 t917, .int .u64 t918, .int .u64 t919, .int .u64 t920] 28 (0, 0)) (bp6_ (bq_ BK922)) hb); replace HB := bs_ w hb; clear hb) | ((with_reducible refine gate_dst (N := 18) rfl ?_); refine bx_ #[.int .i64 0, .int .i64 0, .int .i64 0, .int .i64 0, .int .i64 0, .int .u64 0] 30 ?_; intro gb930 hg w84 BK930 hb; have GW930 := bz_ w hg; have NB885_930 := bn_ BK885 hg; have NB930_885 := bm_ BK885 hg; have NB886_930 := bn_ BK886 hg; have NB930_886 := bm_ BK886 hg; have NB914_930 := bn_ BK914 hg; have NB930_914 := bm_ BK914 hg; have NB922_930 := bn_ BK922 hg; have NB930_922 := bm_ BK922 hg; replace BK885 := bb_ BK885 hb; replace BK886 := bb_ BK886 hb; replace BK914 := bb_ BK914 hb; replace BK922 := bb_ BK922 hb; replace HB := bs_ w hb; clear hb hg; have hnb85 := NB930_885.out; have hnc85 := NB885_930.out; have hnb86 := NB930_886.out; have hnc86 := NB886_930.out; have hnb87 := NB930_914.out; have hnc87 := NB914_930.out; have hnb88 := NB930_922.out; have hnc88 := NB922_930.out; obtain ⟨_, _, _, _, _, _, _, _, _, _, _, _⟩ := ce6_ BK930; obtain ⟨_, _, _, _, _, _, _, _, _, _, _, _⟩ := ce6_ BK886) | ((with_reducible refine gate_callee (f := 19) rfl ?_); refine goesA_ (some 98) Try.func19 #[.agg #[.int .i64 a1_0, .int .i64 a1_1, .int .i64 a1_2, .int .u64 a1_3, .int .u64 a1_4, .int .u64 a1_5], .int .u64 a2] ?_; (with_reducible refine (gcra_Level.calls kj38 a1_0 a1_1 a1_2 a1_3 a1_4 a1_5 a2 t931 t932 _ A59.out).mono ?_); rintro e w91 ⟨rfl, hb⟩; refine ⟨_, rfl, ?_⟩; replace BK885 := bf_ BK885 hb; replace BK886 := bf_ BK886 hb; replace BK914 := bf_ BK914 hb; replace BK922 := bf_ BK922 hb; replace BK930 := Aside0.mk (blk_below (g := gb930) (o := .cells #[.int .i64 t923, .int .i64 t924, .int .i64 t925, .int .i64 t926, .int .i64 t927, .int .u64 t928] 30 (0, 0)) (bp6_ (bq_ BK930)) hb); replace HB := bs_ w hb; clear hb; obtain ⟨_, _, _, _, _, _, _, _, _, _, _, _⟩ := ce6_ BK886) | ((with_reducible refine gate_callee (f := 21) rfl ?_); refine goesA_ (some 104) Try.func21 #[.agg #[.int .i64 a1_0, .int .i64 a1_1, .int .i64 a1_2, .int .u64 a1_3, .int .u64 a1_4, .int .u64 a1_5], .int .i64 a3] ?_; (with_reducible refine (gcra_Wait.calls kj38 a1_0 a1_1 a1_2 a1_3 a1_4 a1_5 a3 t933 t934 _ A60.out).mono ?_); rintro e w93 ⟨rfl, hb⟩; refine ⟨_, rfl, ?_⟩; replace BK885 := bb_ BK885 hb; replace BK886 := bb_ BK886 hb; replace BK914 := bb_ BK914 hb; replace BK922 := bb_ BK922 hb; replace BK930 := bb_ BK930 hb; replace HB := bs_ w hb; clear hb; obtain ⟨_, _, _, _, _, _, _, _, _, _, _, _⟩ := ce6_ BK914) | ((with_reducible refine gate_callee (f := 29) rfl ?_); refine goesA_ (some 110) Try.func29 #[.agg #[.int .i64 t907, .int .i64 t908, .int .i64 t909, .int .i64 t910, .int .i64 t911, .int .u64 t912], .int .i64 a3] ?_; (with_reducible refine (bucket_Wait.calls kj38 t907 t908 t909 t910 t911 t912 a3 t935 t936 _ A61.out).mono ?_); rintro e w95 ⟨rfl, hb⟩; refine ⟨_, rfl, ?_⟩; replace BK885 := bb_ BK885 hb; replace BK886 := bb_ BK886 hb; replace BK914 := bb_ BK914 hb; replace BK922 := bb_ BK922 hb; replace BK930 := bb_ BK930 hb; replace HB := bs_ w hb; clear hb; obtain ⟨_, _, _, _, _, _, _, _, _, _, _, _⟩ := ce6_ BK930))
       go_ret
       exact fi_
      ·replace c62 := Bool.eq_false_iff.mpr c62
       subst c62
       replace H : (none) = some r := by rw [if_neg (show ¬ (false = true) by decide)] at H; exact H
       exact absurd H (by simp)

end Go.Proofs.Ytnijohomnajngaa.X
