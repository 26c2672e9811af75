-- written by xprint.py, a program of this session over the kit's print
import Derived.Test.YtiifhbaabnpkeaaX0
import Derived.Test.YtiifhbaabnpkeaaX3
import Derived.Test.YtiifhbaabnpkeaaX4
import Derived.Test.YtiifhbaabnpkeaaX9
namespace Go.Proofs.Ytiifhbaabnpkeaa.X
open Go.RowKit Go.Proofs.YtiifhbaabnpkeaaW.PrintWords Go.Proofs.YtiifhbaabnpkeaaW.PrintLast Go.Proofs.YtiifhbaabnpkeaaW.PrintMore
attribute [local go_sem] max2_int min2_int max_two min_two max_three min_three max_four min_four   -- for this text's walks alone
set_option linter.unusedVariables false
set_option linter.unusedSimpArgs false

/-! ### bucket_Refill: function 42 -/
def bucket_Refill.f (k : Nat) (a0_0 : Int) (a0_1 : Int) (a0_2 : Int) (a0_3 : Int) (a0_4 : Int) (a0_5 : Int) (a1 : Int) : Option (Int × Int × Int × Int × Int × Int × Int) := (bucket_Check.f a0_0 a0_1 a0_2 a0_3 a0_4 a0_5).bind fun t159 => (if t159 = 0 then ((bucket_fill.f k a0_0 a0_1 a0_2 a0_3 a0_4 a0_5 a1).bind fun bt160 => (some (bt160.1, bt160.2.1, bt160.2.2.1, bt160.2.2.2.1, bt160.2.2.2.2.1, bt160.2.2.2.2.2, 0))) else (some (0, 0, 0, 0, 0, 0, t159)))
theorem bucket_Refill.mono : ∀ a0 a1 a2 a3 a4 a5 a6 k, LeO (bucket_Refill.f k a0 a1 a2 a3 a4 a5 a6) (bucket_Refill.f (k + 1) a0 a1 a2 a3 a4 a5 a6) := by
  intro a0 a1 a2 a3 a4 a5 a6 k
  unfold bucket_Refill.f
  repeat' first
      | (with_reducible exact bucket_fill.mono _ _ _ _ _ _ _ _)
      | (with_reducible exact LeO.refl _)
      | (with_reducible exact LeO.none _)
      | (with_reducible refine LeO.ite ?_ ?_)
      | (with_reducible refine LeO.bind ?_ (fun _ => ?_))
      | exact bucket_fill.mono _ _ _ _ _ _ _ _
      | exact LeO.none _
      | refine LeO.ite ?_ ?_
      | refine LeO.bind ?_ (fun _ => ?_)
set_option maxHeartbeats 8000000 in
set_option maxRecDepth 100000 in
theorem bucket_Refill.calls (k : Nat) (a0_0 : Int) (a0_1 : Int) (a0_2 : Int) (a0_3 : Int) (a0_4 : Int) (a0_5 : Int) (a1 : Int) (r1 : Int) (r2 : Int) (r3 : Int) (r4 : Int) (r5 : Int) (r6 : Int) (r7 : Int) (w : World) (h : bucket_Refill.f k a0_0 a0_1 a0_2 a0_3 a0_4 a0_5 a1 = some (r1, r2, r3, r4, r5, r6, r7)) :
  Calls Try.prog 42 #[.agg #[.int .i64 a0_0, .int .i64 a0_1, .int .i64 a0_2, .int .i64 a0_3, .int .i64 a0_4, .int .u64 a0_5], .int .u64 a1] w fun e w' => e = .returned (.tuple #[.agg #[.int .i64 r1, .int .i64 r2, .int .i64 r3, .int .i64 r4, .int .i64 r5, .int .u64 r6], .int .i64 r7]) ∧ Below w.heap.size w w' := by
 have hu32 := Try.underlying32
 have HB := Aside0.mk (Below.refl w.heap.size w)
 have H : ((bucket_Check.f a0_0 a0_1 a0_2 a0_3 a0_4 a0_5).bind fun t159 => (if t159 = 0 then ((bucket_fill.f k a0_0 a0_1 a0_2 a0_3 a0_4 a0_5 a1).bind fun bt160 => (some (bt160.1, bt160.2.1, bt160.2.2.1, bt160.2.2.2.1, bt160.2.2.2.2.1, bt160.2.2.2.2.2, 0))) else (some (0, 0, 0, 0, 0, 0, t159)))) = some (r1, r2, r3, r4, r5, r6, r7) := h
 clear h
 have H0_ := bo_ H; clear H; obtain ⟨t159, A3, H⟩ := H0_
 try dsimp only at H
 by_cases c4 : t159 = 0
 ·rw [if_pos c4] at H
  have c4b0 : (t159 == 0) = true := beq_iff_eq.mpr c4
  have c4b1 : (t159 != 0) = false := bne_eq_false_iff_eq.mpr c4
  clear c4
  have H0_ := bo_ H; clear H; obtain ⟨⟨t160, t161, t162, t163, t164, t165⟩, A5, H⟩ := H0_
  replace H : (some (t160, t161, t162, t163, t164, t165, 0)) = some (r1, r2, r3, r4, r5, r6, r7) := H
  simp only [Option.some.injEq, Prod.mk.injEq] at H
  obtain ⟨rfl, rfl, rfl, rfl, rfl, rfl, rfl⟩ := H
  go_enter Try.func42, Try.ntmps42
  go_wp2_with (first | ((with_reducible refine gate_dst (N := 2) rfl ?_); refine bx_ #[.int .i64 a0_0, .int .i64 a0_1, .int .i64 a0_2, .int .i64 a0_3, .int .i64 a0_4, .int .u64 a0_5] 32 ?_; intro gb157 hg w6 BK157 hb; have GW157 := bz_ w hg; have GE157 := GW157; replace HB := bs_ w hb; clear hb hg) | ((with_reducible refine gate_dst (N := 4) rfl ?_); refine bx_ #[.int .i64 0, .int .i64 0, .int .i64 0, .int .i64 0, .int .i64 0, .int .u64 0] 32 ?_; intro gb158 hg w7 BK158 hb; have GW158 := bz_ w hg; have GE158 := GW158; have NB157_158 := bn_ BK157 hg; have NB158_157 := bm_ BK157 hg; replace BK157 := bb_ BK157 hb; replace HB := bs_ w hb; clear hb hg; replace hn157_158 := NB157_158.out; replace hn158_157 := NB158_157.out; replace hc157 := ce6_ BK157) | ((with_reducible refine gate_callee (f := 31) rfl ?_); refine goesA_ (some 8) Try.func31 #[.agg #[.int .i64 a0_0, .int .i64 a0_1, .int .i64 a0_2, .int .i64 a0_3, .int .i64 a0_4, .int .u64 a0_5]] ?_; (with_reducible refine (bucket_Check.calls a0_0 a0_1 a0_2 a0_3 a0_4 a0_5 t159 _ A3.out).mono ?_); rintro e w10 ⟨rfl, hb⟩; refine ⟨_, rfl, ?_⟩; replace BK157 := bb_ BK157 hb; replace BK158 := bb_ BK158 hb; replace HB := bs_ w hb; clear hb; replace hc157 := ce6_ BK157) | ((with_reducible refine gate_callee (f := 49) rfl ?_); refine goesA_ (some 15) Try.func49 #[.agg #[.int .i64 a0_0, .int .i64 a0_1, .int .i64 a0_2, .int .i64 a0_3, .int .i64 a0_4, .int .u64 a0_5], .int .u64 a1] ?_; (with_reducible refine (bucket_fill.calls k a0_0 a0_1 a0_2 a0_3 a0_4 a0_5 a1 t160 t161 t162 t163 t164 t165 _ A5.out).mono ?_); rintro e w12 ⟨rfl, hb⟩; refine ⟨_, rfl, ?_⟩; replace BK157 := bb_ BK157 hb; replace BK158 := bb_ BK158 hb; replace HB := bs_ w hb; clear hb; replace hc158 := ce6_ BK158))
  refine bodyPost_ret (results_ct rfl _ _ gb158 32 #[.int .i64 t160, .int .i64 t161, .int .i64 t162, .int .i64 t163, .int .i64 t164, .int .u64 t165] (0, 0) _ rfl (bp6_ (bq_ BK158)) Try.underlying32 rfl (by kernel_rfl)) rfl ?_
  exact fi_
 ·rw [if_neg c4] at H
  have c4b0 : (t159 == 0) = false := beq_eq_false_iff_ne.mpr c4
  have c4b1 : (t159 != 0) = true := bne_iff_ne.mpr c4
  simp only [Option.some.injEq, Prod.mk.injEq] at H
  obtain ⟨rfl, rfl, rfl, rfl, rfl, rfl, rfl⟩ := H
  go_enter Try.func42, Try.ntmps42
  go_wp2_with (first | ((with_reducible refine gate_dst (N := 2) rfl ?_); refine bx_ #[.int .i64 a0_0, .int .i64 a0_1, .int .i64 a0_2, .int .i64 a0_3, .int .i64 a0_4, .int .u64 a0_5] 32 ?_; intro gb157 hg w14 BK157 hb; have GW157 := bz_ w hg; have GE157 := GW157; replace HB := bs_ w hb; clear hb hg) | ((with_reducible refine gate_dst (N := 4) rfl ?_); refine bx_ #[.int .i64 0, .int .i64 0, .int .i64 0, .int .i64 0, .int .i64 0, .int .u64 0] 32 ?_; intro gb158 hg w15 BK158 hb; have GW158 := bz_ w hg; have GE158 := GW158; have NB157_158 := bn_ BK157 hg; have NB158_157 := bm_ BK157 hg; replace BK157 := bb_ BK157 hb; replace HB := bs_ w hb; clear hb hg; replace hn157_158 := NB157_158.out; replace hn158_157 := NB158_157.out; replace hc157 := ce6_ BK157) | ((with_reducible refine gate_callee (f := 31) rfl ?_); refine goesA_ (some 8) Try.func31 #[.agg #[.int .i64 a0_0, .int .i64 a0_1, .int .i64 a0_2, .int .i64 a0_3, .int .i64 a0_4, .int .u64 a0_5]] ?_; (with_reducible refine (bucket_Check.calls a0_0 a0_1 a0_2 a0_3 a0_4 a0_5 t159 _ A3.out).mono ?_); rintro e w18 ⟨rfl, hb⟩; refine ⟨_, rfl, ?_⟩; replace BK157 := bb_ BK157 hb; replace BK158 := bb_ BK158 hb; replace HB := bs_ w hb; clear hb; replace hc158 := ce6_ BK158))
  refine bodyPost_ret (results_ct rfl _ _ gb158 32 #[.int .i64 0, .int .i64 0, .int .i64 0, .int .i64 0, .int .i64 0, .int .u64 0] (0, 0) _ rfl (bp6_ (bq_ BK158)) Try.underlying32 rfl (by kernel_rfl)) rfl ?_
  exact fi_

/-! ### levels_fill: function 34 -/
def levels_fill.l0 : Nat → Int → List (S32) → Int → Int → Option ((List (S32)))
  | 0, _, _, _, _ => none
  | k + 1, x1, x5, x10, x11 => if x11 < x10 then (if 0 ≤ x11 then (if x11 < (x5.length : Int) then ((bucket_Refill.f k ((rd_T32 x5 x11).f0.f0) ((rd_T32 x5 x11).f0.f1) ((rd_T32 x5 x11).f0.f2) ((rd_T32 x5 x11).f1) ((rd_T32 x5 x11).f2) ((rd_T32 x5 x11).f3) x1).bind fun bt170 => (levels_fill.l0 k x1 (x5.set (x11 : Int).toNat (⟨(⟨bt170.1, bt170.2.1, bt170.2.2.1⟩ : S30), bt170.2.2.2.1, bt170.2.2.2.2.1, bt170.2.2.2.2.2.1⟩ : S32)) x10 (wrap64 (x11 + 1)))) else (none)) else (none)) else (some x5)
def levels_fill.f (k : Nat) (l0 : List (S32)) (a1 : Int) : Option ((List (S32))) := (slices_Clone_api_Bucket.f l0).bind fun t166 => (levels_fill.l0 k a1 t166 (t166.length : Int) 0)
theorem levels_fill.mono_l : ∀ k, (∀ y0 y1 y2 y3, LeO (levels_fill.l0 k y0 y1 y2 y3) (levels_fill.l0 (k + 1) y0 y1 y2 y3))
  | 0 => fun _ _ _ _ r h => by simp [levels_fill.l0] at h
  | k + 1 => by
    have ih0 := levels_fill.mono_l k
    · intro y0 y1 y2 y3
      unfold levels_fill.l0
      repeat' first
      | (with_reducible exact ih0 _ _ _ _)
      | (with_reducible exact bucket_Refill.mono _ _ _ _ _ _ _ _)
      | (with_reducible exact LeO.refl _)
      | (with_reducible exact LeO.none _)
      | (with_reducible refine LeO.ite ?_ ?_)
      | (with_reducible refine LeO.bind ?_ (fun _ => ?_))
      | exact ih0 _ _ _ _
      | exact bucket_Refill.mono _ _ _ _ _ _ _ _
      | exact LeO.none _
      | refine LeO.ite ?_ ?_
      | refine LeO.bind ?_ (fun _ => ?_)
theorem levels_fill.mono : ∀ a0 a1 k, LeO (levels_fill.f k a0 a1) (levels_fill.f (k + 1) a0 a1) := by
  intro a0 a1 k
  have ih0 := levels_fill.mono_l k
  unfold levels_fill.f
  repeat' first
      | (with_reducible exact ih0 _ _ _ _)
      | (with_reducible exact bucket_Refill.mono _ _ _ _ _ _ _ _)
      | (with_reducible exact LeO.refl _)
      | (with_reducible exact LeO.none _)
      | (with_reducible refine LeO.ite ?_ ?_)
      | (with_reducible refine LeO.bind ?_ (fun _ => ?_))
      | exact ih0 _ _ _ _
      | exact bucket_Refill.mono _ _ _ _ _ _ _ _
      | exact LeO.none _
      | refine LeO.ite ?_ ?_
      | refine LeO.bind ?_ (fun _ => ?_)
set_option maxHeartbeats 8000000 in
set_option maxRecDepth 100000 in
theorem levels_fill.calls (k : Nat) (A0 : Option Addr) (c0 : Nat) (l0 : List (S32)) (a1 : Int) (r : List (S32)) (w : World) (hr0 : Kd.C k32 w A0 l0.length l0) (hc0 : l0.length ≤ c0) (h : levels_fill.f k l0 a1 = some r) :
  Calls Try.prog 34 #[.slice A0 l0.length c0, .int .u64 a1] w fun e w' => ∃ v0_ : Value, e = .returned (v0_) ∧ Kd.R k32 32 w' w.heap.size (fun _ => True) v0_ r ∧ Below w.heap.size w w' := by
 have hu32 := Try.underlying32
 have HR0 := Aside0.mk hr0
 have HC0 := Aside0.mk hc0
 clear hr0 hc0
 have HB := Aside0.mk (Below.refl w.heap.size w)
 have H : ((slices_Clone_api_Bucket.f l0).bind fun t166 => (levels_fill.l0 k a1 t166 (t166.length : Int) 0)) = some r := h
 clear h
 have H0_ := bo_ H; clear H; obtain ⟨t166, A3, H⟩ := H0_
 replace H : (levels_fill.l0 k a1 t166 (t166.length : Int) 0) = some r := H
 have H' := Aside0.mk H
 clear H
 go_enter Try.func34, Try.ntmps34
 go_wp2_with (first | ((with_reducible refine gate_callee (f := 18) rfl ?_); refine goesA_ (some 8) Try.func18 #[.slice A0 l0.length c0] ?_; (with_reducible refine (slices_Clone_api_Bucket.calls _ _ l0 t166 _ ?side1 ?side2 A3.out).mono ?_); (case side1 => exact ch_ HR0); (case side2 => exact HC0.out); rintro e w4 ⟨v167, rfl, ho0, hb⟩; refine ⟨_, rfl, ?_⟩; have HO168 := Aside0.mk (Kd.R_lower ho0 (below_size (hq_ HB))); replace HB := bs_ w hb; clear hb; (try clear ho0); obtain ⟨Ao5, co5, eo5⟩ := Kd.R_slice HO168.out; subst eo5))
 go_loopg [11] k (fun kq v11 w' => ∃ (x5_1 : List (S32)) (x11_1 : Int), v11 = .int .i64 x11_1 ∧ Aside0 (levels_fill.l0 kq a1 x5_1 (t166.length : Int) x11_1 = some r) ∧ Aside0 (kq ≤ k) ∧ Aside0 (Kd.R k32 32 w' w.heap.size (fun _ => True) (.slice Ao5 t166.length co5) x5_1) ∧ Aside0 (Below w.heap.size w w'))
 case atStart => exact ⟨(t166), (0), rf_, H', ⟨Nat.le_refl _⟩, ⟨rs_ HO168⟩, bw_⟩
 case round =>
  clear H'
  obtain ⟨x5_1, x11_1, rfl, HA, HK1, HO_5, HB⟩ := hrel
  have hl5_1 := (Kd.R_reads' HO_5.out).1
  rw [hl5_1] at HO_5
  (try simp only [hl5_1])
  cases gk with
  | zero => exact absurd HA.out (by simp [levels_fill.l0])
  | succ k1 =>
   have H := HA.out
   clear HA
   simp only [levels_fill.l0] at H
   by_cases c6 : x11_1 < (t166.length : Int)
   ·rw [if_pos c6] at H
    have c6b0 : decide (x11_1 < (t166.length : Int)) = true := decide_eq_true c6
    clear c6
    by_cases c7 : 0 ≤ x11_1
    rotate_left
    ·rw [if_neg c7] at H; exact absurd H (by simp)
    rw [if_pos c7] at H
    have c7b0 : decide (0 ≤ x11_1) = true := decide_eq_true c7
    clear c7
    by_cases c8 : x11_1 < (x5_1.length : Int)
    rotate_left
    ·rw [if_neg c8] at H; exact absurd H (by simp)
    rw [if_pos c8] at H
    have c8b0 : decide (x11_1 < (x5_1.length : Int)) = true := decide_eq_true c8
    clear c8
    have H0_ := bo_ H; clear H; obtain ⟨⟨t170, t171, t172, t173, t174, t175, t176⟩, A9, H⟩ := H0_
    replace H : (levels_fill.l0 k1 a1 (x5_1.set (x11_1 : Int).toNat (⟨(⟨t170, t171, t172⟩ : S30), t173, t174, t175⟩ : S32)) (t166.length : Int) (wrap64 (x11_1 + 1))) = some r := H
    obtain ⟨y177, hy177⟩ : ∃ y_ : List (S32), y_ = (x5_1.set (x11_1 : Int).toNat (⟨(⟨t170, t171, t172⟩ : S30), t173, t174, t175⟩ : S32)) := ⟨_, rfl⟩
    replace H : (levels_fill.l0 k1 a1 y177 (t166.length : Int) (wrap64 (x11_1 + 1))) = some r := by first | (rw [hy177]; with_reducible exact H) | (have H2_ := (Option.bind_some _ _).symm.trans H; rw [hy177]; with_reducible exact H2_) | (have H2_ := (Option.bind_some _ _).symm.trans H; with_reducible exact H2_) | with_reducible exact H | (rw [hy177]; exact H) | exact H
    have Ny177 := Aside0.mk hy177
    clear hy177
    have H' := Aside0.mk H
    clear H
    have p169 : 0 ≤ (x11_1 : Int) := of_decide_eq_true (by first | (with_reducible assumption) | assumption)
    have q169 : x11_1 < (x5_1.length : Int) := of_decide_eq_true (by first | (with_reducible assumption) | assumption)
    obtain ⟨ad169, e169, hx169_0, hx169_1, hx169_2, hx169_3, hx169_4, hx169_5⟩ := at_T32 (Kd.R_reads' HO_5.out).2.2 x11_1 p169 q169
    cases e169
    replace p169 := eq_true p169
    replace q169 := eq_true q169
    go_wp2_with (first | ((with_reducible refine gate_callee (f := 42) rfl ?_); refine goesA_ (some 22) Try.func42 #[.agg #[.int .i64 ((rd_T32 x5_1 x11_1).f0.f0), .int .i64 ((rd_T32 x5_1 x11_1).f0.f1), .int .i64 ((rd_T32 x5_1 x11_1).f0.f2), .int .i64 ((rd_T32 x5_1 x11_1).f1), .int .i64 ((rd_T32 x5_1 x11_1).f2), .int .u64 ((rd_T32 x5_1 x11_1).f3)], .int .u64 a1] ?_; (with_reducible refine (bucket_Refill.calls k1 ((rd_T32 x5_1 x11_1).f0.f0) ((rd_T32 x5_1 x11_1).f0.f1) ((rd_T32 x5_1 x11_1).f0.f2) ((rd_T32 x5_1 x11_1).f1) ((rd_T32 x5_1 x11_1).f2) ((rd_T32 x5_1 x11_1).f3) a1 t170 t171 t172 t173 t174 t175 t176 _ A9.out).mono ?_); rintro e w11 ⟨rfl, hb⟩; refine ⟨_, rfl, ?_⟩; replace HO_5 := rb_ HO_5 hb; replace HB := bs_ w hb; clear hb; have p10 : 0 ≤ (x11_1 : Int) := of_decide_eq_true (by first | (with_reducible assumption) | assumption); have q10 : (x11_1 : Int) < ((x5_1.length : Int) : Int) := of_decide_eq_true (by first | (with_reducible assumption) | assumption); obtain ⟨go10, co10, eo10, gb10, gl10, cl10, HG10⟩ := Kd.R_form HO_5.out (by omega); (first | cases eo10 | (injection eo10 with ea_ en_ ec_; (first | subst ea_ | (injection ea_ with ea_; subst ea_)); subst ec_; clear en_)); have GB10 := Aside0.mk gb10; have GG10 := Aside0.mk HG10; clear gb10 gl10 HG10; (first | simp only [add_plain] at hx169_0 | skip); (first | simp only [add_plain] at hx169_1 | skip); (first | simp only [add_plain] at hx169_2 | skip); (first | simp only [add_plain] at hx169_3 | skip); (first | simp only [add_plain] at hx169_4 | skip); (first | simp only [add_plain] at hx169_5 | skip); obtain ⟨ce10, hcl10, hM10, hcc10, hfr10⟩ := Kd.R_elem HO_5.out z32 (x11_1 : Int) p10 q10; obtain rfl := k32_openM hM10; have hx10_0 : w11.cell? ⟨go10, (x11_1 : Int).toNat * 6, none⟩ = some (.int .i64 ((rd_T32 x5_1 x11_1).f0.f0)) := hcc10 0 _ rfl; have hx10_1 : w11.cell? ⟨go10, (x11_1 : Int).toNat * 6 + 1, none⟩ = some (.int .i64 ((rd_T32 x5_1 x11_1).f0.f1)) := hcc10 1 _ rfl; have hx10_2 : w11.cell? ⟨go10, (x11_1 : Int).toNat * 6 + 2, none⟩ = some (.int .i64 ((rd_T32 x5_1 x11_1).f0.f2)) := hcc10 2 _ rfl; have hx10_3 : w11.cell? ⟨go10, (x11_1 : Int).toNat * 6 + 3, none⟩ = some (.int .i64 ((rd_T32 x5_1 x11_1).f1)) := hcc10 3 _ rfl; have hx10_4 : w11.cell? ⟨go10, (x11_1 : Int).toNat * 6 + 4, none⟩ = some (.int .i64 ((rd_T32 x5_1 x11_1).f2)) := hcc10 4 _ rfl; have hx10_5 : w11.cell? ⟨go10, (x11_1 : Int).toNat * 6 + 5, none⟩ = some (.int .u64 ((rd_T32 x5_1 x11_1).f3)) := hcc10 5 _ rfl; have hf10_0 : w11.frozen? ⟨go10, (x11_1 : Int).toNat * 6, none⟩ = false := hfr10 0; have hf10_1 : w11.frozen? ⟨go10, (x11_1 : Int).toNat * 6 + 1, none⟩ = false := hfr10 1; have hf10_2 : w11.frozen? ⟨go10, (x11_1 : Int).toNat * 6 + 2, none⟩ = false := hfr10 2; have hf10_3 : w11.frozen? ⟨go10, (x11_1 : Int).toNat * 6 + 3, none⟩ = false := hfr10 3; have hf10_4 : w11.frozen? ⟨go10, (x11_1 : Int).toNat * 6 + 4, none⟩ = false := hfr10 4; have hf10_5 : w11.frozen? ⟨go10, (x11_1 : Int).toNat * 6 + 5, none⟩ = false := hfr10 5; clear hcl10 hcc10 hfr10 hM10; replace p10 := eq_true p10; replace q10 := eq_true q10; have HX12 := Aside0.mk (show Kd.R k32 32 w11 w.heap.size (fun _ => True) (.slice (some ⟨go10, 0, none⟩) x5_1.length co5) x5_1 from (rs_ HO_5)); obtain ⟨ce12, hcl12, hM12, hcc12, hfr12⟩ := Kd.R_elem HX12.out z32 (x11_1 : Int) (of_decide_eq_true (by first | (with_reducible assumption) | assumption)) (by have h_ : (x11_1 : Int) < ((x5_1.length : Int) : Int) := of_decide_eq_true (by first | (with_reducible assumption) | assumption); first | exact h_ | (have e_ := (Kd.R_reads' HO_5.out).1; omega) | simpa using h_); obtain rfl := k32_openM hM12; have HP12 := Kd.R_seg HX12.out (x11_1 : Int) (of_decide_eq_true (by first | (with_reducible assumption) | assumption)) (by have h_ : (x11_1 : Int) < ((x5_1.length : Int) : Int) := of_decide_eq_true (by first | (with_reducible assumption) | assumption); first | exact h_ | (have e_ := (Kd.R_reads' HO_5.out).1; omega) | simpa using h_) (seg := [.int .i64 t170, .int .i64 t171, .int .i64 t172, .int .i64 t173, .int .i64 t174, .int .u64 t175]) (j := 0) hcl12 hcc12 (show 6 ≤ 6 from by decide) (x' := (⟨(⟨t170, t171, t172⟩ : S30), t173, t174, t175⟩ : S32)) (k32_mkM _ _ _ (⟨(⟨t170, t171, t172⟩ : S30), t173, t174, t175⟩ : S32) ) (fun _ hk => hk); have hx12_0 := hcc12 0 _ rfl; (try simp only [show (k32).sz = 6 from rfl, Nat.mul_one, Nat.add_zero] at hx12_0); have hf12_0 := hfr12 0; (try simp only [show (k32).sz = 6 from rfl, Nat.mul_one, Nat.add_zero] at hf12_0); have hx12_1 := hcc12 1 _ rfl; (try simp only [show (k32).sz = 6 from rfl, Nat.mul_one, Nat.add_zero] at hx12_1); have hf12_1 := hfr12 1; (try simp only [show (k32).sz = 6 from rfl, Nat.mul_one, Nat.add_zero] at hf12_1); have hx12_2 := hcc12 2 _ rfl; (try simp only [show (k32).sz = 6 from rfl, Nat.mul_one, Nat.add_zero] at hx12_2); have hf12_2 := hfr12 2; (try simp only [show (k32).sz = 6 from rfl, Nat.mul_one, Nat.add_zero] at hf12_2); have hx12_3 := hcc12 3 _ rfl; (try simp only [show (k32).sz = 6 from rfl, Nat.mul_one, Nat.add_zero] at hx12_3); have hf12_3 := hfr12 3; (try simp only [show (k32).sz = 6 from rfl, Nat.mul_one, Nat.add_zero] at hf12_3); have hx12_4 := hcc12 4 _ rfl; (try simp only [show (k32).sz = 6 from rfl, Nat.mul_one, Nat.add_zero] at hx12_4); have hf12_4 := hfr12 4; (try simp only [show (k32).sz = 6 from rfl, Nat.mul_one, Nat.add_zero] at hf12_4); have hx12_5 := hcc12 5 _ rfl; (try simp only [show (k32).sz = 6 from rfl, Nat.mul_one, Nat.add_zero] at hx12_5); have hf12_5 := hfr12 5; (try simp only [show (k32).sz = 6 from rfl, Nat.mul_one, Nat.add_zero] at hf12_5); clear hcl12 hcc12 hfr12 hM12) | ((with_reducible refine gate_store (t := 32) (p := 25) rfl ?_); refine store_event (t := 32) (p := 25) (v := ?vo_w13) (w1 := ((((((w11.setCell ⟨go10, (x11_1 : Int).toNat * 6, none⟩ (.int .i64 t170)).setCell ⟨go10, (x11_1 : Int).toNat * 6 + 1, none⟩ (.int .i64 t171)).setCell ⟨go10, (x11_1 : Int).toNat * 6 + 2, none⟩ (.int .i64 t172)).setCell ⟨go10, (x11_1 : Int).toNat * 6 + 3, none⟩ (.int .i64 t173)).setCell ⟨go10, (x11_1 : Int).toNat * 6 + 4, none⟩ (.int .i64 t174)).setCell ⟨go10, (x11_1 : Int).toNat * 6 + 5, none⟩ (.int .u64 t175))) ?hg ?ho ?hn ?hr ?_; (case ho => rfl); (case hg => rfl); (case hn => rfl); (case hr => first | (go_simp; done) | (go_simp; rfl)); intro w13 hw; have hg : w11.grownBy w13 (some go10) := (by rw [hw]; exact HP12.2); have hp_ : Kd.R k32 32 w13 w.heap.size (fun _ => True) (.slice (some ⟨go10, 0, none⟩) x5_1.length co5) y177 := (by rw [hw, Ny177.out]; exact HP12.1); clear HP12; replace HO_5 := Aside0.mk (hp_); replace HB := Aside0.mk ((by rw [hw]; exact below_set (below_set (below_set (below_set (below_set (below_set (HB.out) GB10.out) GB10.out) GB10.out) GB10.out) GB10.out) GB10.out : Below w.heap.size w w13)); clear hg hw hp_))
    (try simp only [← hl5_1])
    go_roundg k1
    case measure => have := HK1.out; omega
    case rel => exact ⟨(y177), (wrap64 (x11_1 + 1)), rf_, H', ⟨by have := HK1.out; omega⟩, ⟨by (try simp only [hl5_1]); (with_reducible repeat (first | apply Kd.R_alloc | apply Kd.R_drewN | apply Kd.R_drew)); exact HO_5.out⟩, bw_⟩
   ·rw [if_neg c6] at H
    have c6b0 : decide (x11_1 < (t166.length : Int)) = false := decide_eq_false c6
    (try rw [hl5_1] at c6b0)
    clear c6
    obtain rfl := Option.some.inj H
    go_wp2
    go_ret
    exact ⟨_, by first | rfl | (simp [errW_none, errW_some] <;> rfl) | (simp [*, errW_none, errW_some] <;> rfl), by (with_reducible repeat (first | apply Kd.R_alloc | apply Kd.R_drewN | apply Kd.R_drew)); exact HO_5.out, by repeat (first | (with_reducible first | exact HB.out | apply below_alloc | apply pw_below_drewN | apply below_drew1) | exact HB.out)⟩

-- NOT PRINTED: function 50 (slices_IndexFunc_api_Bucket)

-- NOT PRINTED: function 43 (slices_ContainsFunc_api_Bucket)

end Go.Proofs.Ytiifhbaabnpkeaa.X
