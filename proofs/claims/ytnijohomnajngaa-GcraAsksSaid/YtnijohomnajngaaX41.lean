-- written by xprint.py, a program of this session over the kit's print
import Derived.Test.YtnijohomnajngaaX0
import Derived.Test.YtnijohomnajngaaX14
import Derived.Test.YtnijohomnajngaaX16
import Derived.Test.YtnijohomnajngaaX17
import Derived.Test.YtnijohomnajngaaX28
import Derived.Test.YtnijohomnajngaaX35
import Derived.Test.YtnijohomnajngaaX40
namespace Go.Proofs.Ytnijohomnajngaa.X
open Go.RowKit Go.Proofs.YtnijohomnajngaaW.PrintWords Go.Proofs.YtnijohomnajngaaW.PrintLast Go.Proofs.YtnijohomnajngaaW.PrintMore
attribute [local go_sem] max2_int min2_int max_two min_two max_three min_three max_four min_four   -- for this text's walks alone
set_option linter.unusedVariables false
set_option linter.unusedSimpArgs false

/-! ### spigotref37_Wait: function 22 -/
def spigotref37_Wait.j0 : Nat → Int → Bool → Int → Int → Int → Int → Int → Int → Option (Int × Int)
  | 0, _, _, _, _, _, _, _, _ => none
  | k + 1, x1, x31, x490000, x490001, x490002, x490003, x490004, x490005 => if x31 = true then (some (18446744073709551615, 0)) else ((spigotref37_tokens.f x490000 x490001 x490002 x1).bind fun bt492 => ((spigotref37_sum.f x490003 x490004 bt492.1 bt492.2).bind fun bt494 => ((spigotref37_end.f x490000 x490001 x490002 x490005).bind fun bt496 => ((spigotref01_Sub.f k bt494.1 bt494.2 bt496.1 bt496.2).bind fun bt498 => ((spigotref01_Up.f k bt498.1 bt498.2.1 (IntKind.u64.wrap (x490001))).bind fun bt502 => (if bt502.1 > 0 then (some (18446744073709551615, 0)) else (if bt502.2.1 > (IntKind.u64.wrap (18446744073709551615 - x490005)) then (some (18446744073709551615, 0)) else (some (bt502.2.1, 0)))))))))
def spigotref37_Wait.f (k : Nat) (a0_0 : Int) (a0_1 : Int) (a0_2 : Int) (a0_3 : Int) (a0_4 : Int) (a0_5 : Int) (a1 : Int) : Option (Int × Int) := (spigotref37_Check.f k a0_0 a0_1 a0_2 a0_3 a0_4 a0_5).bind fun t490 => (if t490 = 0 then (if a1 < 0 then (some (0, 2)) else ((spigotref37_fits.f k a0_0 a0_1 a0_2 a0_3 a0_4 a0_5 a1).bind fun t491 => (if t491 = true then (some (0, 0)) else (if a1 > a0_0 then (spigotref37_Wait.j0 k a1 true a0_0 a0_1 a0_2 a0_3 a0_4 a0_5) else (spigotref37_Wait.j0 k a1 (a0_1 == 0) a0_0 a0_1 a0_2 a0_3 a0_4 a0_5))))) else (some (0, t490)))
theorem spigotref37_Wait.mono_l : ∀ k, (∀ y0 y1 y2 y3 y4 y5 y6 y7, LeO (spigotref37_Wait.j0 k y0 y1 y2 y3 y4 y5 y6 y7) (spigotref37_Wait.j0 (k + 1) y0 y1 y2 y3 y4 y5 y6 y7))
  | 0 => fun _ _ _ _ _ _ _ _ r h => by simp [spigotref37_Wait.j0] at h
  | k + 1 => by
    have ih0 := spigotref37_Wait.mono_l k
    · intro y0 y1 y2 y3 y4 y5 y6 y7
      unfold spigotref37_Wait.j0
      repeat' first
      | (with_reducible exact ih0 _ _ _ _ _ _ _ _)
      | (with_reducible exact spigotref01_Sub.mono _ _ _ _ _)
      | (with_reducible exact spigotref01_Up.mono _ _ _ _)
      | (with_reducible exact spigotref37_Check.mono _ _ _ _ _ _ _)
      | (with_reducible exact spigotref37_fits.mono _ _ _ _ _ _ _ _)
      | (with_reducible exact LeO.refl _)
      | (with_reducible exact LeO.none _)
      | (with_reducible refine LeO.ite ?_ ?_)
      | (with_reducible refine LeO.bind ?_ (fun _ => ?_))
      | exact ih0 _ _ _ _ _ _ _ _
      | exact spigotref01_Sub.mono _ _ _ _ _
      | exact spigotref01_Up.mono _ _ _ _
      | exact spigotref37_Check.mono _ _ _ _ _ _ _
      | exact spigotref37_fits.mono _ _ _ _ _ _ _ _
      | exact LeO.none _
      | refine LeO.ite ?_ ?_
      | refine LeO.bind ?_ (fun _ => ?_)
theorem spigotref37_Wait.mono : ∀ a0 a1 a2 a3 a4 a5 a6 k, LeO (spigotref37_Wait.f k a0 a1 a2 a3 a4 a5 a6) (spigotref37_Wait.f (k + 1) a0 a1 a2 a3 a4 a5 a6) := by
  intro a0 a1 a2 a3 a4 a5 a6 k
  have ih0 := spigotref37_Wait.mono_l k
  unfold spigotref37_Wait.f
  repeat' first
      | (with_reducible exact ih0 _ _ _ _ _ _ _ _)
      | (with_reducible exact spigotref01_Sub.mono _ _ _ _ _)
      | (with_reducible exact spigotref01_Up.mono _ _ _ _)
      | (with_reducible exact spigotref37_Check.mono _ _ _ _ _ _ _)
      | (with_reducible exact spigotref37_fits.mono _ _ _ _ _ _ _ _)
      | (with_reducible exact LeO.refl _)
      | (with_reducible exact LeO.none _)
      | (with_reducible refine LeO.ite ?_ ?_)
      | (with_reducible refine LeO.bind ?_ (fun _ => ?_))
      | exact ih0 _ _ _ _ _ _ _ _
      | exact spigotref01_Sub.mono _ _ _ _ _
      | exact spigotref01_Up.mono _ _ _ _
      | exact spigotref37_Check.mono _ _ _ _ _ _ _
      | exact spigotref37_fits.mono _ _ _ _ _ _ _ _
      | exact LeO.none _
      | refine LeO.ite ?_ ?_
      | refine LeO.bind ?_ (fun _ => ?_)
def spigotref37_Wait.T10 : Bool × List (List Nat × List Nat) := (true, [([], []), ([0], [0]), ([], []), ([2], [2]), ([], []), ([3, 4], [3, 4]), ([1, 5, 5], [1, 5]), ([], []), ([7], [7]), ([], []), ([9], [9]), ([8, 10, 6], [8, 10]), ([6, 11, 11], [6, 11]), ([12], [12]), ([13], [13]), ([13], [13]), ([], []), ([16, 14, 12, 0, 1, 2, 3, 4, 5, 6, 7, 8, 9, 10, 11, 12, 13, 14, 16], [14, 16]), ([15, 17, 0, 1, 2, 3, 4, 5, 6, 7, 8, 9, 10, 11, 12, 13, 14, 15, 16, 17], [15])])
def spigotref37_Wait.B10 : List Nat := [0, 1, 0, 4, 0, 28, 63, 0, 128, 0, 512, 2047, 4095, 8191, 16383, 16383, 0, 98303, 262143]
theorem spigotref37_Wait.tab10 : rtab .any (opsOf Try.f22 10) = spigotref37_Wait.T10 := by kernel_rfl
theorem spigotref37_Wait.bits10 : waitsOk spigotref37_Wait.T10.2 spigotref37_Wait.B10 = true := by kernel_rfl
set_option maxHeartbeats 8000000 in
set_option maxRecDepth 100000 in
theorem spigotref37_Wait.calls (k : Nat) (a0_0 : Int) (a0_1 : Int) (a0_2 : Int) (a0_3 : Int) (a0_4 : Int) (a0_5 : Int) (a1 : Int) (r1 : Int) (r2 : Int) (w : World) (h : spigotref37_Wait.f k a0_0 a0_1 a0_2 a0_3 a0_4 a0_5 a1 = some (r1, r2)) :
  Calls Try.prog 22 #[.agg #[.int .i64 a0_0, .int .i64 a0_1, .int .i64 a0_2, .int .u64 a0_3, .int .u64 a0_4, .int .u64 a0_5], .int .i64 a1] w fun e w' => e = .returned (.tuple #[.int .u64 r1, .int .i64 r2]) ∧ Below w.heap.size w w' := by
 have hu28 := Try.underlying28
 have hu26 := Try.underlying26
 have hu23 := Try.underlying23
 have HB := Aside0.mk (Below.refl w.heap.size w)
 have H : ((spigotref37_Check.f k a0_0 a0_1 a0_2 a0_3 a0_4 a0_5).bind fun t490 => (if t490 = 0 then (if a1 < 0 then (some (0, 2)) else ((spigotref37_fits.f k a0_0 a0_1 a0_2 a0_3 a0_4 a0_5 a1).bind fun t491 => (if t491 = true then (some (0, 0)) else (if a1 > a0_0 then (spigotref37_Wait.j0 k a1 true a0_0 a0_1 a0_2 a0_3 a0_4 a0_5) else (spigotref37_Wait.j0 k a1 (a0_1 == 0) a0_0 a0_1 a0_2 a0_3 a0_4 a0_5))))) else (some (0, t490)))) = some (r1, r2) := h
 clear h
 obtain ⟨t490, A3, H⟩ := bo_ H
 try dsimp only at H
 by_cases c4 : t490 = 0
 ·rw [if_pos c4] at H
  have c4b0 : (t490 == 0) = true := beq_iff_eq.mpr c4
  have c4b1 : (t490 != 0) = false := bne_eq_false_iff_eq.mpr c4
  clear c4
  by_cases c5 : a1 < 0
  ·rw [if_pos c5] at H
   have c5b0 : decide (a1 < 0) = true := decide_eq_true c5
   clear c5
   simp only [Option.some.injEq, Prod.mk.injEq] at H
   obtain ⟨rfl, rfl⟩ := H
   go_enter Try.func22, Try.ntmps22
   go_wp2_with (first | ((with_reducible refine gate_dst (N := 2) rfl ?_); refine bx_ #[.int .i64 a0_0, .int .i64 a0_1, .int .i64 a0_2, .int .u64 a0_3, .int .u64 a0_4, .int .u64 a0_5] 28 ?_; intro gb489 hg w6 BK489 hb; have GW489 := bz_ w hg; have GE489 := GW489; replace HB := bs_ w hb; clear hb hg; obtain ⟨_, _, _, _, _, _, _, _, _, _, _, _⟩ := ce6_ BK489) | ((with_reducible refine gate_callee (f := 16) rfl ?_); refine goesA_ (some 12) Try.func16 #[.agg #[.int .i64 a0_0, .int .i64 a0_1, .int .i64 a0_2, .int .u64 a0_3, .int .u64 a0_4, .int .u64 a0_5]] ?_; (with_reducible refine (spigotref37_Check.calls k a0_0 a0_1 a0_2 a0_3 a0_4 a0_5 t490 _ A3.out).mono ?_); rintro e w8 ⟨rfl, hb⟩; refine ⟨_, rfl, ?_⟩; replace BK489 := bb_ BK489 hb; replace HB := bs_ w hb; clear hb))
   go_ret2
   exact fi_
  ·rw [if_neg c5] at H
   have c5b0 : decide (a1 < 0) = false := decide_eq_false c5
   clear c5
   obtain ⟨t491, A9, H⟩ := bo_ H
   try dsimp only at H
   by_cases c10 : t491 = true
   ·subst c10
    replace H : (some (0, 0)) = some (r1, r2) := by rw [if_pos rfl] at H; exact H
    simp only [Option.some.injEq, Prod.mk.injEq] at H
    obtain ⟨rfl, rfl⟩ := H
    go_enter Try.func22, Try.ntmps22
    go_wp2_with (first | ((with_reducible refine gate_dst (N := 2) rfl ?_); refine bx_ #[.int .i64 a0_0, .int .i64 a0_1, .int .i64 a0_2, .int .u64 a0_3, .int .u64 a0_4, .int .u64 a0_5] 28 ?_; intro gb489 hg w11 BK489 hb; have GW489 := bz_ w hg; have GE489 := GW489; replace HB := bs_ w hb; clear hb hg; obtain ⟨_, _, _, _, _, _, _, _, _, _, _, _⟩ := ce6_ BK489) | ((with_reducible refine gate_callee (f := 16) rfl ?_); refine goesA_ (some 12) Try.func16 #[.agg #[.int .i64 a0_0, .int .i64 a0_1, .int .i64 a0_2, .int .u64 a0_3, .int .u64 a0_4, .int .u64 a0_5]] ?_; (with_reducible refine (spigotref37_Check.calls k a0_0 a0_1 a0_2 a0_3 a0_4 a0_5 t490 _ A3.out).mono ?_); rintro e w13 ⟨rfl, hb⟩; refine ⟨_, rfl, ?_⟩; replace BK489 := bb_ BK489 hb; replace HB := bs_ w hb; clear hb; obtain ⟨_, _, _, _, _, _, _, _, _, _, _, _⟩ := ce6_ BK489) | ((with_reducible refine gate_callee (f := 50) rfl ?_); refine goesA_ (some 20) Try.func50 #[.agg #[.int .i64 a0_0, .int .i64 a0_1, .int .i64 a0_2, .int .u64 a0_3, .int .u64 a0_4, .int .u64 a0_5], .int .i64 a1] ?_; (with_reducible refine (spigotref37_fits.calls k a0_0 a0_1 a0_2 a0_3 a0_4 a0_5 a1 true _ A9.out).mono ?_); rintro e w15 ⟨rfl, hb⟩; refine ⟨_, rfl, ?_⟩; replace BK489 := bb_ BK489 hb; replace HB := bs_ w hb; clear hb))
    go_ret2
    exact fi_
   ·replace c10 := Bool.eq_false_iff.mpr c10
    subst c10
    rw [if_neg (show ¬ (false = true) by decide)] at H
    try dsimp only at H
    have HC16 := Aside0.mk H
    clear H
    go_enter Try.func22, Try.ntmps22
    go_upto_region 8 with (first | ((with_reducible refine gate_dst (N := 2) rfl ?_); refine bx_ #[.int .i64 a0_0, .int .i64 a0_1, .int .i64 a0_2, .int .u64 a0_3, .int .u64 a0_4, .int .u64 a0_5] 28 ?_; intro gb489 hg w17 BK489 hb; have GW489 := bz_ w hg; have GE489 := GW489; replace HB := bs_ w hb; clear hb hg; obtain ⟨hcz18_0, hcz18_1, hcz18_2, hcz18_3, hcz18_4, hcz18_5, hfz18_0, hfz18_1, hfz18_2, hfz18_3, hfz18_4, hfz18_5⟩ := ce6_ BK489) | ((with_reducible refine gate_callee (f := 16) rfl ?_); refine goesA_ (some 12) Try.func16 #[.agg #[.int .i64 a0_0, .int .i64 a0_1, .int .i64 a0_2, .int .u64 a0_3, .int .u64 a0_4, .int .u64 a0_5]] ?_; (with_reducible refine (spigotref37_Check.calls k a0_0 a0_1 a0_2 a0_3 a0_4 a0_5 t490 _ A3.out).mono ?_); rintro e w19 ⟨rfl, hb⟩; refine ⟨_, rfl, ?_⟩; replace BK489 := bb_ BK489 hb; replace HB := bs_ w hb; clear hb; obtain ⟨hcz20_0, hcz20_1, hcz20_2, hcz20_3, hcz20_4, hcz20_5, hfz20_0, hfz20_1, hfz20_2, hfz20_3, hfz20_4, hfz20_5⟩ := ce6_ BK489) | ((with_reducible refine gate_callee (f := 50) rfl ?_); refine goesA_ (some 20) Try.func50 #[.agg #[.int .i64 a0_0, .int .i64 a0_1, .int .i64 a0_2, .int .u64 a0_3, .int .u64 a0_4, .int .u64 a0_5], .int .i64 a1] ?_; (with_reducible refine (spigotref37_fits.calls k a0_0 a0_1 a0_2 a0_3 a0_4 a0_5 a1 false _ A9.out).mono ?_); rintro e w21 ⟨rfl, hb⟩; refine ⟨_, rfl, ?_⟩; replace BK489 := bb_ BK489 hb; replace HB := bs_ w hb; clear hb))
    (try simp only [Act.put, List.setIfInBounds_toArray, List.set_cons_zero, List.set_cons_succ])
    go_cut [31] (fun v31 wc => ∃ (kq : Nat) (x31_15 : Bool), v31 = .bool x31_15 ∧ Aside0 (spigotref37_Wait.j0 kq a1 x31_15 a0_0 a0_1 a0_2 a0_3 a0_4 a0_5 = some (r1, r2)) ∧ Aside0 (kq ≤ k) ∧ Aside0 (wc.heap[gb489]? = some (.cells #[.int .i64 a0_0, .int .i64 a0_1, .int .i64 a0_2, .int .u64 a0_3, .int .u64 a0_4, .int .u64 a0_5] 28 (0, 0))) ∧ Aside0 (Below w.heap.size w wc))
    case first =>
     have H := HC16.out
     clear HC16
     by_cases c22 : a1 > a0_0
     ·rw [if_pos c22] at H
      have c22b0 : decide (a0_0 < a1) = true := decide_eq_true c22
      clear c22
      (first | rw [c22b0] | (simp only [i64_w, i32_w]; rw [c22b0]) | skip)
      have H' := Aside0.mk H
      clear H
      obtain ⟨_, _, _, _, _, _, _, _, _, _, _, _⟩ := ce6_ BK489
      go_wp2
      go_meet
      case rel => exact ⟨_, (true), rf_, H', al_, ⟨bq_ BK489⟩, bw_⟩
     ·rw [if_neg c22] at H
      have c22b0 : decide (a0_0 < a1) = false := decide_eq_false c22
      clear c22
      (first | rw [c22b0] | (simp only [i64_w, i32_w]; rw [c22b0]) | skip)
      have H' := Aside0.mk H
      clear H
      obtain ⟨_, _, _, _, _, _, _, _, _, _, _, _⟩ := ce6_ BK489
      go_wp2
      go_meet
      case rel => exact ⟨_, ((a0_1 == 0)), rf_, H', al_, ⟨bq_ BK489⟩, bw_⟩
    case rest =>
     clear HC16
     try clear c4
     try clear c4b0
     try clear c4b1
     try clear c5
     try clear c5b0
     try clear c10
     try clear hcz18_0
     try clear hcz18_1
     try clear hcz18_2
     try clear hcz18_3
     try clear hcz18_4
     try clear hcz18_5
     try clear hcz20_0
     try clear hcz20_1
     try clear hcz20_2
     try clear hcz20_3
     try clear hcz20_4
     try clear hcz20_5
     try clear hfz18_0
     try clear hfz18_1
     try clear hfz18_2
     try clear hfz18_3
     try clear hfz18_4
     try clear hfz18_5
     try clear hfz20_0
     try clear hfz20_1
     try clear hfz20_2
     try clear hfz20_3
     try clear hfz20_4
     try clear hfz20_5
     obtain ⟨kq, x31_15, rfl, HA, HJ15, BK489, HB⟩ := hcut
     cases kq with
     | zero => exact absurd HA.out (by simp [spigotref37_Wait.j0])
     | succ kj15 =>
      have H := HA.out
      clear HA
      simp only [spigotref37_Wait.j0] at H
      by_cases c25 : x31_15 = true
      ·subst c25
       replace H : (some (18446744073709551615, 0)) = some (r1, r2) := by rw [if_pos rfl] at H; exact H
       simp only [Option.some.injEq, Prod.mk.injEq] at H
       obtain ⟨rfl, rfl⟩ := H
       go_wp2
       go_ret2
       exact fi_
      ·replace c25 := Bool.eq_false_iff.mpr c25
       subst c25
       rw [if_neg (show ¬ (false = true) by decide)] at H
       try dsimp only at H
       obtain ⟨⟨t492, t493⟩, A26, H⟩ := bo_ H
       try dsimp only at H
       obtain ⟨⟨t494, t495⟩, A27, H⟩ := bo_ H
       try dsimp only at H
       obtain ⟨⟨t496, t497⟩, A28, H⟩ := bo_ H
       try dsimp only at H
       obtain ⟨⟨t498, t499, t500⟩, A29, H⟩ := bo_ H
       try dsimp only at H
       obtain ⟨⟨t502, t503, t504⟩, A30, H⟩ := bo_ H
       try dsimp only at H
       by_cases c31 : t502 > 0
       ·rw [if_pos c31] at H
        have c31b0 : decide (0 < t502) = true := decide_eq_true c31
        clear c31
        simp only [Option.some.injEq, Prod.mk.injEq] at H
        obtain ⟨rfl, rfl⟩ := H
        try go_wp2
        replace BK489 := Aside0.mk (blk_drew BK489.out)
        replace HB := Aside0.mk (below_drew1 HB.out)
        refine start_ (n := 19) (S := fun w' => w'.cell? ⟨gb489, 0, none⟩ = some (.int .i64 a0_0) ∧ w'.cell? ⟨gb489, 1, none⟩ = some (.int .i64 a0_1) ∧ w'.cell? ⟨gb489, 2, none⟩ = some (.int .i64 a0_2) ∧ w'.cell? ⟨gb489, 3, none⟩ = some (.int .u64 a0_3) ∧ w'.cell? ⟨gb489, 4, none⟩ = some (.int .u64 a0_4) ∧ w'.cell? ⟨gb489, 5, none⟩ = some (.int .u64 a0_5)) (ds := []) (bl_ 19 0) (by kernel_rfl) rfl (by kernel_rfl) (cc6_ BK489) (fun hHeld => ?_); refine with_tabW spigotref37_Wait.tab10 spigotref37_Wait.bits10 (fun HT_ HW_ => ?_)
        generalize wc.drew = w32 at BK489 HB hHeld ⊢
        refine pa_ 0 (some 33) (bl_ 19 1) HT_ ?_
        refine pa_ 2 (some 35) (bl_ 19 5) HT_ ?_
        refine pa_ 4 (some 37) (bl_ 19 21) HT_ ?_
        refine pa_ 7 (some 40) (bl_ 19 149) HT_ ?_
        refine pa_ 9 (some 42) (bl_ 19 661) HT_ ?_
        refine ta_ 1 (some 34) (bl_ 19 663) HT_ HW_ hHeld ?_
        refine ta_ 3 (some 36) (bl_ 19 671) HT_ HW_ hHeld ?_
        refine ta_ 8 (some 41) (bl_ 19 927) HT_ HW_ hHeld ?_
        refine ta_ 10 (some 43) (bl_ 19 1951) HT_ HW_ hHeld ?_
        refine join_ (σ := Nat) 2 (bl_ 19 131071) (fun s_ => [(38, .agg #[.int .u64 t492, .int .u64 t493]), (39, .agg #[.int .u64 t494, .int .u64 t495]), (44, .agg #[.int .u64 t496, .int .u64 t497]), (45, .tuple #[.agg #[.int .u64 t498, .int .u64 t499], .int .i64 t500]), (7, .pointer (some ⟨s_, 0, none⟩)), (32, .tuple #[.agg #[.int .u64 t498, .int .u64 t499], .int .i64 t500]), (46, .agg #[.int .u64 t498, .int .u64 t499]), (47, .int .i64 t500)]) (fun s_ w' => (w'.cell? ⟨gb489, 0, none⟩ = some (.int .i64 a0_0) ∧ w'.cell? ⟨gb489, 1, none⟩ = some (.int .i64 a0_1) ∧ w'.cell? ⟨gb489, 2, none⟩ = some (.int .i64 a0_2) ∧ w'.cell? ⟨gb489, 3, none⟩ = some (.int .u64 a0_3) ∧ w'.cell? ⟨gb489, 4, none⟩ = some (.int .u64 a0_4) ∧ w'.cell? ⟨gb489, 5, none⟩ = some (.int .u64 a0_5)) ∧ (w'.heap[gb489]? = some (.cells #[.int .i64 a0_0, .int .i64 a0_1, .int .i64 a0_2, .int .u64 a0_3, .int .u64 a0_4, .int .u64 a0_5] 28 (0, 0))) ∧ (w'.heap[s_]? = some (.cells #[.int .u64 0, .int .u64 0] 26 (0, 0))) ∧ (w.heap.size ≤ s_) ∧ (w.heap.size ≤ s_) ∧ (gb489 ≠ s_) ∧ (s_ ≠ gb489) ∧ (Below w.heap.size w w')) ?_ ?_
        rotate_left
        ·intro hJ5_6_11_12_16
         refine join_ (σ := Unit) 3 (bl_ 19 65535) (fun s_ => [(38, .agg #[.int .u64 t492, .int .u64 t493]), (39, .agg #[.int .u64 t494, .int .u64 t495]), (44, .agg #[.int .u64 t496, .int .u64 t497]), (45, .tuple #[.agg #[.int .u64 t498, .int .u64 t499], .int .i64 t500]), (32, .tuple #[.agg #[.int .u64 t498, .int .u64 t499], .int .i64 t500]), (46, .agg #[.int .u64 t498, .int .u64 t499]), (47, .int .i64 t500)]) (fun s_ w' => (w'.cell? ⟨gb489, 0, none⟩ = some (.int .i64 a0_0) ∧ w'.cell? ⟨gb489, 1, none⟩ = some (.int .i64 a0_1) ∧ w'.cell? ⟨gb489, 2, none⟩ = some (.int .i64 a0_2) ∧ w'.cell? ⟨gb489, 3, none⟩ = some (.int .u64 a0_3) ∧ w'.cell? ⟨gb489, 4, none⟩ = some (.int .u64 a0_4) ∧ w'.cell? ⟨gb489, 5, none⟩ = some (.int .u64 a0_5)) ∧ (w'.heap[gb489]? = some (.cells #[.int .i64 a0_0, .int .i64 a0_1, .int .i64 a0_2, .int .u64 a0_3, .int .u64 a0_4, .int .u64 a0_5] 28 (0, 0))) ∧ (Below w.heap.size w w')) ?_ ?_
         rotate_left
         ·intro hJ5_6_11_12
          refine join_ (σ := Nat) 6 (bl_ 19 69631) (fun s_ => [(38, .agg #[.int .u64 t492, .int .u64 t493]), (39, .agg #[.int .u64 t494, .int .u64 t495]), (44, .agg #[.int .u64 t496, .int .u64 t497]), (7, .pointer (some ⟨s_, 0, none⟩))]) (fun s_ w' => (w'.cell? ⟨gb489, 0, none⟩ = some (.int .i64 a0_0) ∧ w'.cell? ⟨gb489, 1, none⟩ = some (.int .i64 a0_1) ∧ w'.cell? ⟨gb489, 2, none⟩ = some (.int .i64 a0_2) ∧ w'.cell? ⟨gb489, 3, none⟩ = some (.int .u64 a0_3) ∧ w'.cell? ⟨gb489, 4, none⟩ = some (.int .u64 a0_4) ∧ w'.cell? ⟨gb489, 5, none⟩ = some (.int .u64 a0_5)) ∧ (w'.heap[gb489]? = some (.cells #[.int .i64 a0_0, .int .i64 a0_1, .int .i64 a0_2, .int .u64 a0_3, .int .u64 a0_4, .int .u64 a0_5] 28 (0, 0))) ∧ (w'.heap[s_]? = some (.cells #[.int .u64 0, .int .u64 0] 26 (0, 0))) ∧ (w.heap.size ≤ s_) ∧ (w.heap.size ≤ s_) ∧ (gb489 ≠ s_) ∧ (s_ ≠ gb489) ∧ (Below w.heap.size w w')) ?_ ?_
          rotate_left
          ·intro hJ5_6_11_16
           refine join_ (σ := Unit) 7 (bl_ 19 4095) (fun s_ => [(38, .agg #[.int .u64 t492, .int .u64 t493]), (39, .agg #[.int .u64 t494, .int .u64 t495]), (44, .agg #[.int .u64 t496, .int .u64 t497])]) (fun s_ w' => (w'.cell? ⟨gb489, 0, none⟩ = some (.int .i64 a0_0) ∧ w'.cell? ⟨gb489, 1, none⟩ = some (.int .i64 a0_1) ∧ w'.cell? ⟨gb489, 2, none⟩ = some (.int .i64 a0_2) ∧ w'.cell? ⟨gb489, 3, none⟩ = some (.int .u64 a0_3) ∧ w'.cell? ⟨gb489, 4, none⟩ = some (.int .u64 a0_4) ∧ w'.cell? ⟨gb489, 5, none⟩ = some (.int .u64 a0_5)) ∧ (w'.heap[gb489]? = some (.cells #[.int .i64 a0_0, .int .i64 a0_1, .int .i64 a0_2, .int .u64 a0_3, .int .u64 a0_4, .int .u64 a0_5] 28 (0, 0))) ∧ (Below w.heap.size w w')) ?_ ?_
           rotate_left
           ·intro hJ5_6_11
            refine join_ (σ := Nat) 7 (bl_ 19 67583) (fun s_ => [(38, .agg #[.int .u64 t492, .int .u64 t493]), (39, .agg #[.int .u64 t494, .int .u64 t495]), (7, .pointer (some ⟨s_, 0, none⟩))]) (fun s_ w' => (w'.cell? ⟨gb489, 0, none⟩ = some (.int .i64 a0_0) ∧ w'.cell? ⟨gb489, 1, none⟩ = some (.int .i64 a0_1) ∧ w'.cell? ⟨gb489, 2, none⟩ = some (.int .i64 a0_2) ∧ w'.cell? ⟨gb489, 3, none⟩ = some (.int .u64 a0_3) ∧ w'.cell? ⟨gb489, 4, none⟩ = some (.int .u64 a0_4) ∧ w'.cell? ⟨gb489, 5, none⟩ = some (.int .u64 a0_5)) ∧ (w'.heap[gb489]? = some (.cells #[.int .i64 a0_0, .int .i64 a0_1, .int .i64 a0_2, .int .u64 a0_3, .int .u64 a0_4, .int .u64 a0_5] 28 (0, 0))) ∧ (w'.heap[s_]? = some (.cells #[.int .u64 0, .int .u64 0] 26 (0, 0))) ∧ (w.heap.size ≤ s_) ∧ (w.heap.size ≤ s_) ∧ (gb489 ≠ s_) ∧ (s_ ≠ gb489) ∧ (Below w.heap.size w w')) ?_ ?_
            rotate_left
            ·intro hJ5_6_16
             refine join_ (σ := Unit) 8 (bl_ 19 2047) (fun s_ => [(38, .agg #[.int .u64 t492, .int .u64 t493]), (39, .agg #[.int .u64 t494, .int .u64 t495])]) (fun s_ w' => (w'.cell? ⟨gb489, 0, none⟩ = some (.int .i64 a0_0) ∧ w'.cell? ⟨gb489, 1, none⟩ = some (.int .i64 a0_1) ∧ w'.cell? ⟨gb489, 2, none⟩ = some (.int .i64 a0_2) ∧ w'.cell? ⟨gb489, 3, none⟩ = some (.int .u64 a0_3) ∧ w'.cell? ⟨gb489, 4, none⟩ = some (.int .u64 a0_4) ∧ w'.cell? ⟨gb489, 5, none⟩ = some (.int .u64 a0_5)) ∧ (w'.heap[gb489]? = some (.cells #[.int .i64 a0_0, .int .i64 a0_1, .int .i64 a0_2, .int .u64 a0_3, .int .u64 a0_4, .int .u64 a0_5] 28 (0, 0))) ∧ (Below w.heap.size w w')) ?_ ?_
             rotate_left
             ·intro hJ5_6
              refine join_ (σ := Nat) 8 (bl_ 19 67519) (fun s_ => [(38, .agg #[.int .u64 t492, .int .u64 t493]), (7, .pointer (some ⟨s_, 0, none⟩))]) (fun s_ w' => (w'.cell? ⟨gb489, 0, none⟩ = some (.int .i64 a0_0) ∧ w'.cell? ⟨gb489, 1, none⟩ = some (.int .i64 a0_1) ∧ w'.cell? ⟨gb489, 2, none⟩ = some (.int .i64 a0_2) ∧ w'.cell? ⟨gb489, 3, none⟩ = some (.int .u64 a0_3) ∧ w'.cell? ⟨gb489, 4, none⟩ = some (.int .u64 a0_4) ∧ w'.cell? ⟨gb489, 5, none⟩ = some (.int .u64 a0_5)) ∧ (w'.heap[gb489]? = some (.cells #[.int .i64 a0_0, .int .i64 a0_1, .int .i64 a0_2, .int .u64 a0_3, .int .u64 a0_4, .int .u64 a0_5] 28 (0, 0))) ∧ (w'.heap[s_]? = some (.cells #[.int .u64 0, .int .u64 0] 26 (0, 0))) ∧ (w.heap.size ≤ s_) ∧ (w.heap.size ≤ s_) ∧ (gb489 ≠ s_) ∧ (s_ ≠ gb489) ∧ (Below w.heap.size w w')) ?_ ?_
              rotate_left
              ·intro hJ5_16
               refine join_ (σ := Unit) 9 (bl_ 19 1983) (fun s_ => [(38, .agg #[.int .u64 t492, .int .u64 t493])]) (fun s_ w' => (w'.cell? ⟨gb489, 0, none⟩ = some (.int .i64 a0_0) ∧ w'.cell? ⟨gb489, 1, none⟩ = some (.int .i64 a0_1) ∧ w'.cell? ⟨gb489, 2, none⟩ = some (.int .i64 a0_2) ∧ w'.cell? ⟨gb489, 3, none⟩ = some (.int .u64 a0_3) ∧ w'.cell? ⟨gb489, 4, none⟩ = some (.int .u64 a0_4) ∧ w'.cell? ⟨gb489, 5, none⟩ = some (.int .u64 a0_5)) ∧ (w'.heap[gb489]? = some (.cells #[.int .i64 a0_0, .int .i64 a0_1, .int .i64 a0_2, .int .u64 a0_3, .int .u64 a0_4, .int .u64 a0_5] 28 (0, 0))) ∧ (Below w.heap.size w w')) ?_ ?_
               rotate_left
               ·intro hJ5
                refine join_ (σ := Nat) 9 (bl_ 19 67487) (fun s_ => [(7, .pointer (some ⟨s_, 0, none⟩))]) (fun s_ w' => (w'.cell? ⟨gb489, 0, none⟩ = some (.int .i64 a0_0) ∧ w'.cell? ⟨gb489, 1, none⟩ = some (.int .i64 a0_1) ∧ w'.cell? ⟨gb489, 2, none⟩ = some (.int .i64 a0_2) ∧ w'.cell? ⟨gb489, 3, none⟩ = some (.int .u64 a0_3) ∧ w'.cell? ⟨gb489, 4, none⟩ = some (.int .u64 a0_4) ∧ w'.cell? ⟨gb489, 5, none⟩ = some (.int .u64 a0_5)) ∧ (w'.heap[gb489]? = some (.cells #[.int .i64 a0_0, .int .i64 a0_1, .int .i64 a0_2, .int .u64 a0_3, .int .u64 a0_4, .int .u64 a0_5] 28 (0, 0))) ∧ (w'.heap[s_]? = some (.cells #[.int .u64 0, .int .u64 0] 26 (0, 0))) ∧ (w.heap.size ≤ s_) ∧ (w.heap.size ≤ s_) ∧ (gb489 ≠ s_) ∧ (s_ ≠ gb489) ∧ (Below w.heap.size w w')) ?_ ?_
                rotate_left
                ·intro hJ16
                 refine tw_ 5 16 (some 38) (some 7) (bl_ 19 1983) (bl_ 19 67487) HT_ (fun K hK => ?_) fun K hK => ?_
                 ·refine goesB_ Try.func40 #[.agg #[.int .i64 a0_0, .int .i64 a0_1, .int .i64 a0_2], .int .i64 a1] ?_
                  with_reducible refine (spigotref37_tokens.calls a0_0 a0_1 a0_2 a1 t492 t493 _ A26.out).mono ?_
                  rintro e w33 ⟨rfl, hb⟩
                  refine ⟨_, rfl, ?_⟩
                  replace BK489 := bb_ BK489 hb
                  replace HB := bs_ w hb
                  clear hb
                  refine hK.out _ _ (cc6_ BK489) (fun hHeld => ?_)
                  clear hK K
                  refine nm_ (some 38) ?_
                  exact no_ (hJ5 () _ ⟨hHeld, (bq_ BK489), bh_⟩)
                 ·refine bs2_ #[.int .u64 0, .int .u64 0] 26 ?_
                  intro gb501 hg w33 BK501 hb
                  have GW501 := bz_ w hg
                  have GE501 := GW501
                  have NB489_501 := bn_ BK489 hg
                  have NB501_489 := bm_ BK489 hg
                  replace BK489 := bb_ BK489 hb
                  replace HB := bs_ w hb
                  clear hb hg
                  refine hK.out _ _ (cc6_ BK489) (fun hHeld => ?_)
                  clear hK K
                  refine nm_ (some 7) ?_
                  exact no_ (hJ16 (gb501) _ ⟨hHeld, (bq_ BK489), (bq_ BK501), GW501.out, GE501.out, NB489_501.out, NB501_489.out, bh_⟩)
                ·rintro gb501 w34 ⟨hS_, h0_, h1_, h2_, h3_, h4_, h5_, h6_⟩
                 have BK501 := Aside0.mk h1_
                 have GW501 := Aside0.mk h2_
                 have GE501 := Aside0.mk h3_
                 have NB489_501 := Aside0.mk h4_
                 have NB501_489 := Aside0.mk h5_
                 replace BK489 := Aside0.mk h0_
                 replace HB := Aside0.mk h6_
                 clear h0_ h1_ h2_ h3_ h4_ h5_ h6_
                 have hHeld := hS_
                 refine nq_ ?_
                 refine oa_ 5 (some 38) (bl_ 19 67519) HT_ fun K hK => ?_
                 refine goesB_ Try.func40 #[.agg #[.int .i64 a0_0, .int .i64 a0_1, .int .i64 a0_2], .int .i64 a1] ?_
                 with_reducible refine (spigotref37_tokens.calls a0_0 a0_1 a0_2 a1 t492 t493 _ A26.out).mono ?_
                 rintro e w35 ⟨rfl, hb⟩
                 refine ⟨_, rfl, ?_⟩
                 replace BK489 := bb_ BK489 hb
                 replace BK501 := bb_ BK501 hb
                 replace HB := bs_ w hb
                 clear hb
                 refine hK.out _ _ (cc6_ BK489) (fun hHeld => ?_)
                 clear hK K
                 refine nm_ (some 38) ?_
                 exact no_ (hJ5_16 (gb501) _ ⟨hHeld, (bq_ BK489), (bq_ BK501), GW501.out, GE501.out, NB489_501.out, NB501_489.out, bh_⟩)
               ·rintro _ w34 ⟨hS_, h0_, h1_⟩
                replace BK489 := Aside0.mk h0_
                replace HB := Aside0.mk h1_
                clear h0_ h1_
                have hHeld := hS_
                refine nq_ ?_
                refine tw_ 6 16 (some 39) (some 7) (bl_ 19 2047) (bl_ 19 67519) HT_ (fun K hK => ?_) fun K hK => ?_
                ·refine goesB_ Try.func39 #[.agg #[.int .u64 a0_3, .int .u64 a0_4], .agg #[.int .u64 t492, .int .u64 t493]] ?_
                 with_reducible refine (spigotref37_sum.calls a0_3 a0_4 t492 t493 t494 t495 _ A27.out).mono ?_
                 rintro e w35 ⟨rfl, hb⟩
                 refine ⟨_, rfl, ?_⟩
                 replace BK489 := bb_ BK489 hb
                 replace HB := bs_ w hb
                 clear hb
                 refine hK.out _ _ (cc6_ BK489) (fun hHeld => ?_)
                 clear hK K
                 refine nm_ (some 39) ?_
                 exact no_ (hJ5_6 () _ ⟨hHeld, (bq_ BK489), bh_⟩)
                ·refine bs2_ #[.int .u64 0, .int .u64 0] 26 ?_
                 intro gb501 hg w35 BK501 hb
                 have GW501 := bz_ w hg
                 have GE501 := GW501
                 have NB489_501 := bn_ BK489 hg
                 have NB501_489 := bm_ BK489 hg
                 replace BK489 := bb_ BK489 hb
                 replace HB := bs_ w hb
                 clear hb hg
                 refine hK.out _ _ (cc6_ BK489) (fun hHeld => ?_)
                 clear hK K
                 refine nm_ (some 7) ?_
                 exact no_ (hJ5_16 (gb501) _ ⟨hHeld, (bq_ BK489), (bq_ BK501), GW501.out, GE501.out, NB489_501.out, NB501_489.out, bh_⟩)
              ·rintro gb501 w35 ⟨hS_, h0_, h1_, h2_, h3_, h4_, h5_, h6_⟩
               have BK501 := Aside0.mk h1_
               have GW501 := Aside0.mk h2_
               have GE501 := Aside0.mk h3_
               have NB489_501 := Aside0.mk h4_
               have NB501_489 := Aside0.mk h5_
               replace BK489 := Aside0.mk h0_
               replace HB := Aside0.mk h6_
               clear h0_ h1_ h2_ h3_ h4_ h5_ h6_
               have hHeld := hS_
               refine nq_ ?_
               refine oa_ 6 (some 39) (bl_ 19 67583) HT_ fun K hK => ?_
               refine goesB_ Try.func39 #[.agg #[.int .u64 a0_3, .int .u64 a0_4], .agg #[.int .u64 t492, .int .u64 t493]] ?_
               with_reducible refine (spigotref37_sum.calls a0_3 a0_4 t492 t493 t494 t495 _ A27.out).mono ?_
               rintro e w36 ⟨rfl, hb⟩
               refine ⟨_, rfl, ?_⟩
               replace BK489 := bb_ BK489 hb
               replace BK501 := bb_ BK501 hb
               replace HB := bs_ w hb
               clear hb
               refine hK.out _ _ (cc6_ BK489) (fun hHeld => ?_)
               clear hK K
               refine nm_ (some 39) ?_
               exact no_ (hJ5_6_16 (gb501) _ ⟨hHeld, (bq_ BK489), (bq_ BK501), GW501.out, GE501.out, NB489_501.out, NB501_489.out, bh_⟩)
             ·rintro _ w35 ⟨hS_, h0_, h1_⟩
              replace BK489 := Aside0.mk h0_
              replace HB := Aside0.mk h1_
              clear h0_ h1_
              have hHeld := hS_
              refine nq_ ?_
              refine tw_ 11 16 (some 44) (some 7) (bl_ 19 4095) (bl_ 19 67583) HT_ (fun K hK => ?_) fun K hK => ?_
              ·refine goesB_ Try.func42 #[.agg #[.int .i64 a0_0, .int .i64 a0_1, .int .i64 a0_2], .int .u64 a0_5] ?_
               with_reducible refine (spigotref37_end.calls a0_0 a0_1 a0_2 a0_5 t496 t497 _ A28.out).mono ?_
               rintro e w36 ⟨rfl, hb⟩
               refine ⟨_, rfl, ?_⟩
               replace BK489 := bb_ BK489 hb
               replace HB := bs_ w hb
               clear hb
               refine hK.out _ _ (cc6_ BK489) (fun hHeld => ?_)
               clear hK K
               refine nm_ (some 44) ?_
               exact no_ (hJ5_6_11 () _ ⟨hHeld, (bq_ BK489), bh_⟩)
              ·refine bs2_ #[.int .u64 0, .int .u64 0] 26 ?_
               intro gb501 hg w36 BK501 hb
               have GW501 := bz_ w hg
               have GE501 := GW501
               have NB489_501 := bn_ BK489 hg
               have NB501_489 := bm_ BK489 hg
               replace BK489 := bb_ BK489 hb
               replace HB := bs_ w hb
               clear hb hg
               refine hK.out _ _ (cc6_ BK489) (fun hHeld => ?_)
               clear hK K
               refine nm_ (some 7) ?_
               exact no_ (hJ5_6_16 (gb501) _ ⟨hHeld, (bq_ BK489), (bq_ BK501), GW501.out, GE501.out, NB489_501.out, NB501_489.out, bh_⟩)
            ·rintro gb501 w36 ⟨hS_, h0_, h1_, h2_, h3_, h4_, h5_, h6_⟩
             have BK501 := Aside0.mk h1_
             have GW501 := Aside0.mk h2_
             have GE501 := Aside0.mk h3_
             have NB489_501 := Aside0.mk h4_
             have NB501_489 := Aside0.mk h5_
             replace BK489 := Aside0.mk h0_
             replace HB := Aside0.mk h6_
             clear h0_ h1_ h2_ h3_ h4_ h5_ h6_
             have hHeld := hS_
             refine nq_ ?_
             refine oa_ 11 (some 44) (bl_ 19 69631) HT_ fun K hK => ?_
             refine goesB_ Try.func42 #[.agg #[.int .i64 a0_0, .int .i64 a0_1, .int .i64 a0_2], .int .u64 a0_5] ?_
             with_reducible refine (spigotref37_end.calls a0_0 a0_1 a0_2 a0_5 t496 t497 _ A28.out).mono ?_
             rintro e w37 ⟨rfl, hb⟩
             refine ⟨_, rfl, ?_⟩
             replace BK489 := bb_ BK489 hb
             replace BK501 := bb_ BK501 hb
             replace HB := bs_ w hb
             clear hb
             refine hK.out _ _ (cc6_ BK489) (fun hHeld => ?_)
             clear hK K
             refine nm_ (some 44) ?_
             exact no_ (hJ5_6_11_16 (gb501) _ ⟨hHeld, (bq_ BK489), (bq_ BK501), GW501.out, GE501.out, NB489_501.out, NB501_489.out, bh_⟩)
           ·rintro _ w36 ⟨hS_, h0_, h1_⟩
            replace BK489 := Aside0.mk h0_
            replace HB := Aside0.mk h1_
            clear h0_ h1_
            have hHeld := hS_
            refine nq_ ?_
            refine tw_ 12 16 (some 45) (some 7) (bl_ 19 8191) (bl_ 19 69631) HT_ (fun K hK => ?_) fun K hK => ?_
            ·refine goesB_ Try.func41 #[.agg #[.int .u64 t494, .int .u64 t495], .agg #[.int .u64 t496, .int .u64 t497]] ?_
             with_reducible refine (spigotref01_Sub.calls kj15 t494 t495 t496 t497 t498 t499 t500 _ A29.out).mono ?_
             rintro e w37 ⟨rfl, hb⟩
             refine ⟨_, rfl, ?_⟩
             replace BK489 := bb_ BK489 hb
             replace HB := bs_ w hb
             clear hb
             refine hK.out _ _ (cc6_ BK489) (fun hHeld => ?_)
             clear hK K
             refine nm_ (some 45) ?_
             refine pa_ 13 (some 32) (bl_ 19 16383) HT_ ?_
             refine pa_ 14 (some 46) (bl_ 19 32767) HT_ ?_
             refine pa_ 15 (some 47) (bl_ 19 65535) HT_ ?_
             exact no_ (hJ5_6_11_12 () _ ⟨hHeld, (bq_ BK489), bh_⟩)
            ·refine bs2_ #[.int .u64 0, .int .u64 0] 26 ?_
             intro gb501 hg w37 BK501 hb
             have GW501 := bz_ w hg
             have GE501 := GW501
             have NB489_501 := bn_ BK489 hg
             have NB501_489 := bm_ BK489 hg
             replace BK489 := bb_ BK489 hb
             replace HB := bs_ w hb
             clear hb hg
             refine hK.out _ _ (cc6_ BK489) (fun hHeld => ?_)
             clear hK K
             refine nm_ (some 7) ?_
             exact no_ (hJ5_6_11_16 (gb501) _ ⟨hHeld, (bq_ BK489), (bq_ BK501), GW501.out, GE501.out, NB489_501.out, NB501_489.out, bh_⟩)
          ·rintro gb501 w37 ⟨hS_, h0_, h1_, h2_, h3_, h4_, h5_, h6_⟩
           have BK501 := Aside0.mk h1_
           have GW501 := Aside0.mk h2_
           have GE501 := Aside0.mk h3_
           have NB489_501 := Aside0.mk h4_
           have NB501_489 := Aside0.mk h5_
           replace BK489 := Aside0.mk h0_
           replace HB := Aside0.mk h6_
           clear h0_ h1_ h2_ h3_ h4_ h5_ h6_
           have hHeld := hS_
           refine nq_ ?_
           refine oa_ 12 (some 45) (bl_ 19 73727) HT_ fun K hK => ?_
           refine goesB_ Try.func41 #[.agg #[.int .u64 t494, .int .u64 t495], .agg #[.int .u64 t496, .int .u64 t497]] ?_
           with_reducible refine (spigotref01_Sub.calls kj15 t494 t495 t496 t497 t498 t499 t500 _ A29.out).mono ?_
           rintro e w38 ⟨rfl, hb⟩
           refine ⟨_, rfl, ?_⟩
           replace BK489 := bb_ BK489 hb
           replace BK501 := bb_ BK501 hb
           replace HB := bs_ w hb
           clear hb
           refine hK.out _ _ (cc6_ BK489) (fun hHeld => ?_)
           clear hK K
           refine nm_ (some 45) ?_
           refine pa_ 13 (some 32) (bl_ 19 81919) HT_ ?_
           refine pa_ 14 (some 46) (bl_ 19 98303) HT_ ?_
           refine pa_ 15 (some 47) (bl_ 19 131071) HT_ ?_
           exact no_ (hJ5_6_11_12_16 (gb501) _ ⟨hHeld, (bq_ BK489), (bq_ BK501), GW501.out, GE501.out, NB489_501.out, NB501_489.out, bh_⟩)
         ·rintro _ w37 ⟨hS_, h0_, h1_⟩
          replace BK489 := Aside0.mk h0_
          replace HB := Aside0.mk h1_
          clear h0_ h1_
          have hHeld := hS_
          refine nq_ ?_
          refine oa_ 16 (some 7) (bl_ 19 131071) HT_ fun K hK => ?_
          refine bs2_ #[.int .u64 0, .int .u64 0] 26 ?_
          intro gb501 hg w38 BK501 hb
          have GW501 := bz_ w hg
          have GE501 := GW501
          have NB489_501 := bn_ BK489 hg
          have NB501_489 := bm_ BK489 hg
          replace BK489 := bb_ BK489 hb
          replace HB := bs_ w hb
          clear hb hg
          refine hK.out _ _ (cc6_ BK489) (fun hHeld => ?_)
          clear hK K
          refine nm_ (some 7) ?_
          exact no_ (hJ5_6_11_12_16 (gb501) _ ⟨hHeld, (bq_ BK489), (bq_ BK501), GW501.out, GE501.out, NB489_501.out, NB501_489.out, bh_⟩)
        rintro gb501 w38 ⟨hS_, h0_, h1_, h2_, h3_, h4_, h5_, h6_⟩
        have BK501 := Aside0.mk h1_
        have GW501 := Aside0.mk h2_
        have GE501 := Aside0.mk h3_
        have NB489_501 := Aside0.mk h4_
        have NB501_489 := Aside0.mk h5_
        replace BK489 := Aside0.mk h0_
        replace HB := Aside0.mk h6_
        clear h0_ h1_ h2_ h3_ h4_ h5_ h6_
        have hHeld := hS_
        refine nq_ ?_
        refine oa_ 17 none (bl_ 19 262143) HT_ fun K hK => ?_
        have hs39 : w38.cell? ⟨gb501, 0, none⟩ = some (.int .u64 0) := (blk_cell BK501.out 0).trans rfl
        have hfs39 := blk_frozen BK501.out 0
        have hns39_0 := NB489_501.out
        have hms39_0 := NB501_489.out
        have hs40 : w38.cell? ⟨gb501, 1, none⟩ = some (.int .u64 0) := (blk_cell BK501.out 1).trans rfl
        have hfs40 := blk_frozen BK501.out 1
        have hns40_0 := NB489_501.out
        have hms40_0 := NB501_489.out
        refine sk_ ?_
        refine hK.out _ _ (cf6_ hHeld) (fun hHeld => ?_)
        clear hK K
        refine pa_ 18 (some 8) (bl_ 19 524287) HT_ ?_
        refine done_ (done_of HT_.out (by kernel_rfl)) ?_
        have hnb41 := NB501_489.out
        have hnc41 := NB489_501.out
        obtain ⟨_, _, _, _⟩ := ce2_ BK501
        obtain ⟨_, _, _, _, _, _, _, _, _, _, _, _⟩ := ce6_ BK489
        try go_wp2_with (first | ((with_reducible refine gate_callee (f := 52) rfl ?_); refine goesA_ (some 54) Try.func52 #[.agg #[.int .u64 t498, .int .u64 t499], .int .u64 (IntKind.u64.wrap (a0_1))] ?_; (with_reducible refine (spigotref01_Up.calls kj15 t498 t499 (IntKind.u64.wrap (a0_1)) t502 t503 t504 _ A30.out).mono ?_); rintro e w44 ⟨rfl, hb⟩; refine ⟨_, rfl, ?_⟩; replace BK489 := bf_ BK489 hb; replace BK501 := Aside0.mk (blk_below (g := gb501) (o := .cells #[.int .u64 t498, .int .u64 t499] 26 (0, 0)) (bp2_ (bq_ BK501)) hb); replace HB := bs_ w hb; clear hb) | ((with_reducible refine gate_dst (N := 9) rfl ?_); refine bx_ #[.int .u64 0, .int .u64 0] 26 ?_; intro gb505 hg w45 BK505 hb; have GW505 := bz_ w hg; have GE505 := GW505; have NB489_505 := bn_ BK489 hg; have NB505_489 := bm_ BK489 hg; have NB501_505 := bn_ BK501 hg; have NB505_501 := bm_ BK501 hg; replace BK489 := bb_ BK489 hb; replace BK501 := bb_ BK501 hb; replace HB := bs_ w hb; clear hb hg; have hnb46 := NB505_489.out; have hnc46 := NB489_505.out; have hnb47 := NB505_501.out; have hnc47 := NB501_505.out; obtain ⟨_, _, _, _⟩ := ce2_ BK505))
        go_ret2
        exact fi_
       ·rw [if_neg c31] at H
        have c31b0 : decide (0 < t502) = false := decide_eq_false c31
        clear c31
        by_cases c49 : t503 > (IntKind.u64.wrap (18446744073709551615 - a0_5))
        ·rw [if_pos c49] at H
         have c49b0 : decide ((IntKind.u64.wrap (18446744073709551615 - a0_5)) < t503) = true := decide_eq_true c49
         clear c49
         simp only [Option.some.injEq, Prod.mk.injEq] at H
         obtain ⟨rfl, rfl⟩ := H
         try go_wp2
         replace BK489 := Aside0.mk (blk_drew BK489.out)
         replace HB := Aside0.mk (below_drew1 HB.out)
         refine start_ (n := 19) (S := fun w' => w'.cell? ⟨gb489, 0, none⟩ = some (.int .i64 a0_0) ∧ w'.cell? ⟨gb489, 1, none⟩ = some (.int .i64 a0_1) ∧ w'.cell? ⟨gb489, 2, none⟩ = some (.int .i64 a0_2) ∧ w'.cell? ⟨gb489, 3, none⟩ = some (.int .u64 a0_3) ∧ w'.cell? ⟨gb489, 4, none⟩ = some (.int .u64 a0_4) ∧ w'.cell? ⟨gb489, 5, none⟩ = some (.int .u64 a0_5)) (ds := []) (bl_ 19 0) (by kernel_rfl) rfl (by kernel_rfl) (cc6_ BK489) (fun hHeld => ?_); refine with_tabW spigotref37_Wait.tab10 spigotref37_Wait.bits10 (fun HT_ HW_ => ?_)
         generalize wc.drew = w50 at BK489 HB hHeld ⊢
         refine pa_ 0 (some 33) (bl_ 19 1) HT_ ?_
         refine pa_ 2 (some 35) (bl_ 19 5) HT_ ?_
         refine pa_ 4 (some 37) (bl_ 19 21) HT_ ?_
         refine pa_ 7 (some 40) (bl_ 19 149) HT_ ?_
         refine pa_ 9 (some 42) (bl_ 19 661) HT_ ?_
         refine ta_ 1 (some 34) (bl_ 19 663) HT_ HW_ hHeld ?_
         refine ta_ 3 (some 36) (bl_ 19 671) HT_ HW_ hHeld ?_
         refine ta_ 8 (some 41) (bl_ 19 927) HT_ HW_ hHeld ?_
         refine ta_ 10 (some 43) (bl_ 19 1951) HT_ HW_ hHeld ?_
         refine join_ (σ := Nat) 2 (bl_ 19 131071) (fun s_ => [(38, .agg #[.int .u64 t492, .int .u64 t493]), (39, .agg #[.int .u64 t494, .int .u64 t495]), (44, .agg #[.int .u64 t496, .int .u64 t497]), (45, .tuple #[.agg #[.int .u64 t498, .int .u64 t499], .int .i64 t500]), (7, .pointer (some ⟨s_, 0, none⟩)), (32, .tuple #[.agg #[.int .u64 t498, .int .u64 t499], .int .i64 t500]), (46, .agg #[.int .u64 t498, .int .u64 t499]), (47, .int .i64 t500)]) (fun s_ w' => (w'.cell? ⟨gb489, 0, none⟩ = some (.int .i64 a0_0) ∧ w'.cell? ⟨gb489, 1, none⟩ = some (.int .i64 a0_1) ∧ w'.cell? ⟨gb489, 2, none⟩ = some (.int .i64 a0_2) ∧ w'.cell? ⟨gb489, 3, none⟩ = some (.int .u64 a0_3) ∧ w'.cell? ⟨gb489, 4, none⟩ = some (.int .u64 a0_4) ∧ w'.cell? ⟨gb489, 5, none⟩ = some (.int .u64 a0_5)) ∧ (w'.heap[gb489]? = some (.cells #[.int .i64 a0_0, .int .i64 a0_1, .int .i64 a0_2, .int .u64 a0_3, .int .u64 a0_4, .int .u64 a0_5] 28 (0, 0))) ∧ (w'.heap[s_]? = some (.cells #[.int .u64 0, .int .u64 0] 26 (0, 0))) ∧ (w.heap.size ≤ s_) ∧ (w.heap.size ≤ s_) ∧ (gb489 ≠ s_) ∧ (s_ ≠ gb489) ∧ (Below w.heap.size w w')) ?_ ?_
         rotate_left
         ·intro hJ5_6_11_12_16
          refine join_ (σ := Unit) 3 (bl_ 19 65535) (fun s_ => [(38, .agg #[.int .u64 t492, .int .u64 t493]), (39, .agg #[.int .u64 t494, .int .u64 t495]), (44, .agg #[.int .u64 t496, .int .u64 t497]), (45, .tuple #[.agg #[.int .u64 t498, .int .u64 t499], .int .i64 t500]), (32, .tuple #[.agg #[.int .u64 t498, .int .u64 t499], .int .i64 t500]), (46, .agg #[.int .u64 t498, .int .u64 t499]), (47, .int .i64 t500)]) (fun s_ w' => (w'.cell? ⟨gb489, 0, none⟩ = some (.int .i64 a0_0) ∧ w'.cell? ⟨gb489, 1, none⟩ = some (.int .i64 a0_1) ∧ w'.cell? ⟨gb489, 2, none⟩ = some (.int .i64 a0_2) ∧ w'.cell? ⟨gb489, 3, none⟩ = some (.int .u64 a0_3) ∧ w'.cell? ⟨gb489, 4, none⟩ = some (.int .u64 a0_4) ∧ w'.cell? ⟨gb489, 5, none⟩ = some (.int .u64 a0_5)) ∧ (w'.heap[gb489]? = some (.cells #[.int .i64 a0_0, .int .i64 a0_1, .int .i64 a0_2, .int .u64 a0_3, .int .u64 a0_4, .int .u64 a0_5] 28 (0, 0))) ∧ (Below w.heap.size w w')) ?_ ?_
          rotate_left
          ·intro hJ5_6_11_12
           refine join_ (σ := Nat) 6 (bl_ 19 69631) (fun s_ => [(38, .agg #[.int .u64 t492, .int .u64 t493]), (39, .agg #[.int .u64 t494, .int .u64 t495]), (44, .agg #[.int .u64 t496, .int .u64 t497]), (7, .pointer (some ⟨s_, 0, none⟩))]) (fun s_ w' => (w'.cell? ⟨gb489, 0, none⟩ = some (.int .i64 a0_0) ∧ w'.cell? ⟨gb489, 1, none⟩ = some (.int .i64 a0_1) ∧ w'.cell? ⟨gb489, 2, none⟩ = some (.int .i64 a0_2) ∧ w'.cell? ⟨gb489, 3, none⟩ = some (.int .u64 a0_3) ∧ w'.cell? ⟨gb489, 4, none⟩ = some (.int .u64 a0_4) ∧ w'.cell? ⟨gb489, 5, none⟩ = some (.int .u64 a0_5)) ∧ (w'.heap[gb489]? = some (.cells #[.int .i64 a0_0, .int .i64 a0_1, .int .i64 a0_2, .int .u64 a0_3, .int .u64 a0_4, .int .u64 a0_5] 28 (0, 0))) ∧ (w'.heap[s_]? = some (.cells #[.int .u64 0, .int .u64 0] 26 (0, 0))) ∧ (w.heap.size ≤ s_) ∧ (w.heap.size ≤ s_) ∧ (gb489 ≠ s_) ∧ (s_ ≠ gb489) ∧ (Below w.heap.size w w')) ?_ ?_
           rotate_left
           ·intro hJ5_6_11_16
            refine join_ (σ := Unit) 7 (bl_ 19 4095) (fun s_ => [(38, .agg #[.int .u64 t492, .int .u64 t493]), (39, .agg #[.int .u64 t494, .int .u64 t495]), (44, .agg #[.int .u64 t496, .int .u64 t497])]) (fun s_ w' => (w'.cell? ⟨gb489, 0, none⟩ = some (.int .i64 a0_0) ∧ w'.cell? ⟨gb489, 1, none⟩ = some (.int .i64 a0_1) ∧ w'.cell? ⟨gb489, 2, none⟩ = some (.int .i64 a0_2) ∧ w'.cell? ⟨gb489, 3, none⟩ = some (.int .u64 a0_3) ∧ w'.cell? ⟨gb489, 4, none⟩ = some (.int .u64 a0_4) ∧ w'.cell? ⟨gb489, 5, none⟩ = some (.int .u64 a0_5)) ∧ (w'.heap[gb489]? = some (.cells #[.int .i64 a0_0, .int .i64 a0_1, .int .i64 a0_2, .int .u64 a0_3, .int .u64 a0_4, .int .u64 a0_5] 28 (0, 0))) ∧ (Below w.heap.size w w')) ?_ ?_
            rotate_left
            ·intro hJ5_6_11
             refine join_ (σ := Nat) 7 (bl_ 19 67583) (fun s_ => [(38, .agg #[.int .u64 t492, .int .u64 t493]), (39, .agg #[.int .u64 t494, .int .u64 t495]), (7, .pointer (some ⟨s_, 0, none⟩))]) (fun s_ w' => (w'.cell? ⟨gb489, 0, none⟩ = some (.int .i64 a0_0) ∧ w'.cell? ⟨gb489, 1, none⟩ = some (.int .i64 a0_1) ∧ w'.cell? ⟨gb489, 2, none⟩ = some (.int .i64 a0_2) ∧ w'.cell? ⟨gb489, 3, none⟩ = some (.int .u64 a0_3) ∧ w'.cell? ⟨gb489, 4, none⟩ = some (.int .u64 a0_4) ∧ w'.cell? ⟨gb489, 5, none⟩ = some (.int .u64 a0_5)) ∧ (w'.heap[gb489]? = some (.cells #[.int .i64 a0_0, .int .i64 a0_1, .int .i64 a0_2, .int .u64 a0_3, .int .u64 a0_4, .int .u64 a0_5] 28 (0, 0))) ∧ (w'.heap[s_]? = some (.cells #[.int .u64 0, .int .u64 0] 26 (0, 0))) ∧ (w.heap.size ≤ s_) ∧ (w.heap.size ≤ s_) ∧ (gb489 ≠ s_) ∧ (s_ ≠ gb489) ∧ (Below w.heap.size w w')) ?_ ?_
             rotate_left
             ·intro hJ5_6_16
              refine join_ (σ := Unit) 8 (bl_ 19 2047) (fun s_ => [(38, .agg #[.int .u64 t492, .int .u64 t493]), (39, .agg #[.int .u64 t494, .int .u64 t495])]) (fun s_ w' => (w'.cell? ⟨gb489, 0, none⟩ = some (.int .i64 a0_0) ∧ w'.cell? ⟨gb489, 1, none⟩ = some (.int .i64 a0_1) ∧ w'.cell? ⟨gb489, 2, none⟩ = some (.int .i64 a0_2) ∧ w'.cell? ⟨gb489, 3, none⟩ = some (.int .u64 a0_3) ∧ w'.cell? ⟨gb489, 4, none⟩ = some (.int .u64 a0_4) ∧ w'.cell? ⟨gb489, 5, none⟩ = some (.int .u64 a0_5)) ∧ (w'.heap[gb489]? = some (.cells #[.int .i64 a0_0, .int .i64 a0_1, .int .i64 a0_2, .int .u64 a0_3, .int .u64 a0_4, .int .u64 a0_5] 28 (0, 0))) ∧ (Below w.heap.size w w')) ?_ ?_
              rotate_left
              ·intro hJ5_6
               refine join_ (σ := Nat) 8 (bl_ 19 67519) (fun s_ => [(38, .agg #[.int .u64 t492, .int .u64 t493]), (7, .pointer (some ⟨s_, 0, none⟩))]) (fun s_ w' => (w'.cell? ⟨gb489, 0, none⟩ = some (.int .i64 a0_0) ∧ w'.cell? ⟨gb489, 1, none⟩ = some (.int .i64 a0_1) ∧ w'.cell? ⟨gb489, 2, none⟩ = some (.int .i64 a0_2) ∧ w'.cell? ⟨gb489, 3, none⟩ = some (.int .u64 a0_3) ∧ w'.cell? ⟨gb489, 4, none⟩ = some (.int .u64 a0_4) ∧ w'.cell? ⟨gb489, 5, none⟩ = some (.int .u64 a0_5)) ∧ (w'.heap[gb489]? = some (.cells #[.int .i64 a0_0, .int .i64 a0_1, .int .i64 a0_2, .int .u64 a0_3, .int .u64 a0_4, .int .u64 a0_5] 28 (0, 0))) ∧ (w'.heap[s_]? = some (.cells #[.int .u64 0, .int .u64 0] 26 (0, 0))) ∧ (w.heap.size ≤ s_) ∧ (w.heap.size ≤ s_) ∧ (gb489 ≠ s_) ∧ (s_ ≠ gb489) ∧ (Below w.heap.size w w')) ?_ ?_
               rotate_left
               ·intro hJ5_16
                refine join_ (σ := Unit) 9 (bl_ 19 1983) (fun s_ => [(38, .agg #[.int .u64 t492, .int .u64 t493])]) (fun s_ w' => (w'.cell? ⟨gb489, 0, none⟩ = some (.int .i64 a0_0) ∧ w'.cell? ⟨gb489, 1, none⟩ = some (.int .i64 a0_1) ∧ w'.cell? ⟨gb489, 2, none⟩ = some (.int .i64 a0_2) ∧ w'.cell? ⟨gb489, 3, none⟩ = some (.int .u64 a0_3) ∧ w'.cell? ⟨gb489, 4, none⟩ = some (.int .u64 a0_4) ∧ w'.cell? ⟨gb489, 5, none⟩ = some (.int .u64 a0_5)) ∧ (w'.heap[gb489]? = some (.cells #[.int .i64 a0_0, .int .i64 a0_1, .int .i64 a0_2, .int .u64 a0_3, .int .u64 a0_4, .int .u64 a0_5] 28 (0, 0))) ∧ (Below w.heap.size w w')) ?_ ?_
                rotate_left
                ·intro hJ5
                 refine join_ (σ := Nat) 9 (bl_ 19 67487) (fun s_ => [(7, .pointer (some ⟨s_, 0, none⟩))]) (fun s_ w' => (w'.cell? ⟨gb489, 0, none⟩ = some (.int .i64 a0_0) ∧ w'.cell? ⟨gb489, 1, none⟩ = some (.int .i64 a0_1) ∧ w'.cell? ⟨gb489, 2, none⟩ = some (.int .i64 a0_2) ∧ w'.cell? ⟨gb489, 3, none⟩ = some (.int .u64 a0_3) ∧ w'.cell? ⟨gb489, 4, none⟩ = some (.int .u64 a0_4) ∧ w'.cell? ⟨gb489, 5, none⟩ = some (.int .u64 a0_5)) ∧ (w'.heap[gb489]? = some (.cells #[.int .i64 a0_0, .int .i64 a0_1, .int .i64 a0_2, .int .u64 a0_3, .int .u64 a0_4, .int .u64 a0_5] 28 (0, 0))) ∧ (w'.heap[s_]? = some (.cells #[.int .u64 0, .int .u64 0] 26 (0, 0))) ∧ (w.heap.size ≤ s_) ∧ (w.heap.size ≤ s_) ∧ (gb489 ≠ s_) ∧ (s_ ≠ gb489) ∧ (Below w.heap.size w w')) ?_ ?_
                 rotate_left
                 ·intro hJ16
                  refine tw_ 5 16 (some 38) (some 7) (bl_ 19 1983) (bl_ 19 67487) HT_ (fun K hK => ?_) fun K hK => ?_
                  ·refine goesB_ Try.func40 #[.agg #[.int .i64 a0_0, .int .i64 a0_1, .int .i64 a0_2], .int .i64 a1] ?_
                   with_reducible refine (spigotref37_tokens.calls a0_0 a0_1 a0_2 a1 t492 t493 _ A26.out).mono ?_
                   rintro e w51 ⟨rfl, hb⟩
                   refine ⟨_, rfl, ?_⟩
                   replace BK489 := bb_ BK489 hb
                   replace HB := bs_ w hb
                   clear hb
                   refine hK.out _ _ (cc6_ BK489) (fun hHeld => ?_)
                   clear hK K
                   refine nm_ (some 38) ?_
                   exact no_ (hJ5 () _ ⟨hHeld, (bq_ BK489), bh_⟩)
                  ·refine bs2_ #[.int .u64 0, .int .u64 0] 26 ?_
                   intro gb501 hg w51 BK501 hb
                   have GW501 := bz_ w hg
                   have GE501 := GW501
                   have NB489_501 := bn_ BK489 hg
                   have NB501_489 := bm_ BK489 hg
                   replace BK489 := bb_ BK489 hb
                   replace HB := bs_ w hb
                   clear hb hg
                   refine hK.out _ _ (cc6_ BK489) (fun hHeld => ?_)
                   clear hK K
                   refine nm_ (some 7) ?_
                   exact no_ (hJ16 (gb501) _ ⟨hHeld, (bq_ BK489), (bq_ BK501), GW501.out, GE501.out, NB489_501.out, NB501_489.out, bh_⟩)
                 ·rintro gb501 w52 ⟨hS_, h0_, h1_, h2_, h3_, h4_, h5_, h6_⟩
                  have BK501 := Aside0.mk h1_
                  have GW501 := Aside0.mk h2_
                  have GE501 := Aside0.mk h3_
                  have NB489_501 := Aside0.mk h4_
                  have NB501_489 := Aside0.mk h5_
                  replace BK489 := Aside0.mk h0_
                  replace HB := Aside0.mk h6_
                  clear h0_ h1_ h2_ h3_ h4_ h5_ h6_
                  have hHeld := hS_
                  refine nq_ ?_
                  refine oa_ 5 (some 38) (bl_ 19 67519) HT_ fun K hK => ?_
                  refine goesB_ Try.func40 #[.agg #[.int .i64 a0_0, .int .i64 a0_1, .int .i64 a0_2], .int .i64 a1] ?_
                  with_reducible refine (spigotref37_tokens.calls a0_0 a0_1 a0_2 a1 t492 t493 _ A26.out).mono ?_
                  rintro e w53 ⟨rfl, hb⟩
                  refine ⟨_, rfl, ?_⟩
                  replace BK489 := bb_ BK489 hb
                  replace BK501 := bb_ BK501 hb
                  replace HB := bs_ w hb
                  clear hb
                  refine hK.out _ _ (cc6_ BK489) (fun hHeld => ?_)
                  clear hK K
                  refine nm_ (some 38) ?_
                  exact no_ (hJ5_16 (gb501) _ ⟨hHeld, (bq_ BK489), (bq_ BK501), GW501.out, GE501.out, NB489_501.out, NB501_489.out, bh_⟩)
                ·rintro _ w52 ⟨hS_, h0_, h1_⟩
                 replace BK489 := Aside0.mk h0_
                 replace HB := Aside0.mk h1_
                 clear h0_ h1_
                 have hHeld := hS_
                 refine nq_ ?_
                 refine tw_ 6 16 (some 39) (some 7) (bl_ 19 2047) (bl_ 19 67519) HT_ (fun K hK => ?_) fun K hK => ?_
                 ·refine goesB_ Try.func39 #[.agg #[.int .u64 a0_3, .int .u64 a0_4], .agg #[.int .u64 t492, .int .u64 t493]] ?_
                  with_reducible refine (spigotref37_sum.calls a0_3 a0_4 t492 t493 t494 t495 _ A27.out).mono ?_
                  rintro e w53 ⟨rfl, hb⟩
                  refine ⟨_, rfl, ?_⟩
                  replace BK489 := bb_ BK489 hb
                  replace HB := bs_ w hb
                  clear hb
                  refine hK.out _ _ (cc6_ BK489) (fun hHeld => ?_)
                  clear hK K
                  refine nm_ (some 39) ?_
                  exact no_ (hJ5_6 () _ ⟨hHeld, (bq_ BK489), bh_⟩)
                 ·refine bs2_ #[.int .u64 0, .int .u64 0] 26 ?_
                  intro gb501 hg w53 BK501 hb
                  have GW501 := bz_ w hg
                  have GE501 := GW501
                  have NB489_501 := bn_ BK489 hg
                  have NB501_489 := bm_ BK489 hg
                  replace BK489 := bb_ BK489 hb
                  replace HB := bs_ w hb
                  clear hb hg
                  refine hK.out _ _ (cc6_ BK489) (fun hHeld => ?_)
                  clear hK K
                  refine nm_ (some 7) ?_
                  exact no_ (hJ5_16 (gb501) _ ⟨hHeld, (bq_ BK489), (bq_ BK501), GW501.out, GE501.out, NB489_501.out, NB501_489.out, bh_⟩)
               ·rintro gb501 w53 ⟨hS_, h0_, h1_, h2_, h3_, h4_, h5_, h6_⟩
                have BK501 := Aside0.mk h1_
                have GW501 := Aside0.mk h2_
                have GE501 := Aside0.mk h3_
                have NB489_501 := Aside0.mk h4_
                have NB501_489 := Aside0.mk h5_
                replace BK489 := Aside0.mk h0_
                replace HB := Aside0.mk h6_
                clear h0_ h1_ h2_ h3_ h4_ h5_ h6_
                have hHeld := hS_
                refine nq_ ?_
                refine oa_ 6 (some 39) (bl_ 19 67583) HT_ fun K hK => ?_
                refine goesB_ Try.func39 #[.agg #[.int .u64 a0_3, .int .u64 a0_4], .agg #[.int .u64 t492, .int .u64 t493]] ?_
                with_reducible refine (spigotref37_sum.calls a0_3 a0_4 t492 t493 t494 t495 _ A27.out).mono ?_
                rintro e w54 ⟨rfl, hb⟩
                refine ⟨_, rfl, ?_⟩
                replace BK489 := bb_ BK489 hb
                replace BK501 := bb_ BK501 hb
                replace HB := bs_ w hb
                clear hb
                refine hK.out _ _ (cc6_ BK489) (fun hHeld => ?_)
                clear hK K
                refine nm_ (some 39) ?_
                exact no_ (hJ5_6_16 (gb501) _ ⟨hHeld, (bq_ BK489), (bq_ BK501), GW501.out, GE501.out, NB489_501.out, NB501_489.out, bh_⟩)
              ·rintro _ w53 ⟨hS_, h0_, h1_⟩
               replace BK489 := Aside0.mk h0_
               replace HB := Aside0.mk h1_
               clear h0_ h1_
               have hHeld := hS_
               refine nq_ ?_
               refine tw_ 11 16 (some 44) (some 7) (bl_ 19 4095) (bl_ 19 67583) HT_ (fun K hK => ?_) fun K hK => ?_
               ·refine goesB_ Try.func42 #[.agg #[.int .i64 a0_0, .int .i64 a0_1, .int .i64 a0_2], .int .u64 a0_5] ?_
                with_reducible refine (spigotref37_end.calls a0_0 a0_1 a0_2 a0_5 t496 t497 _ A28.out).mono ?_
                rintro e w54 ⟨rfl, hb⟩
                refine ⟨_, rfl, ?_⟩
                replace BK489 := bb_ BK489 hb
                replace HB := bs_ w hb
                clear hb
                refine hK.out _ _ (cc6_ BK489) (fun hHeld => ?_)
                clear hK K
                refine nm_ (some 44) ?_
                exact no_ (hJ5_6_11 () _ ⟨hHeld, (bq_ BK489), bh_⟩)
               ·refine bs2_ #[.int .u64 0, .int .u64 0] 26 ?_
                intro gb501 hg w54 BK501 hb
                have GW501 := bz_ w hg
                have GE501 := GW501
                have NB489_501 := bn_ BK489 hg
                have NB501_489 := bm_ BK489 hg
                replace BK489 := bb_ BK489 hb
                replace HB := bs_ w hb
                clear hb hg
                refine hK.out _ _ (cc6_ BK489) (fun hHeld => ?_)
                clear hK K
                refine nm_ (some 7) ?_
                exact no_ (hJ5_6_16 (gb501) _ ⟨hHeld, (bq_ BK489), (bq_ BK501), GW501.out, GE501.out, NB489_501.out, NB501_489.out, bh_⟩)
             ·rintro gb501 w54 ⟨hS_, h0_, h1_, h2_, h3_, h4_, h5_, h6_⟩
              have BK501 := Aside0.mk h1_
              have GW501 := Aside0.mk h2_
              have GE501 := Aside0.mk h3_
              have NB489_501 := Aside0.mk h4_
              have NB501_489 := Aside0.mk h5_
              replace BK489 := Aside0.mk h0_
              replace HB := Aside0.mk h6_
              clear h0_ h1_ h2_ h3_ h4_ h5_ h6_
              have hHeld := hS_
              refine nq_ ?_
              refine oa_ 11 (some 44) (bl_ 19 69631) HT_ fun K hK => ?_
              refine goesB_ Try.func42 #[.agg #[.int .i64 a0_0, .int .i64 a0_1, .int .i64 a0_2], .int .u64 a0_5] ?_
              with_reducible refine (spigotref37_end.calls a0_0 a0_1 a0_2 a0_5 t496 t497 _ A28.out).mono ?_
              rintro e w55 ⟨rfl, hb⟩
              refine ⟨_, rfl, ?_⟩
              replace BK489 := bb_ BK489 hb
              replace BK501 := bb_ BK501 hb
              replace HB := bs_ w hb
              clear hb
              refine hK.out _ _ (cc6_ BK489) (fun hHeld => ?_)
              clear hK K
              refine nm_ (some 44) ?_
              exact no_ (hJ5_6_11_16 (gb501) _ ⟨hHeld, (bq_ BK489), (bq_ BK501), GW501.out, GE501.out, NB489_501.out, NB501_489.out, bh_⟩)
            ·rintro _ w54 ⟨hS_, h0_, h1_⟩
             replace BK489 := Aside0.mk h0_
             replace HB := Aside0.mk h1_
             clear h0_ h1_
             have hHeld := hS_
             refine nq_ ?_
             refine tw_ 12 16 (some 45) (some 7) (bl_ 19 8191) (bl_ 19 69631) HT_ (fun K hK => ?_) fun K hK => ?_
             ·refine goesB_ Try.func41 #[.agg #[.int .u64 t494, .int .u64 t495], .agg #[.int .u64 t496, .int .u64 t497]] ?_
              with_reducible refine (spigotref01_Sub.calls kj15 t494 t495 t496 t497 t498 t499 t500 _ A29.out).mono ?_
              rintro e w55 ⟨rfl, hb⟩
              refine ⟨_, rfl, ?_⟩
              replace BK489 := bb_ BK489 hb
              replace HB := bs_ w hb
              clear hb
              refine hK.out _ _ (cc6_ BK489) (fun hHeld => ?_)
              clear hK K
              refine nm_ (some 45) ?_
              refine pa_ 13 (some 32) (bl_ 19 16383) HT_ ?_
              refine pa_ 14 (some 46) (bl_ 19 32767) HT_ ?_
              refine pa_ 15 (some 47) (bl_ 19 65535) HT_ ?_
              exact no_ (hJ5_6_11_12 () _ ⟨hHeld, (bq_ BK489), bh_⟩)
             ·refine bs2_ #[.int .u64 0, .int .u64 0] 26 ?_
              intro gb501 hg w55 BK501 hb
              have GW501 := bz_ w hg
              have GE501 := GW501
              have NB489_501 := bn_ BK489 hg
              have NB501_489 := bm_ BK489 hg
              replace BK489 := bb_ BK489 hb
              replace HB := bs_ w hb
              clear hb hg
              refine hK.out _ _ (cc6_ BK489) (fun hHeld => ?_)
              clear hK K
              refine nm_ (some 7) ?_
              exact no_ (hJ5_6_11_16 (gb501) _ ⟨hHeld, (bq_ BK489), (bq_ BK501), GW501.out, GE501.out, NB489_501.out, NB501_489.out, bh_⟩)
           ·rintro gb501 w55 ⟨hS_, h0_, h1_, h2_, h3_, h4_, h5_, h6_⟩
            have BK501 := Aside0.mk h1_
            have GW501 := Aside0.mk h2_
            have GE501 := Aside0.mk h3_
            have NB489_501 := Aside0.mk h4_
            have NB501_489 := Aside0.mk h5_
            replace BK489 := Aside0.mk h0_
            replace HB := Aside0.mk h6_
            clear h0_ h1_ h2_ h3_ h4_ h5_ h6_
            have hHeld := hS_
            refine nq_ ?_
            refine oa_ 12 (some 45) (bl_ 19 73727) HT_ fun K hK => ?_
            refine goesB_ Try.func41 #[.agg #[.int .u64 t494, .int .u64 t495], .agg #[.int .u64 t496, .int .u64 t497]] ?_
            with_reducible refine (spigotref01_Sub.calls kj15 t494 t495 t496 t497 t498 t499 t500 _ A29.out).mono ?_
            rintro e w56 ⟨rfl, hb⟩
            refine ⟨_, rfl, ?_⟩
            replace BK489 := bb_ BK489 hb
            replace BK501 := bb_ BK501 hb
            replace HB := bs_ w hb
            clear hb
            refine hK.out _ _ (cc6_ BK489) (fun hHeld => ?_)
            clear hK K
            refine nm_ (some 45) ?_
            refine pa_ 13 (some 32) (bl_ 19 81919) HT_ ?_
            refine pa_ 14 (some 46) (bl_ 19 98303) HT_ ?_
            refine pa_ 15 (some 47) (bl_ 19 131071) HT_ ?_
            exact no_ (hJ5_6_11_12_16 (gb501) _ ⟨hHeld, (bq_ BK489), (bq_ BK501), GW501.out, GE501.out, NB489_501.out, NB501_489.out, bh_⟩)
          ·rintro _ w55 ⟨hS_, h0_, h1_⟩
           replace BK489 := Aside0.mk h0_
           replace HB := Aside0.mk h1_
           clear h0_ h1_
           have hHeld := hS_
           refine nq_ ?_
           refine oa_ 16 (some 7) (bl_ 19 131071) HT_ fun K hK => ?_
           refine bs2_ #[.int .u64 0, .int .u64 0] 26 ?_
           intro gb501 hg w56 BK501 hb
           have GW501 := bz_ w hg
           have GE501 := GW501
           have NB489_501 := bn_ BK489 hg
           have NB501_489 := bm_ BK489 hg
           replace BK489 := bb_ BK489 hb
           replace HB := bs_ w hb
           clear hb hg
           refine hK.out _ _ (cc6_ BK489) (fun hHeld => ?_)
           clear hK K
           refine nm_ (some 7) ?_
           exact no_ (hJ5_6_11_12_16 (gb501) _ ⟨hHeld, (bq_ BK489), (bq_ BK501), GW501.out, GE501.out, NB489_501.out, NB501_489.out, bh_⟩)
         rintro gb501 w56 ⟨hS_, h0_, h1_, h2_, h3_, h4_, h5_, h6_⟩
         have BK501 := Aside0.mk h1_
         have GW501 := Aside0.mk h2_
         have GE501 := Aside0.mk h3_
         have NB489_501 := Aside0.mk h4_
         have NB501_489 := Aside0.mk h5_
         replace BK489 := Aside0.mk h0_
         replace HB := Aside0.mk h6_
         clear h0_ h1_ h2_ h3_ h4_ h5_ h6_
         have hHeld := hS_
         refine nq_ ?_
         refine oa_ 17 none (bl_ 19 262143) HT_ fun K hK => ?_
         have hs57 : w56.cell? ⟨gb501, 0, none⟩ = some (.int .u64 0) := (blk_cell BK501.out 0).trans rfl
         have hfs57 := blk_frozen BK501.out 0
         have hns57_0 := NB489_501.out
         have hms57_0 := NB501_489.out
         have hs58 : w56.cell? ⟨gb501, 1, none⟩ = some (.int .u64 0) := (blk_cell BK501.out 1).trans rfl
         have hfs58 := blk_frozen BK501.out 1
         have hns58_0 := NB489_501.out
         have hms58_0 := NB501_489.out
         refine sk_ ?_
         refine hK.out _ _ (cf6_ hHeld) (fun hHeld => ?_)
         clear hK K
         refine pa_ 18 (some 8) (bl_ 19 524287) HT_ ?_
         refine done_ (done_of HT_.out (by kernel_rfl)) ?_
         have hnb59 := NB501_489.out
         have hnc59 := NB489_501.out
         obtain ⟨_, _, _, _⟩ := ce2_ BK501
         obtain ⟨_, _, _, _, _, _, _, _, _, _, _, _⟩ := ce6_ BK489
         try go_wp2_with (first | ((with_reducible refine gate_callee (f := 52) rfl ?_); refine goesA_ (some 54) Try.func52 #[.agg #[.int .u64 t498, .int .u64 t499], .int .u64 (IntKind.u64.wrap (a0_1))] ?_; (with_reducible refine (spigotref01_Up.calls kj15 t498 t499 (IntKind.u64.wrap (a0_1)) t502 t503 t504 _ A30.out).mono ?_); rintro e w62 ⟨rfl, hb⟩; refine ⟨_, rfl, ?_⟩; replace BK489 := bf_ BK489 hb; replace BK501 := Aside0.mk (blk_below (g := gb501) (o := .cells #[.int .u64 t498, .int .u64 t499] 26 (0, 0)) (bp2_ (bq_ BK501)) hb); replace HB := bs_ w hb; clear hb) | ((with_reducible refine gate_dst (N := 9) rfl ?_); refine bx_ #[.int .u64 0, .int .u64 0] 26 ?_; intro gb505 hg w63 BK505 hb; have GW505 := bz_ w hg; have GE505 := GW505; have NB489_505 := bn_ BK489 hg; have NB505_489 := bm_ BK489 hg; have NB501_505 := bn_ BK501 hg; have NB505_501 := bm_ BK501 hg; replace BK489 := bb_ BK489 hb; replace BK501 := bb_ BK501 hb; replace HB := bs_ w hb; clear hb hg; have hnb64 := NB505_489.out; have hnc64 := NB489_505.out; have hnb65 := NB505_501.out; have hnc65 := NB501_505.out; obtain ⟨_, _, _, _⟩ := ce2_ BK505; obtain ⟨_, _, _, _, _, _, _, _, _, _, _, _⟩ := ce6_ BK489))
         go_ret2
         exact fi_
        ·rw [if_neg c49] at H
         have c49b0 : decide ((IntKind.u64.wrap (18446744073709551615 - a0_5)) < t503) = false := decide_eq_false c49
         clear c49
         simp only [Option.some.injEq, Prod.mk.injEq] at H
         obtain ⟨rfl, rfl⟩ := H
         try go_wp2
         replace BK489 := Aside0.mk (blk_drew BK489.out)
         replace HB := Aside0.mk (below_drew1 HB.out)
         refine start_ (n := 19) (S := fun w' => w'.cell? ⟨gb489, 0, none⟩ = some (.int .i64 a0_0) ∧ w'.cell? ⟨gb489, 1, none⟩ = some (.int .i64 a0_1) ∧ w'.cell? ⟨gb489, 2, none⟩ = some (.int .i64 a0_2) ∧ w'.cell? ⟨gb489, 3, none⟩ = some (.int .u64 a0_3) ∧ w'.cell? ⟨gb489, 4, none⟩ = some (.int .u64 a0_4) ∧ w'.cell? ⟨gb489, 5, none⟩ = some (.int .u64 a0_5)) (ds := []) (bl_ 19 0) (by kernel_rfl) rfl (by kernel_rfl) (cc6_ BK489) (fun hHeld => ?_); refine with_tabW spigotref37_Wait.tab10 spigotref37_Wait.bits10 (fun HT_ HW_ => ?_)
         generalize wc.drew = w68 at BK489 HB hHeld ⊢
         refine pa_ 0 (some 33) (bl_ 19 1) HT_ ?_
         refine pa_ 2 (some 35) (bl_ 19 5) HT_ ?_
         refine pa_ 4 (some 37) (bl_ 19 21) HT_ ?_
         refine pa_ 7 (some 40) (bl_ 19 149) HT_ ?_
         refine pa_ 9 (some 42) (bl_ 19 661) HT_ ?_
         refine ta_ 1 (some 34) (bl_ 19 663) HT_ HW_ hHeld ?_
         refine ta_ 3 (some 36) (bl_ 19 671) HT_ HW_ hHeld ?_
         refine ta_ 8 (some 41) (bl_ 19 927) HT_ HW_ hHeld ?_
         refine ta_ 10 (some 43) (bl_ 19 1951) HT_ HW_ hHeld ?_
         refine join_ (σ := Nat) 2 (bl_ 19 131071) (fun s_ => [(38, .agg #[.int .u64 t492, .int .u64 t493]), (39, .agg #[.int .u64 t494, .int .u64 t495]), (44, .agg #[.int .u64 t496, .int .u64 t497]), (45, .tuple #[.agg #[.int .u64 t498, .int .u64 t499], .int .i64 t500]), (7, .pointer (some ⟨s_, 0, none⟩)), (32, .tuple #[.agg #[.int .u64 t498, .int .u64 t499], .int .i64 t500]), (46, .agg #[.int .u64 t498, .int .u64 t499]), (47, .int .i64 t500)]) (fun s_ w' => (w'.cell? ⟨gb489, 0, none⟩ = some (.int .i64 a0_0) ∧ w'.cell? ⟨gb489, 1, none⟩ = some (.int .i64 a0_1) ∧ w'.cell? ⟨gb489, 2, none⟩ = some (.int .i64 a0_2) ∧ w'.cell? ⟨gb489, 3, none⟩ = some (.int .u64 a0_3) ∧ w'.cell? ⟨gb489, 4, none⟩ = some (.int .u64 a0_4) ∧ w'.cell? ⟨gb489, 5, none⟩ = some (.int .u64 a0_5)) ∧ (w'.heap[gb489]? = some (.cells #[.int .i64 a0_0, .int .i64 a0_1, .int .i64 a0_2, .int .u64 a0_3, .int .u64 a0_4, .int .u64 a0_5] 28 (0, 0))) ∧ (w'.heap[s_]? = some (.cells #[.int .u64 0, .int .u64 0] 26 (0, 0))) ∧ (w.heap.size ≤ s_) ∧ (w.heap.size ≤ s_) ∧ (gb489 ≠ s_) ∧ (s_ ≠ gb489) ∧ (Below w.heap.size w w')) ?_ ?_
         rotate_left
         ·intro hJ5_6_11_12_16
          refine join_ (σ := Unit) 3 (bl_ 19 65535) (fun s_ => [(38, .agg #[.int .u64 t492, .int .u64 t493]), (39, .agg #[.int .u64 t494, .int .u64 t495]), (44, .agg #[.int .u64 t496, .int .u64 t497]), (45, .tuple #[.agg #[.int .u64 t498, .int .u64 t499], .int .i64 t500]), (32, .tuple #[.agg #[.int .u64 t498, .int .u64 t499], .int .i64 t500]), (46, .agg #[.int .u64 t498, .int .u64 t499]), (47, .int .i64 t500)]) (fun s_ w' => (w'.cell? ⟨gb489, 0, none⟩ = some (.int .i64 a0_0) ∧ w'.cell? ⟨gb489, 1, none⟩ = some (.int .i64 a0_1) ∧ w'.cell? ⟨gb489, 2, none⟩ = some (.int .i64 a0_2) ∧ w'.cell? ⟨gb489, 3, none⟩ = some (.int .u64 a0_3) ∧ w'.cell? ⟨gb489, 4, none⟩ = some (.int .u64 a0_4) ∧ w'.cell? ⟨gb489, 5, none⟩ = some (.int .u64 a0_5)) ∧ (w'.heap[gb489]? = some (.cells #[.int .i64 a0_0, .int .i64 a0_1, .int .i64 a0_2, .int .u64 a0_3, .int .u64 a0_4, .int .u64 a0_5] 28 (0, 0))) ∧ (Below w.heap.size w w')) ?_ ?_
          rotate_left
          ·intro hJ5_6_11_12
           refine join_ (σ := Nat) 6 (bl_ 19 69631) (fun s_ => [(38, .agg #[.int .u64 t492, .int .u64 t493]), (39, .agg #[.int .u64 t494, .int .u64 t495]), (44, .agg #[.int .u64 t496, .int .u64 t497]), (7, .pointer (some ⟨s_, 0, none⟩))]) (fun s_ w' => (w'.cell? ⟨gb489, 0, none⟩ = some (.int .i64 a0_0) ∧ w'.cell? ⟨gb489, 1, none⟩ = some (.int .i64 a0_1) ∧ w'.cell? ⟨gb489, 2, none⟩ = some (.int .i64 a0_2) ∧ w'.cell? ⟨gb489, 3, none⟩ = some (.int .u64 a0_3) ∧ w'.cell? ⟨gb489, 4, none⟩ = some (.int .u64 a0_4) ∧ w'.cell? ⟨gb489, 5, none⟩ = some (.int .u64 a0_5)) ∧ (w'.heap[gb489]? = some (.cells #[.int .i64 a0_0, .int .i64 a0_1, .int .i64 a0_2, .int .u64 a0_3, .int .u64 a0_4, .int .u64 a0_5] 28 (0, 0))) ∧ (w'.heap[s_]? = some (.cells #[.int .u64 0, .int .u64 0] 26 (0, 0))) ∧ (w.heap.size ≤ s_) ∧ (w.heap.size ≤ s_) ∧ (gb489 ≠ s_) ∧ (s_ ≠ gb489) ∧ (Below w.heap.size w w')) ?_ ?_
           rotate_left
           ·intro hJ5_6_11_16
            refine join_ (σ := Unit) 7 (bl_ 19 4095) (fun s_ => [(38, .agg #[.int .u64 t492, .int .u64 t493]), (39, .agg #[.int .u64 t494, .int .u64 t495]), (44, .agg #[.int .u64 t496, .int .u64 t497])]) (fun s_ w' => (w'.cell? ⟨gb489, 0, none⟩ = some (.int .i64 a0_0) ∧ w'.cell? ⟨gb489, 1, none⟩ = some (.int .i64 a0_1) ∧ w'.cell? ⟨gb489, 2, none⟩ = some (.int .i64 a0_2) ∧ w'.cell? ⟨gb489, 3, none⟩ = some (.int .u64 a0_3) ∧ w'.cell? ⟨gb489, 4, none⟩ = some (.int .u64 a0_4) ∧ w'.cell? ⟨gb489, 5, none⟩ = some (.int .u64 a0_5)) ∧ (w'.heap[gb489]? = some (.cells #[.int .i64 a0_0, .int .i64 a0_1, .int .i64 a0_2, .int .u64 a0_3, .int .u64 a0_4, .int .u64 a0_5] 28 (0, 0))) ∧ (Below w.heap.size w w')) ?_ ?_
            rotate_left
            ·intro hJ5_6_11
             refine join_ (σ := Nat) 7 (bl_ 19 67583) (fun s_ => [(38, .agg #[.int .u64 t492, .int .u64 t493]), (39, .agg #[.int .u64 t494, .int .u64 t495]), (7, .pointer (some ⟨s_, 0, none⟩))]) (fun s_ w' => (w'.cell? ⟨gb489, 0, none⟩ = some (.int .i64 a0_0) ∧ w'.cell? ⟨gb489, 1, none⟩ = some (.int .i64 a0_1) ∧ w'.cell? ⟨gb489, 2, none⟩ = some (.int .i64 a0_2) ∧ w'.cell? ⟨gb489, 3, none⟩ = some (.int .u64 a0_3) ∧ w'.cell? ⟨gb489, 4, none⟩ = some (.int .u64 a0_4) ∧ w'.cell? ⟨gb489, 5, none⟩ = some (.int .u64 a0_5)) ∧ (w'.heap[gb489]? = some (.cells #[.int .i64 a0_0, .int .i64 a0_1, .int .i64 a0_2, .int .u64 a0_3, .int .u64 a0_4, .int .u64 a0_5] 28 (0, 0))) ∧ (w'.heap[s_]? = some (.cells #[.int .u64 0, .int .u64 0] 26 (0, 0))) ∧ (w.heap.size ≤ s_) ∧ (w.heap.size ≤ s_) ∧ (gb489 ≠ s_) ∧ (s_ ≠ gb489) ∧ (Below w.heap.size w w')) ?_ ?_
             rotate_left
             ·intro hJ5_6_16
              refine join_ (σ := Unit) 8 (bl_ 19 2047) (fun s_ => [(38, .agg #[.int .u64 t492, .int .u64 t493]), (39, .agg #[.int .u64 t494, .int .u64 t495])]) (fun s_ w' => (w'.cell? ⟨gb489, 0, none⟩ = some (.int .i64 a0_0) ∧ w'.cell? ⟨gb489, 1, none⟩ = some (.int .i64 a0_1) ∧ w'.cell? ⟨gb489, 2, none⟩ = some (.int .i64 a0_2) ∧ w'.cell? ⟨gb489, 3, none⟩ = some (.int .u64 a0_3) ∧ w'.cell? ⟨gb489, 4, none⟩ = some (.int .u64 a0_4) ∧ w'.cell? ⟨gb489, 5, none⟩ = some (.int .u64 a0_5)) ∧ (w'.heap[gb489]? = some (.cells #[.int .i64 a0_0, .int .i64 a0_1, .int .i64 a0_2, .int .u64 a0_3, .int .u64 a0_4, .int .u64 a0_5] 28 (0, 0))) ∧ (Below w.heap.size w w')) ?_ ?_
              rotate_left
              ·intro hJ5_6
               refine join_ (σ := Nat) 8 (bl_ 19 67519) (fun s_ => [(38, .agg #[.int .u64 t492, .int .u64 t493]), (7, .pointer (some ⟨s_, 0, none⟩))]) (fun s_ w' => (w'.cell? ⟨gb489, 0, none⟩ = some (.int .i64 a0_0) ∧ w'.cell? ⟨gb489, 1, none⟩ = some (.int .i64 a0_1) ∧ w'.cell? ⟨gb489, 2, none⟩ = some (.int .i64 a0_2) ∧ w'.cell? ⟨gb489, 3, none⟩ = some (.int .u64 a0_3) ∧ w'.cell? ⟨gb489, 4, none⟩ = some (.int .u64 a0_4) ∧ w'.cell? ⟨gb489, 5, none⟩ = some (.int .u64 a0_5)) ∧ (w'.heap[gb489]? = some (.cells #[.int .i64 a0_0, .int .i64 a0_1, .int .i64 a0_2, .int .u64 a0_3, .int .u64 a0_4, .int .u64 a0_5] 28 (0, 0))) ∧ (w'.heap[s_]? = some (.cells #[.int .u64 0, .int .u64 0] 26 (0, 0))) ∧ (w.heap.size ≤ s_) ∧ (w.heap.size ≤ s_) ∧ (gb489 ≠ s_) ∧ (s_ ≠ gb489) ∧ (Below w.heap.size w w')) ?_ ?_
               rotate_left
               ·intro hJ5_16
                refine join_ (σ := Unit) 9 (bl_ 19 1983) (fun s_ => [(38, .agg #[.int .u64 t492, .int .u64 t493])]) (fun s_ w' => (w'.cell? ⟨gb489, 0, none⟩ = some (.int .i64 a0_0) ∧ w'.cell? ⟨gb489, 1, none⟩ = some (.int .i64 a0_1) ∧ w'.cell? ⟨gb489, 2, none⟩ = some (.int .i64 a0_2) ∧ w'.cell? ⟨gb489, 3, none⟩ = some (.int .u64 a0_3) ∧ w'.cell? ⟨gb489, 4, none⟩ = some (.int .u64 a0_4) ∧ w'.cell? ⟨gb489, 5, none⟩ = some (.int .u64 a0_5)) ∧ (w'.heap[gb489]? = some (.cells #[.int .i64 a0_0, .int .i64 a0_1, .int .i64 a0_2, .int .u64 a0_3, .int .u64 a0_4, .int .u64 a0_5] 28 (0, 0))) ∧ (Below w.heap.size w w')) ?_ ?_
                rotate_left
                ·intro hJ5
                 refine join_ (σ := Nat) 9 (bl_ 19 67487) (fun s_ => [(7, .pointer (some ⟨s_, 0, none⟩))]) (fun s_ w' => (w'.cell? ⟨gb489, 0, none⟩ = some (.int .i64 a0_0) ∧ w'.cell? ⟨gb489, 1, none⟩ = some (.int .i64 a0_1) ∧ w'.cell? ⟨gb489, 2, none⟩ = some (.int .i64 a0_2) ∧ w'.cell? ⟨gb489, 3, none⟩ = some (.int .u64 a0_3) ∧ w'.cell? ⟨gb489, 4, none⟩ = some (.int .u64 a0_4) ∧ w'.cell? ⟨gb489, 5, none⟩ = some (.int .u64 a0_5)) ∧ (w'.heap[gb489]? = some (.cells #[.int .i64 a0_0, .int .i64 a0_1, .int .i64 a0_2, .int .u64 a0_3, .int .u64 a0_4, .int .u64 a0_5] 28 (0, 0))) ∧ (w'.heap[s_]? = some (.cells #[.int .u64 0, .int .u64 0] 26 (0, 0))) ∧ (w.heap.size ≤ s_) ∧ (w.heap.size ≤ s_) ∧ (gb489 ≠ s_) ∧ (s_ ≠ gb489) ∧ (Below w.heap.size w w')) ?_ ?_
                 rotate_left
                 ·intro hJ16
                  refine tw_ 5 16 (some 38) (some 7) (bl_ 19 1983) (bl_ 19 67487) HT_ (fun K hK => ?_) fun K hK => ?_
                  ·refine goesB_ Try.func40 #[.agg #[.int .i64 a0_0, .int .i64 a0_1, .int .i64 a0_2], .int .i64 a1] ?_
                   with_reducible refine (spigotref37_tokens.calls a0_0 a0_1 a0_2 a1 t492 t493 _ A26.out).mono ?_
                   rintro e w69 ⟨rfl, hb⟩
                   refine ⟨_, rfl, ?_⟩
                   replace BK489 := bb_ BK489 hb
                   replace HB := bs_ w hb
                   clear hb
                   refine hK.out _ _ (cc6_ BK489) (fun hHeld => ?_)
                   clear hK K
                   refine nm_ (some 38) ?_
                   exact no_ (hJ5 () _ ⟨hHeld, (bq_ BK489), bh_⟩)
                  ·refine bs2_ #[.int .u64 0, .int .u64 0] 26 ?_
                   intro gb501 hg w69 BK501 hb
                   have GW501 := bz_ w hg
                   have GE501 := GW501
                   have NB489_501 := bn_ BK489 hg
                   have NB501_489 := bm_ BK489 hg
                   replace BK489 := bb_ BK489 hb
                   replace HB := bs_ w hb
                   clear hb hg
                   refine hK.out _ _ (cc6_ BK489) (fun hHeld => ?_)
                   clear hK K
                   refine nm_ (some 7) ?_
                   exact no_ (hJ16 (gb501) _ ⟨hHeld, (bq_ BK489), (bq_ BK501), GW501.out, GE501.out, NB489_501.out, NB501_489.out, bh_⟩)
                 ·rintro gb501 w70 ⟨hS_, h0_, h1_, h2_, h3_, h4_, h5_, h6_⟩
                  have BK501 := Aside0.mk h1_
                  have GW501 := Aside0.mk h2_
                  have GE501 := Aside0.mk h3_
                  have NB489_501 := Aside0.mk h4_
                  have NB501_489 := Aside0.mk h5_
                  replace BK489 := Aside0.mk h0_
                  replace HB := Aside0.mk h6_
                  clear h0_ h1_ h2_ h3_ h4_ h5_ h6_
                  have hHeld := hS_
                  refine nq_ ?_
                  refine oa_ 5 (some 38) (bl_ 19 67519) HT_ fun K hK => ?_
                  refine goesB_ Try.func40 #[.agg #[.int .i64 a0_0, .int .i64 a0_1, .int .i64 a0_2], .int .i64 a1] ?_
                  with_reducible refine (spigotref37_tokens.calls a0_0 a0_1 a0_2 a1 t492 t493 _ A26.out).mono ?_
                  rintro e w71 ⟨rfl, hb⟩
                  refine ⟨_, rfl, ?_⟩
                  replace BK489 := bb_ BK489 hb
                  replace BK501 := bb_ BK501 hb
                  replace HB := bs_ w hb
                  clear hb
                  refine hK.out _ _ (cc6_ BK489) (fun hHeld => ?_)
                  clear hK K
                  refine nm_ (some 38) ?_
                  exact no_ (hJ5_16 (gb501) _ ⟨hHeld, (bq_ BK489), (bq_ BK501), GW501.out, GE501.out, NB489_501.out, NB501_489.out, bh_⟩)
                ·rintro _ w70 ⟨hS_, h0_, h1_⟩
                 replace BK489 := Aside0.mk h0_
                 replace HB := Aside0.mk h1_
                 clear h0_ h1_
                 have hHeld := hS_
                 refine nq_ ?_
                 refine tw_ 6 16 (some 39) (some 7) (bl_ 19 2047) (bl_ 19 67519) HT_ (fun K hK => ?_) fun K hK => ?_
                 ·refine goesB_ Try.func39 #[.agg #[.int .u64 a0_3, .int .u64 a0_4], .agg #[.int .u64 t492, .int .u64 t493]] ?_
                  with_reducible refine (spigotref37_sum.calls a0_3 a0_4 t492 t493 t494 t495 _ A27.out).mono ?_
                  rintro e w71 ⟨rfl, hb⟩
                  refine ⟨_, rfl, ?_⟩
                  replace BK489 := bb_ BK489 hb
                  replace HB := bs_ w hb
                  clear hb
                  refine hK.out _ _ (cc6_ BK489) (fun hHeld => ?_)
                  clear hK K
                  refine nm_ (some 39) ?_
                  exact no_ (hJ5_6 () _ ⟨hHeld, (bq_ BK489), bh_⟩)
                 ·refine bs2_ #[.int .u64 0, .int .u64 0] 26 ?_
                  intro gb501 hg w71 BK501 hb
                  have GW501 := bz_ w hg
                  have GE501 := GW501
                  have NB489_501 := bn_ BK489 hg
                  have NB501_489 := bm_ BK489 hg
                  replace BK489 := bb_ BK489 hb
                  replace HB := bs_ w hb
                  clear hb hg
                  refine hK.out _ _ (cc6_ BK489) (fun hHeld => ?_)
                  clear hK K
                  refine nm_ (some 7) ?_
                  exact no_ (hJ5_16 (gb501) _ ⟨hHeld, (bq_ BK489), (bq_ BK501), GW501.out, GE501.out, NB489_501.out, NB501_489.out, bh_⟩)
               ·rintro gb501 w71 ⟨hS_, h0_, h1_, h2_, h3_, h4_, h5_, h6_⟩
                have BK501 := Aside0.mk h1_
                have GW501 := Aside0.mk h2_
                have GE501 := Aside0.mk h3_
                have NB489_501 := Aside0.mk h4_
                have NB501_489 := Aside0.mk h5_
                replace BK489 := Aside0.mk h0_
                replace HB := Aside0.mk h6_
                clear h0_ h1_ h2_ h3_ h4_ h5_ h6_
                have hHeld := hS_
                refine nq_ ?_
                refine oa_ 6 (some 39) (bl_ 19 67583) HT_ fun K hK => ?_
                refine goesB_ Try.func39 #[.agg #[.int .u64 a0_3, .int .u64 a0_4], .agg #[.int .u64 t492, .int .u64 t493]] ?_
                with_reducible refine (spigotref37_sum.calls a0_3 a0_4 t492 t493 t494 t495 _ A27.out).mono ?_
                rintro e w72 ⟨rfl, hb⟩
                refine ⟨_, rfl, ?_⟩
                replace BK489 := bb_ BK489 hb
                replace BK501 := bb_ BK501 hb
                replace HB := bs_ w hb
                clear hb
                refine hK.out _ _ (cc6_ BK489) (fun hHeld => ?_)
                clear hK K
                refine nm_ (some 39) ?_
                exact no_ (hJ5_6_16 (gb501) _ ⟨hHeld, (bq_ BK489), (bq_ BK501), GW501.out, GE501.out, NB489_501.out, NB501_489.out, bh_⟩)
              ·rintro _ w71 ⟨hS_, h0_, h1_⟩
               replace BK489 := Aside0.mk h0_
               replace HB := Aside0.mk h1_
               clear h0_ h1_
               have hHeld := hS_
               refine nq_ ?_
               refine tw_ 11 16 (some 44) (some 7) (bl_ 19 4095) (bl_ 19 67583) HT_ (fun K hK => ?_) fun K hK => ?_
               ·refine goesB_ Try.func42 #[.agg #[.int .i64 a0_0, .int .i64 a0_1, .int .i64 a0_2], .int .u64 a0_5] ?_
                with_reducible refine (spigotref37_end.calls a0_0 a0_1 a0_2 a0_5 t496 t497 _ A28.out).mono ?_
                rintro e w72 ⟨rfl, hb⟩
                refine ⟨_, rfl, ?_⟩
                replace BK489 := bb_ BK489 hb
                replace HB := bs_ w hb
                clear hb
                refine hK.out _ _ (cc6_ BK489) (fun hHeld => ?_)
                clear hK K
                refine nm_ (some 44) ?_
                exact no_ (hJ5_6_11 () _ ⟨hHeld, (bq_ BK489), bh_⟩)
               ·refine bs2_ #[.int .u64 0, .int .u64 0] 26 ?_
                intro gb501 hg w72 BK501 hb
                have GW501 := bz_ w hg
                have GE501 := GW501
                have NB489_501 := bn_ BK489 hg
                have NB501_489 := bm_ BK489 hg
                replace BK489 := bb_ BK489 hb
                replace HB := bs_ w hb
                clear hb hg
                refine hK.out _ _ (cc6_ BK489) (fun hHeld => ?_)
                clear hK K
                refine nm_ (some 7) ?_
                exact no_ (hJ5_6_16 (gb501) _ ⟨hHeld, (bq_ BK489), (bq_ BK501), GW501.out, GE501.out, NB489_501.out, NB501_489.out, bh_⟩)
             ·rintro gb501 w72 ⟨hS_, h0_, h1_, h2_, h3_, h4_, h5_, h6_⟩
              have BK501 := Aside0.mk h1_
              have GW501 := Aside0.mk h2_
              have GE501 := Aside0.mk h3_
              have NB489_501 := Aside0.mk h4_
              have NB501_489 := Aside0.mk h5_
              replace BK489 := Aside0.mk h0_
              replace HB := Aside0.mk h6_
              clear h0_ h1_ h2_ h3_ h4_ h5_ h6_
              have hHeld := hS_
              refine nq_ ?_
              refine oa_ 11 (some 44) (bl_ 19 69631) HT_ fun K hK => ?_
              refine goesB_ Try.func42 #[.agg #[.int .i64 a0_0, .int .i64 a0_1, .int .i64 a0_2], .int .u64 a0_5] ?_
              with_reducible refine (spigotref37_end.calls a0_0 a0_1 a0_2 a0_5 t496 t497 _ A28.out).mono ?_
              rintro e w73 ⟨rfl, hb⟩
              refine ⟨_, rfl, ?_⟩
              replace BK489 := bb_ BK489 hb
              replace BK501 := bb_ BK501 hb
              replace HB := bs_ w hb
              clear hb
              refine hK.out _ _ (cc6_ BK489) (fun hHeld => ?_)
              clear hK K
              refine nm_ (some 44) ?_
              exact no_ (hJ5_6_11_16 (gb501) _ ⟨hHeld, (bq_ BK489), (bq_ BK501), GW501.out, GE501.out, NB489_501.out, NB501_489.out, bh_⟩)
            ·rintro _ w72 ⟨hS_, h0_, h1_⟩
             replace BK489 := Aside0.mk h0_
             replace HB := Aside0.mk h1_
             clear h0_ h1_
             have hHeld := hS_
             refine nq_ ?_
             refine tw_ 12 16 (some 45) (some 7) (bl_ 19 8191) (bl_ 19 69631) HT_ (fun K hK => ?_) fun K hK => ?_
             ·refine goesB_ Try.func41 #[.agg #[.int .u64 t494, .int .u64 t495], .agg #[.int .u64 t496, .int .u64 t497]] ?_
              with_reducible refine (spigotref01_Sub.calls kj15 t494 t495 t496 t497 t498 t499 t500 _ A29.out).mono ?_
              rintro e w73 ⟨rfl, hb⟩
              refine ⟨_, rfl, ?_⟩
              replace BK489 := bb_ BK489 hb
              replace HB := bs_ w hb
              clear hb
              refine hK.out _ _ (cc6_ BK489) (fun hHeld => ?_)
              clear hK K
              refine nm_ (some 45) ?_
              refine pa_ 13 (some 32) (bl_ 19 16383) HT_ ?_
              refine pa_ 14 (some 46) (bl_ 19 32767) HT_ ?_
              refine pa_ 15 (some 47) (bl_ 19 65535) HT_ ?_
              exact no_ (hJ5_6_11_12 () _ ⟨hHeld, (bq_ BK489), bh_⟩)
             ·refine bs2_ #[.int .u64 0, .int .u64 0] 26 ?_
              intro gb501 hg w73 BK501 hb
              have GW501 := bz_ w hg
              have GE501 := GW501
              have NB489_501 := bn_ BK489 hg
              have NB501_489 := bm_ BK489 hg
              replace BK489 := bb_ BK489 hb
              replace HB := bs_ w hb
              clear hb hg
              refine hK.out _ _ (cc6_ BK489) (fun hHeld => ?_)
              clear hK K
              refine nm_ (some 7) ?_
              exact no_ (hJ5_6_11_16 (gb501) _ ⟨hHeld, (bq_ BK489), (bq_ BK501), GW501.out, GE501.out, NB489_501.out, NB501_489.out, bh_⟩)
           ·rintro gb501 w73 ⟨hS_, h0_, h1_, h2_, h3_, h4_, h5_, h6_⟩
            have BK501 := Aside0.mk h1_
            have GW501 := Aside0.mk h2_
            have GE501 := Aside0.mk h3_
            have NB489_501 := Aside0.mk h4_
            have NB501_489 := Aside0.mk h5_
            replace BK489 := Aside0.mk h0_
            replace HB := Aside0.mk h6_
            clear h0_ h1_ h2_ h3_ h4_ h5_ h6_
            have hHeld := hS_
            refine nq_ ?_
            refine oa_ 12 (some 45) (bl_ 19 73727) HT_ fun K hK => ?_
            refine goesB_ Try.func41 #[.agg #[.int .u64 t494, .int .u64 t495], .agg #[.int .u64 t496, .int .u64 t497]] ?_
            with_reducible refine (spigotref01_Sub.calls kj15 t494 t495 t496 t497 t498 t499 t500 _ A29.out).mono ?_
            rintro e w74 ⟨rfl, hb⟩
            refine ⟨_, rfl, ?_⟩
            replace BK489 := bb_ BK489 hb
            replace BK501 := bb_ BK501 hb
            replace HB := bs_ w hb
            clear hb
            refine hK.out _ _ (cc6_ BK489) (fun hHeld => ?_)
            clear hK K
            refine nm_ (some 45) ?_
            refine pa_ 13 (some 32) (bl_ 19 81919) HT_ ?_
            refine pa_ 14 (some 46) (bl_ 19 98303) HT_ ?_
            refine pa_ 15 (some 47) (bl_ 19 131071) HT_ ?_
            exact no_ (hJ5_6_11_12_16 (gb501) _ ⟨hHeld, (bq_ BK489), (bq_ BK501), GW501.out, GE501.out, NB489_501.out, NB501_489.out, bh_⟩)
          ·rintro _ w73 ⟨hS_, h0_, h1_⟩
           replace BK489 := Aside0.mk h0_
           replace HB := Aside0.mk h1_
           clear h0_ h1_
           have hHeld := hS_
           refine nq_ ?_
           refine oa_ 16 (some 7) (bl_ 19 131071) HT_ fun K hK => ?_
           refine bs2_ #[.int .u64 0, .int .u64 0] 26 ?_
           intro gb501 hg w74 BK501 hb
           have GW501 := bz_ w hg
           have GE501 := GW501
           have NB489_501 := bn_ BK489 hg
           have NB501_489 := bm_ BK489 hg
           replace BK489 := bb_ BK489 hb
           replace HB := bs_ w hb
           clear hb hg
           refine hK.out _ _ (cc6_ BK489) (fun hHeld => ?_)
           clear hK K
           refine nm_ (some 7) ?_
           exact no_ (hJ5_6_11_12_16 (gb501) _ ⟨hHeld, (bq_ BK489), (bq_ BK501), GW501.out, GE501.out, NB489_501.out, NB501_489.out, bh_⟩)
         rintro gb501 w74 ⟨hS_, h0_, h1_, h2_, h3_, h4_, h5_, h6_⟩
         have BK501 := Aside0.mk h1_
         have GW501 := Aside0.mk h2_
         have GE501 := Aside0.mk h3_
         have NB489_501 := Aside0.mk h4_
         have NB501_489 := Aside0.mk h5_
         replace BK489 := Aside0.mk h0_
         replace HB := Aside0.mk h6_
         clear h0_ h1_ h2_ h3_ h4_ h5_ h6_
         have hHeld := hS_
         refine nq_ ?_
         refine oa_ 17 none (bl_ 19 262143) HT_ fun K hK => ?_
         have hs75 : w74.cell? ⟨gb501, 0, none⟩ = some (.int .u64 0) := (blk_cell BK501.out 0).trans rfl
         have hfs75 := blk_frozen BK501.out 0
         have hns75_0 := NB489_501.out
         have hms75_0 := NB501_489.out
         have hs76 : w74.cell? ⟨gb501, 1, none⟩ = some (.int .u64 0) := (blk_cell BK501.out 1).trans rfl
         have hfs76 := blk_frozen BK501.out 1
         have hns76_0 := NB489_501.out
         have hms76_0 := NB501_489.out
         refine sk_ ?_
         refine hK.out _ _ (cf6_ hHeld) (fun hHeld => ?_)
         clear hK K
         refine pa_ 18 (some 8) (bl_ 19 524287) HT_ ?_
         refine done_ (done_of HT_.out (by kernel_rfl)) ?_
         have hnb77 := NB501_489.out
         have hnc77 := NB489_501.out
         obtain ⟨_, _, _, _⟩ := ce2_ BK501
         obtain ⟨_, _, _, _, _, _, _, _, _, _, _, _⟩ := ce6_ BK489
         try go_wp2_with (first | ((with_reducible refine gate_callee (f := 52) rfl ?_); refine goesA_ (some 54) Try.func52 #[.agg #[.int .u64 t498, .int .u64 t499], .int .u64 (IntKind.u64.wrap (a0_1))] ?_; (with_reducible refine (spigotref01_Up.calls kj15 t498 t499 (IntKind.u64.wrap (a0_1)) t502 t503 t504 _ A30.out).mono ?_); rintro e w80 ⟨rfl, hb⟩; refine ⟨_, rfl, ?_⟩; replace BK489 := bf_ BK489 hb; replace BK501 := Aside0.mk (blk_below (g := gb501) (o := .cells #[.int .u64 t498, .int .u64 t499] 26 (0, 0)) (bp2_ (bq_ BK501)) hb); replace HB := bs_ w hb; clear hb) | ((with_reducible refine gate_dst (N := 9) rfl ?_); refine bx_ #[.int .u64 0, .int .u64 0] 26 ?_; intro gb505 hg w81 BK505 hb; have GW505 := bz_ w hg; have GE505 := GW505; have NB489_505 := bn_ BK489 hg; have NB505_489 := bm_ BK489 hg; have NB501_505 := bn_ BK501 hg; have NB505_501 := bm_ BK501 hg; replace BK489 := bb_ BK489 hb; replace BK501 := bb_ BK501 hb; replace HB := bs_ w hb; clear hb hg; have hnb82 := NB505_489.out; have hnc82 := NB489_505.out; have hnb83 := NB505_501.out; have hnc83 := NB501_505.out; obtain ⟨_, _, _, _⟩ := ce2_ BK505; obtain ⟨_, _, _, _, _, _, _, _, _, _, _, _⟩ := ce6_ BK489))
         go_ret2
         exact fi_
 ·rw [if_neg c4] at H
  have c4b0 : (t490 == 0) = false := beq_eq_false_iff_ne.mpr c4
  have c4b1 : (t490 != 0) = true := bne_iff_ne.mpr c4
  simp only [Option.some.injEq, Prod.mk.injEq] at H
  obtain ⟨rfl, rfl⟩ := H
  go_enter Try.func22, Try.ntmps22
  go_wp2_with (first | ((with_reducible refine gate_dst (N := 2) rfl ?_); refine bx_ #[.int .i64 a0_0, .int .i64 a0_1, .int .i64 a0_2, .int .u64 a0_3, .int .u64 a0_4, .int .u64 a0_5] 28 ?_; intro gb489 hg w86 BK489 hb; have GW489 := bz_ w hg; have GE489 := GW489; replace HB := bs_ w hb; clear hb hg; obtain ⟨_, _, _, _, _, _, _, _, _, _, _, _⟩ := ce6_ BK489) | ((with_reducible refine gate_callee (f := 16) rfl ?_); refine goesA_ (some 12) Try.func16 #[.agg #[.int .i64 a0_0, .int .i64 a0_1, .int .i64 a0_2, .int .u64 a0_3, .int .u64 a0_4, .int .u64 a0_5]] ?_; (with_reducible refine (spigotref37_Check.calls k a0_0 a0_1 a0_2 a0_3 a0_4 a0_5 t490 _ A3.out).mono ?_); rintro e w88 ⟨rfl, hb⟩; refine ⟨_, rfl, ?_⟩; replace BK489 := bb_ BK489 hb; replace HB := bs_ w hb; clear hb))
  go_ret2
  exact fi_

end Go.Proofs.Ytnijohomnajngaa.X
