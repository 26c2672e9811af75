-- written by xprint.py, a program of this session over the kit's print
import Derived.Test.YtnijohomnajngaaX0
import Derived.Test.YtnijohomnajngaaX15
import Derived.Test.YtnijohomnajngaaX17
import Derived.Test.YtnijohomnajngaaX18
import Derived.Test.YtnijohomnajngaaX29
import Derived.Test.YtnijohomnajngaaX36
import Derived.Test.YtnijohomnajngaaX41
namespace Go.Proofs.Ytnijohomnajngaa.X
open Go.RowKit Go.Proofs.YtnijohomnajngaaW.PrintWords Go.Proofs.YtnijohomnajngaaW.PrintLast Go.Proofs.YtnijohomnajngaaW.PrintMore
attribute [local go_sem] max2_int min2_int max_two min_two max_three min_three max_four min_four   -- for this text's walks alone
set_option linter.unusedVariables false
set_option linter.unusedSimpArgs false

/-! ### spigotref37_Wait: function 22 -/
def spigotref37_Wait.j0 : Nat → Int → Bool → Int → Int → Int → Int → Int → Int → Option (Int × Int)
  | 0, _, _, _, _, _, _, _, _ => none
  | k + 1, x1, x31, x490000, x490001, x490002, x490003, x490004, x490005 => if x31 = true then (some (18446744073709551615, 0)) else ((spigotref37_tokens.f x490000 x490001 x490002 x1).bind fun bt492 => ((spigotref37_sum.f x490003 x490004 bt492.1 bt492.2).bind fun bt494 => ((spigotref37_end.f x490000 x490001 x490002 x490005).bind fun bt496 => ((spigotref01_Sub.f k bt494.1 bt494.2 bt496.1 bt496.2).bind fun bt498 => ((spigotref01_Up.f k bt498.1 bt498.2.1 (IntKind.u64.wrap (x490001))).bind fun bt502 => (if bt502.1 > 0 then (some (18446744073709551615, 0)) else (if bt502.2.1 > (IntKind.u64.wrap (18446744073709551615 - x490005)) then (some (18446744073709551615, 0)) else (some (bt502.2.1, 0)))))))))
def spigotref37_Wait.f (k : Nat) (a0_0 : Int) (a0_1 : Int) (a0_2 : Int) (a0_3 : Int) (a0_4 : Int) (a0_5 : Int) (a1 : Int) : Option (Int × Int) := (spigotref37_Check.f k a0_0 a0_1 a0_2 a0_3 a0_4 a0_5).bind fun t490 => (if t490 = 0 then (if a1 < 0 then (some (0, 2)) else ((spigotref37_fits.f k a0_0 a0_1 a0_2 a0_3 a0_4 a0_5 a1).bind fun t491 => (if t491 = true then (some (0, 0)) else (if a1 > a0_0 then (spigotref37_Wait.j0 k a1 true a0_0 a0_1 a0_2 a0_3 a0_4 a0_5) else (spigotref37_Wait.j0 k a1 (a0_1 == 0) a0_0 a0_1 a0_2 a0_3 a0_4 a0_5))))) else (some (0, t490)))
theorem spigotref37_Wait.mono_l : ∀ k, (∀ y0 y1 y2 y3 y4 y5 y6 y7, LeO (spigotref37_Wait.j0 k y0 y1 y2 y3 y4 y5 y6 y7) (spigotref37_Wait.j0 (k + 1) y0 y1 y2 y3 y4 y5 y6 y7))
  | 0 => fun _ _ _ _ _ _ _ _ r h => by simp [spigotref37_Wait.j0] at h
  | k + 1 => by
    have ih0 := spigotref37_Wait.mono_l k
    · intro y0 y1 y2 y3 y4 y5 y6 y7
      unfold spigotref37_Wait.j0
      repeat' first
      | (with_reducible exact ih0 _ _ _ _ _ _ _ _)
      | (with_reducible exact spigotref01_Sub.mono _ _ _ _ _)
      | (with_reducible exact spigotref01_Up.mono _ _ _ _)
      | (with_reducible exact spigotref37_Check.mono _ _ _ _ _ _ _)
      | (with_reducible exact spigotref37_fits.mono _ _ _ _ _ _ _ _)
      | (with_reducible exact LeO.refl _)
      | (with_reducible exact LeO.none _)
      | (with_reducible refine LeO.ite ?_ ?_)
      | (with_reducible refine LeO.bind ?_ (fun _ => ?_))
      | exact ih0 _ _ _ _ _ _ _ _
      | exact spigotref01_Sub.mono _ _ _ _ _
      | exact spigotref01_Up.mono _ _ _ _
      | exact spigotref37_Check.mono _ _ _ _ _ _ _
      | exact spigotref37_fits.mono _ _ _ _ _ _ _ _
      | exact LeO.none _
      | refine LeO.ite ?_ ?_
      | refine LeO.bind ?_ (fun _ => ?_)
theorem spigotref37_Wait.mono : ∀ a0 a1 a2 a3 a4 a5 a6 k, LeO (spigotref37_Wait.f k a0 a1 a2 a3 a4 a5 a6) (spigotref37_Wait.f (k + 1) a0 a1 a2 a3 a4 a5 a6) := by
  intro a0 a1 a2 a3 a4 a5 a6 k
  have ih0 := spigotref37_Wait.mono_l k
  unfold spigotref37_Wait.f
  repeat' first
      | (with_reducible exact ih0 _ _ _ _ _ _ _ _)
      | (with_reducible exact spigotref01_Sub.mono _ _ _ _ _)
      | (with_reducible exact spigotref01_Up.mono _ _ _ _)
      | (with_reducible exact spigotref37_Check.mono _ _ _ _ _ _ _)
      | (with_reducible exact spigotref37_fits.mono _ _ _ _ _ _ _ _)
      | (with_reducible exact LeO.refl _)
      | (with_reducible exact LeO.none _)
      | (with_reducible refine LeO.ite ?_ ?_)
      | (with_reducible refine LeO.bind ?_ (fun _ => ?_))
      | exact ih0 _ _ _ _ _ _ _ _
      | exact spigotref01_Sub.mono _ _ _ _ _
      | exact spigotref01_Up.mono _ _ _ _
      | exact spigotref37_Check.mono _ _ _ _ _ _ _
      | exact spigotref37_fits.mono _ _ _ _ _ _ _ _
      | exact LeO.none _
      | refine LeO.ite ?_ ?_
      | refine LeO.bind ?_ (fun _ => ?_)
def spigotref37_Wait.T10 : Bool × List (List Nat × List Nat) := (true, [([], []), ([0], [0]), ([], []), ([2], [2]), ([], []), ([3, 4], [3, 4]), ([1, 5, 5], [1, 5]), ([], []), ([7], [7]), ([], []), ([9], [9]), ([8, 10, 6], [8, 10]), ([6, 11, 11], [6, 11]), ([12], [12]), ([13], [13]), ([13], [13]), ([], []), ([16, 14, 12, 0, 1, 2, 3, 4, 5, 6, 7, 8, 9, 10, 11, 12, 13, 14, 16], [14, 16]), ([15, 17, 0, 1, 2, 3, 4, 5, 6, 7, 8, 9, 10, 11, 12, 13, 14, 15, 16, 17], [15])])
def spigotref37_Wait.B10 : List Nat := [0, 1, 0, 4, 0, 28, 63, 0, 128, 0, 512, 2047, 4095, 8191, 16383, 16383, 0, 98303, 262143]
theorem spigotref37_Wait.tab10 : rtab .any (opsOf Try.f22 10) = spigotref37_Wait.T10 := by kernel_rfl
theorem spigotref37_Wait.bits10 : waitsOk spigotref37_Wait.T10.2 spigotref37_Wait.B10 = true := by kernel_rfl
set_option maxHeartbeats 8000000 in
set_option maxRecDepth 100000 in
theorem spigotref37_Wait.calls (k : Nat) (a0_0 : Int) (a0_1 : Int) (a0_2 : Int) (a0_3 : Int) (a0_4 : Int) (a0_5 : Int) (a1 : Int) (r1 : Int) (r2 : Int) (w : World) (h : spigotref37_Wait.f k a0_0 a0_1 a0_2 a0_3 a0_4 a0_5 a1 = some (r1, r2)) :
  Calls Try.prog 22 #[.agg #[.int .i64 a0_0, .int .i64 a0_1, .int .i64 a0_2, .int .u64 a0_3, .int .u64 a0_4, .int .u64 a0_5], .int .i64 a1] w fun e w' => e = .returned (.tuple #[.int .u64 r1, .int .i64 r2]) ∧ Below w.heap.size w w' := by
 have hu28 := Try.underlying28
 have hu26 := Try.underlying26
 have hu23 := Try.underlying23
 have HB := Aside0.mk (Below.refl w.heap.size w)
 have H : ((spigotref37_Check.f k a0_0 a0_1 a0_2 a0_3 a0_4 a0_5).bind fun t490 => (if t490 = 0 then (if a1 < 0 then (some (0, 2)) else ((spigotref37_fits.f k a0_0 a0_1 a0_2 a0_3 a0_4 a0_5 a1).bind fun t491 => (if t491 = true then (some (0, 0)) else (if a1 > a0_0 then (spigotref37_Wait.j0 k a1 true a0_0 a0_1 a0_2 a0_3 a0_4 a0_5) else (spigotref37_Wait.j0 k a1 (a0_1 == 0) a0_0 a0_1 a0_2 a0_3 a0_4 a0_5))))) else (some (0, t490)))) = some (r1, r2) := h
 clear h
 replace H := Option.bind_eq_some_iff.mp H
 obtain ⟨t490, A30, H⟩ := H
 try dsimp only at H
 have A3 := Aside0.mk A30
 clear A30
 by_cases c4 : t490 = 0
 ·rw [if_pos c4] at H
  have c4b0 : (t490 == 0) = true := beq_iff_eq.mpr c4
  have c4b1 : (t490 != 0) = false := bne_eq_false_iff_eq.mpr c4
  clear c4
  by_cases c5 : a1 < 0
  ·rw [if_pos c5] at H
   have c5b0 : decide (a1 < 0) = true := decide_eq_true c5
   clear c5
   simp only [Option.some.injEq, Prod.mk.injEq] at H
   obtain ⟨rfl, rfl⟩ := H
   go_enter Try.func22, Try.ntmps22
   go_wp2_with (first | ((with_reducible refine gate_dst (N := 2) rfl ?_); refine box_event ?hg (N := 2) ?hd (cs := #[.int .i64 a0_0, .int .i64 a0_1, .int .i64 a0_2, .int .u64 a0_3, .int .u64 a0_4, .int .u64 a0_5]) (t := 28) ?hr ?_; (case hd => rfl); (case hg => rfl); (case hr => first | (go_simp; done) | (go_simp; rfl)); intro gb489 hg w6 hbox hb; have BK489 := Aside0.mk (hbox); have GW489 := bz_ w hg; have GE489 := GW489; replace HB := bs_ w hb; clear hb hbox hg; obtain ⟨hcz7_0, hcz7_1, hcz7_2, hcz7_3, hcz7_4, hcz7_5, hfz7_0, hfz7_1, hfz7_2, hfz7_3, hfz7_4, hfz7_5⟩ := ce6_ BK489) | ((with_reducible refine gate_callee (f := 16) rfl ?_); refine goesA_ (some 12) Try.func16 #[.agg #[.int .i64 a0_0, .int .i64 a0_1, .int .i64 a0_2, .int .u64 a0_3, .int .u64 a0_4, .int .u64 a0_5]] ?_; (with_reducible refine (spigotref37_Check.calls k a0_0 a0_1 a0_2 a0_3 a0_4 a0_5 t490 _ A3.out).mono ?_); rintro e w8 ⟨rfl, hb⟩; refine ⟨_, rfl, ?_⟩; replace BK489 := bb_ BK489 hb; replace HB := bs_ w hb; (try clear hb); (try clear hb2); (try clear hk); (try clear hi)))
   go_ret2
   exact ⟨by first | rfl | (simp [errW_none, errW_some] <;> rfl) | (simp [*, errW_none, errW_some] <;> rfl), by repeat (first | (with_reducible first | exact HB.out | apply below_alloc | apply pw_below_drewN | apply below_drew1 | refine below_set ?_ GE489.out) | exact HB.out)⟩
  ·rw [if_neg c5] at H
   have c5b0 : decide (a1 < 0) = false := decide_eq_false c5
   clear c5
   replace H := Option.bind_eq_some_iff.mp H
   obtain ⟨t491, A90, H⟩ := H
   try dsimp only at H
   have A9 := Aside0.mk A90
   clear A90
   by_cases c10 : t491 = true
   ·subst c10
    have H1 : (some (0, 0)) = some (r1, r2) := by rw [if_pos rfl] at H; exact H
    clear H
    have H := H1
    clear H1
    simp only [Option.some.injEq, Prod.mk.injEq] at H
    obtain ⟨rfl, rfl⟩ := H
    go_enter Try.func22, Try.ntmps22
    go_wp2_with (first | ((with_reducible refine gate_dst (N := 2) rfl ?_); refine box_event ?hg (N := 2) ?hd (cs := #[.int .i64 a0_0, .int .i64 a0_1, .int .i64 a0_2, .int .u64 a0_3, .int .u64 a0_4, .int .u64 a0_5]) (t := 28) ?hr ?_; (case hd => rfl); (case hg => rfl); (case hr => first | (go_simp; done) | (go_simp; rfl)); intro gb489 hg w11 hbox hb; have BK489 := Aside0.mk (hbox); have GW489 := bz_ w hg; have GE489 := GW489; replace HB := bs_ w hb; clear hb hbox hg; obtain ⟨hcz12_0, hcz12_1, hcz12_2, hcz12_3, hcz12_4, hcz12_5, hfz12_0, hfz12_1, hfz12_2, hfz12_3, hfz12_4, hfz12_5⟩ := ce6_ BK489) | ((with_reducible refine gate_callee (f := 16) rfl ?_); refine goesA_ (some 12) Try.func16 #[.agg #[.int .i64 a0_0, .int .i64 a0_1, .int .i64 a0_2, .int .u64 a0_3, .int .u64 a0_4, .int .u64 a0_5]] ?_; (with_reducible refine (spigotref37_Check.calls k a0_0 a0_1 a0_2 a0_3 a0_4 a0_5 t490 _ A3.out).mono ?_); rintro e w13 ⟨rfl, hb⟩; refine ⟨_, rfl, ?_⟩; replace BK489 := bb_ BK489 hb; replace HB := bs_ w hb; (try clear hb); (try clear hb2); (try clear hk); (try clear hi); obtain ⟨hcz14_0, hcz14_1, hcz14_2, hcz14_3, hcz14_4, hcz14_5, hfz14_0, hfz14_1, hfz14_2, hfz14_3, hfz14_4, hfz14_5⟩ := ce6_ BK489) | ((with_reducible refine gate_callee (f := 50) rfl ?_); refine goesA_ (some 20) Try.func50 #[.agg #[.int .i64 a0_0, .int .i64 a0_1, .int .i64 a0_2, .int .u64 a0_3, .int .u64 a0_4, .int .u64 a0_5], .int .i64 a1] ?_; (with_reducible refine (spigotref37_fits.calls k a0_0 a0_1 a0_2 a0_3 a0_4 a0_5 a1 true _ A9.out).mono ?_); rintro e w15 ⟨rfl, hb⟩; refine ⟨_, rfl, ?_⟩; replace BK489 := bb_ BK489 hb; replace HB := bs_ w hb; (try clear hb); (try clear hb2); (try clear hk); (try clear hi)))
    go_ret2
    exact ⟨by first | rfl | (simp [errW_none, errW_some] <;> rfl) | (simp [*, errW_none, errW_some] <;> rfl), by repeat (first | (with_reducible first | exact HB.out | apply below_alloc | apply pw_below_drewN | apply below_drew1 | refine below_set ?_ GE489.out) | exact HB.out)⟩
   ·replace c10 := Bool.eq_false_iff.mpr c10
    subst c10
    have H1 : (if a1 > a0_0 then (spigotref37_Wait.j0 k a1 true a0_0 a0_1 a0_2 a0_3 a0_4 a0_5) else (spigotref37_Wait.j0 k a1 (a0_1 == 0) a0_0 a0_1 a0_2 a0_3 a0_4 a0_5)) = some (r1, r2) := by rw [if_neg (show ¬ (false = true) by decide)] at H; exact H
    clear H
    have H := H1
    clear H1
    have HC16 := Aside0.mk H
    clear H
    go_enter Try.func22, Try.ntmps22
    go_upto_region 8 with (first | ((with_reducible refine gate_dst (N := 2) rfl ?_); refine box_event ?hg (N := 2) ?hd (cs := #[.int .i64 a0_0, .int .i64 a0_1, .int .i64 a0_2, .int .u64 a0_3, .int .u64 a0_4, .int .u64 a0_5]) (t := 28) ?hr ?_; (case hd => rfl); (case hg => rfl); (case hr => first | (go_simp; done) | (go_simp; rfl)); intro gb489 hg w17 hbox hb; have BK489 := Aside0.mk (hbox); have GW489 := bz_ w hg; have GE489 := GW489; replace HB := bs_ w hb; clear hb hbox hg; obtain ⟨hcz18_0, hcz18_1, hcz18_2, hcz18_3, hcz18_4, hcz18_5, hfz18_0, hfz18_1, hfz18_2, hfz18_3, hfz18_4, hfz18_5⟩ := ce6_ BK489) | ((with_reducible refine gate_callee (f := 16) rfl ?_); refine goesA_ (some 12) Try.func16 #[.agg #[.int .i64 a0_0, .int .i64 a0_1, .int .i64 a0_2, .int .u64 a0_3, .int .u64 a0_4, .int .u64 a0_5]] ?_; (with_reducible refine (spigotref37_Check.calls k a0_0 a0_1 a0_2 a0_3 a0_4 a0_5 t490 _ A3.out).mono ?_); rintro e w19 ⟨rfl, hb⟩; refine ⟨_, rfl, ?_⟩; replace BK489 := bb_ BK489 hb; replace HB := bs_ w hb; (try clear hb); (try clear hb2); (try clear hk); (try clear hi); obtain ⟨hcz20_0, hcz20_1, hcz20_2, hcz20_3, hcz20_4, hcz20_5, hfz20_0, hfz20_1, hfz20_2, hfz20_3, hfz20_4, hfz20_5⟩ := ce6_ BK489) | ((with_reducible refine gate_callee (f := 50) rfl ?_); refine goesA_ (some 20) Try.func50 #[.agg #[.int .i64 a0_0, .int .i64 a0_1, .int .i64 a0_2, .int .u64 a0_3, .int .u64 a0_4, .int .u64 a0_5], .int .i64 a1] ?_; (with_reducible refine (spigotref37_fits.calls k a0_0 a0_1 a0_2 a0_3 a0_4 a0_5 a1 false _ A9.out).mono ?_); rintro e w21 ⟨rfl, hb⟩; refine ⟨_, rfl, ?_⟩; replace BK489 := bb_ BK489 hb; replace HB := bs_ w hb; (try clear hb); (try clear hb2); (try clear hk); (try clear hi)))
    (try simp only [Act.put, List.setIfInBounds_toArray, List.set_cons_zero, List.set_cons_succ])
    go_cut [31] (fun v31 wc => ∃ (kq : Nat) (x31_15 : Bool), v31 = .bool x31_15 ∧ Aside0 (spigotref37_Wait.j0 kq a1 x31_15 a0_0 a0_1 a0_2 a0_3 a0_4 a0_5 = some (r1, r2)) ∧ Aside0 (kq ≤ k) ∧ Aside0 (wc.heap[gb489]? = some (.cells #[.int .i64 a0_0, .int .i64 a0_1, .int .i64 a0_2, .int .u64 a0_3, .int .u64 a0_4, .int .u64 a0_5] 28 (0, 0))) ∧ Aside0 (Below w.heap.size w wc))
    case first =>
     have H := HC16.out
     clear HC16
     by_cases c22 : a1 > a0_0
     ·rw [if_pos c22] at H
      have c22b0 : decide (a0_0 < a1) = true := decide_eq_true c22
      clear c22
      (first | rw [c22b0] | (simp only [i64_w, i32_w]; rw [c22b0]) | skip)
      have H' := Aside0.mk H
      clear H
      obtain ⟨hcz23_0, hcz23_1, hcz23_2, hcz23_3, hcz23_4, hcz23_5, hfz23_0, hfz23_1, hfz23_2, hfz23_3, hfz23_4, hfz23_5⟩ := ce6_ BK489
      go_wp2
      go_meet
      case rel => exact ⟨_, (true), (by first | rfl | (simp; done) | (simp [*]; done)), H', ⟨by first | omega | exact Nat.le_refl _⟩, ⟨bq_ BK489⟩, ⟨by repeat (first | (with_reducible first | exact HB.out | apply below_alloc | apply pw_below_drewN | apply below_drew1 | refine below_set ?_ GE489.out) | exact HB.out)⟩⟩
     ·rw [if_neg c22] at H
      have c22b0 : decide (a0_0 < a1) = false := decide_eq_false c22
      clear c22
      (first | rw [c22b0] | (simp only [i64_w, i32_w]; rw [c22b0]) | skip)
      have H' := Aside0.mk H
      clear H
      obtain ⟨hcz24_0, hcz24_1, hcz24_2, hcz24_3, hcz24_4, hcz24_5, hfz24_0, hfz24_1, hfz24_2, hfz24_3, hfz24_4, hfz24_5⟩ := ce6_ BK489
      go_wp2
      go_meet
      case rel => exact ⟨_, ((a0_1 == 0)), (by first | rfl | (simp; done) | (simp [*]; done)), H', ⟨by first | omega | exact Nat.le_refl _⟩, ⟨bq_ BK489⟩, ⟨by repeat (first | (with_reducible first | exact HB.out | apply below_alloc | apply pw_below_drewN | apply below_drew1 | refine below_set ?_ GE489.out) | exact HB.out)⟩⟩
    case rest =>
     clear HC16
     try clear c1
     try clear c2
     try clear p2
     try clear c4
     try clear c4b0
     try clear c4b1
     try clear c5
     try clear c5b0
     try clear c10
     try clear c16
     try clear c22
     try clear c22b0
     try clear hcz12_0
     try clear hcz12_1
     try clear hcz12_2
     try clear hcz12_3
     try clear hcz12_4
     try clear hcz12_5
     try clear hcz14_0
     try clear hcz14_1
     try clear hcz14_2
     try clear hcz14_3
     try clear hcz14_4
     try clear hcz14_5
     try clear hcz18_0
     try clear hcz18_1
     try clear hcz18_2
     try clear hcz18_3
     try clear hcz18_4
     try clear hcz18_5
     try clear hcz20_0
     try clear hcz20_1
     try clear hcz20_2
     try clear hcz20_3
     try clear hcz20_4
     try clear hcz20_5
     try clear hcz23_0
     try clear hcz23_1
     try clear hcz23_2
     try clear hcz23_3
     try clear hcz23_4
     try clear hcz23_5
     try clear hcz24_0
     try clear hcz24_1
     try clear hcz24_2
     try clear hcz24_3
     try clear hcz24_4
     try clear hcz24_5
     try clear hcz7_0
     try clear hcz7_1
     try clear hcz7_2
     try clear hcz7_3
     try clear hcz7_4
     try clear hcz7_5
     try clear hfz12_0
     try clear hfz12_1
     try clear hfz12_2
     try clear hfz12_3
     try clear hfz12_4
     try clear hfz12_5
     try clear hfz14_0
     try clear hfz14_1
     try clear hfz14_2
     try clear hfz14_3
     try clear hfz14_4
     try clear hfz14_5
     try clear hfz18_0
     try clear hfz18_1
     try clear hfz18_2
     try clear hfz18_3
     try clear hfz18_4
     try clear hfz18_5
     try clear hfz20_0
     try clear hfz20_1
     try clear hfz20_2
     try clear hfz20_3
     try clear hfz20_4
     try clear hfz20_5
     try clear hfz23_0
     try clear hfz23_1
     try clear hfz23_2
     try clear hfz23_3
     try clear hfz23_4
     try clear hfz23_5
     try clear hfz24_0
     try clear hfz24_1
     try clear hfz24_2
     try clear hfz24_3
     try clear hfz24_4
     try clear hfz24_5
     try clear hfz7_0
     try clear hfz7_1
     try clear hfz7_2
     try clear hfz7_3
     try clear hfz7_4
     try clear hfz7_5
     obtain ⟨kq, x31_15, rfl, HA, HJ15, BK489, HB⟩ := hcut
     cases kq with
     | zero => exact absurd HA.out (by simp [spigotref37_Wait.j0])
     | succ kj15 =>
      have H := HA.out
      clear HA
      simp only [spigotref37_Wait.j0] at H
      by_cases c25 : x31_15 = true
      ·subst c25
       have H1 : (some (18446744073709551615, 0)) = some (r1, r2) := by rw [if_pos rfl] at H; exact H
       clear H
       have H := H1
       clear H1
       simp only [Option.some.injEq, Prod.mk.injEq] at H
       obtain ⟨rfl, rfl⟩ := H
       go_wp2
       go_ret2
       exact ⟨by first | rfl | (simp [errW_none, errW_some] <;> rfl) | (simp [*, errW_none, errW_some] <;> rfl), by repeat (first | (with_reducible first | exact HB.out | apply below_alloc | apply pw_below_drewN | apply below_drew1 | refine below_set ?_ GE489.out) | exact HB.out)⟩
      ·replace c25 := Bool.eq_false_iff.mpr c25
       subst c25
       have H1 : ((spigotref37_tokens.f a0_0 a0_1 a0_2 a1).bind fun bt492 => ((spigotref37_sum.f a0_3 a0_4 bt492.1 bt492.2).bind fun bt494 => ((spigotref37_end.f a0_0 a0_1 a0_2 a0_5).bind fun bt496 => ((spigotref01_Sub.f kj15 bt494.1 bt494.2 bt496.1 bt496.2).bind fun bt498 => ((spigotref01_Up.f kj15 bt498.1 bt498.2.1 (IntKind.u64.wrap (a0_1))).bind fun bt502 => (if bt502.1 > 0 then (some (18446744073709551615, 0)) else (if bt502.2.1 > (IntKind.u64.wrap (18446744073709551615 - a0_5)) then (some (18446744073709551615, 0)) else (some (bt502.2.1, 0))))))))) = some (r1, r2) := by rw [if_neg (show ¬ (false = true) by decide)] at H; exact H
       clear H
       have H := H1
       clear H1
       replace H := Option.bind_eq_some_iff.mp H
       obtain ⟨⟨t492, t493⟩, A260, H⟩ := H
       try dsimp only at H
       have A26 := Aside0.mk A260
       clear A260
       replace H := Option.bind_eq_some_iff.mp H
       obtain ⟨⟨t494, t495⟩, A270, H⟩ := H
       try dsimp only at H
       have A27 := Aside0.mk A270
       clear A270
       replace H := Option.bind_eq_some_iff.mp H
       obtain ⟨⟨t496, t497⟩, A280, H⟩ := H
       try dsimp only at H
       have A28 := Aside0.mk A280
       clear A280
       replace H := Option.bind_eq_some_iff.mp H
       obtain ⟨⟨t498, t499, t500⟩, A290, H⟩ := H
       try dsimp only at H
       have A29 := Aside0.mk A290
       clear A290
       replace H := Option.bind_eq_some_iff.mp H
       obtain ⟨⟨t502, t503, t504⟩, A300, H⟩ := H
       try dsimp only at H
       have A30 := Aside0.mk A300
       clear A300
       by_cases c31 : t502 > 0
       ·rw [if_pos c31] at H
        have c31b0 : decide (0 < t502) = true := decide_eq_true c31
        clear c31
        simp only [Option.some.injEq, Prod.mk.injEq] at H
        obtain ⟨rfl, rfl⟩ := H
        try go_wp2
        replace BK489 := Aside0.mk (blk_drew BK489.out)
        replace HB := Aside0.mk (below_drew1 HB.out)
        refine start_ (n := 19) (S := fun w' => w'.cell? ⟨gb489, 0, none⟩ = some (.int .i64 a0_0) ∧ w'.cell? ⟨gb489, 1, none⟩ = some (.int .i64 a0_1) ∧ w'.cell? ⟨gb489, 2, none⟩ = some (.int .i64 a0_2) ∧ w'.cell? ⟨gb489, 3, none⟩ = some (.int .u64 a0_3) ∧ w'.cell? ⟨gb489, 4, none⟩ = some (.int .u64 a0_4) ∧ w'.cell? ⟨gb489, 5, none⟩ = some (.int .u64 a0_5)) (ds := []) #[false, false, false, false, false, false, false, false, false, false, false, false, false, false, false, false, false, false, false] (by kernel_rfl) rfl rfl ⟨(blk_cell BK489.out 0).trans rfl, (blk_cell BK489.out 1).trans rfl, (blk_cell BK489.out 2).trans rfl, (blk_cell BK489.out 3).trans rfl, (blk_cell BK489.out 4).trans rfl, (blk_cell BK489.out 5).trans rfl⟩ (fun hHeld => ?_); refine with_tabW spigotref37_Wait.tab10 spigotref37_Wait.bits10 (fun HT_ HW_ => ?_)
        generalize wc.drew = w32 at BK489 HB hHeld ⊢
        refine pure_ (i := 0) (N := some 33) (v := ?_) (a' := ?_) #[true, false, false, false, false, false, false, false, false, false, false, false, false, false, false, false, false, false, false] rfl rfl (any_of HT_.out (by kernel_rfl)) (fun _ _ _ h => h) (Or.inl ⟨by rfl, ?_⟩) ?_ ?_
        rotate_left
        ·intro w'
         go_simp
         with_reducible rfl
        rotate_left
        ·simp only [Act.put, List.setIfInBounds_toArray, List.set_cons_zero, List.set_cons_succ, i64_w, i32_w]
         rfl
        refine pure_ (i := 2) (N := some 35) (v := ?_) (a' := ?_) #[true, false, true, false, false, false, false, false, false, false, false, false, false, false, false, false, false, false, false] rfl rfl (any_of HT_.out (by kernel_rfl)) (fun _ _ _ h => h) (Or.inl ⟨by rfl, ?_⟩) ?_ ?_
        rotate_left
        ·intro w'
         go_simp
         with_reducible rfl
        rotate_left
        ·simp only [Act.put, List.setIfInBounds_toArray, List.set_cons_zero, List.set_cons_succ, i64_w, i32_w]
         rfl
        refine pure_ (i := 4) (N := some 37) (v := ?_) (a' := ?_) #[true, false, true, false, true, false, false, false, false, false, false, false, false, false, false, false, false, false, false] rfl rfl (any_of HT_.out (by kernel_rfl)) (fun _ _ _ h => h) (Or.inl ⟨by rfl, ?_⟩) ?_ ?_
        rotate_left
        ·intro w'
         go_simp
         with_reducible rfl
        rotate_left
        ·simp only [Act.put, List.setIfInBounds_toArray, List.set_cons_zero, List.set_cons_succ, i64_w, i32_w]
         rfl
        refine pure_ (i := 7) (N := some 40) (v := ?_) (a' := ?_) #[true, false, true, false, true, false, false, true, false, false, false, false, false, false, false, false, false, false, false] rfl rfl (any_of HT_.out (by kernel_rfl)) (fun _ _ _ h => h) (Or.inl ⟨by rfl, ?_⟩) ?_ ?_
        rotate_left
        ·intro w'
         go_simp
         with_reducible rfl
        rotate_left
        ·simp only [Act.put, List.setIfInBounds_toArray, List.set_cons_zero, List.set_cons_succ, i64_w, i32_w]
         rfl
        refine pure_ (i := 9) (N := some 42) (v := ?_) (a' := ?_) #[true, false, true, false, true, false, false, true, false, true, false, false, false, false, false, false, false, false, false] rfl rfl (any_of HT_.out (by kernel_rfl)) (fun _ _ _ h => h) (Or.inl ⟨by rfl, ?_⟩) ?_ ?_
        rotate_left
        ·intro w'
         go_simp
         with_reducible rfl
        rotate_left
        ·simp only [Act.put, List.setIfInBounds_toArray, List.set_cons_zero, List.set_cons_succ, i64_w, i32_w]
         rfl
        refine take_ (i := 1) (N := some 34) (v := ?_) (a' := ?_) #[true, true, true, false, true, false, false, true, false, true, false, false, false, false, false, false, false, false, false] rfl rfl (take_ofW HT_.out HW_.out (by kernel_rfl)) (fun _ _ _ h => h) (Or.inl ⟨by rfl, ?_⟩) hHeld ?_ ?_
        rotate_left
        ·rintro w' ⟨s0, s1, s2, s3, s4, s5⟩
         go_simp
         with_reducible rfl
        rotate_left
        ·simp only [Act.put, List.setIfInBounds_toArray, List.set_cons_zero, List.set_cons_succ, i64_w, i32_w]
         rfl
        refine take_ (i := 3) (N := some 36) (v := ?_) (a' := ?_) #[true, true, true, true, true, false, false, true, false, true, false, false, false, false, false, false, false, false, false] rfl rfl (take_ofW HT_.out HW_.out (by kernel_rfl)) (fun _ _ _ h => h) (Or.inl ⟨by rfl, ?_⟩) hHeld ?_ ?_
        rotate_left
        ·rintro w' ⟨s0, s1, s2, s3, s4, s5⟩
         go_simp
         with_reducible rfl
        rotate_left
        ·simp only [Act.put, List.setIfInBounds_toArray, List.set_cons_zero, List.set_cons_succ, i64_w, i32_w]
         rfl
        refine take_ (i := 8) (N := some 41) (v := ?_) (a' := ?_) #[true, true, true, true, true, false, false, true, true, true, false, false, false, false, false, false, false, false, false] rfl rfl (take_ofW HT_.out HW_.out (by kernel_rfl)) (fun _ _ _ h => h) (Or.inl ⟨by rfl, ?_⟩) hHeld ?_ ?_
        rotate_left
        ·rintro w' ⟨s0, s1, s2, s3, s4, s5⟩
         go_simp
         with_reducible rfl
        rotate_left
        ·simp only [Act.put, List.setIfInBounds_toArray, List.set_cons_zero, List.set_cons_succ, i64_w, i32_w]
         rfl
        refine take_ (i := 10) (N := some 43) (v := ?_) (a' := ?_) #[true, true, true, true, true, false, false, true, true, true, true, false, false, false, false, false, false, false, false] rfl rfl (take_ofW HT_.out HW_.out (by kernel_rfl)) (fun _ _ _ h => h) (Or.inl ⟨by rfl, ?_⟩) hHeld ?_ ?_
        rotate_left
        ·rintro w' ⟨s0, s1, s2, s3, s4, s5⟩
         go_simp
         with_reducible rfl
        rotate_left
        ·simp only [Act.put, List.setIfInBounds_toArray, List.set_cons_zero, List.set_cons_succ, i64_w, i32_w]
         rfl
        refine join_ (σ := Nat) 2 #[true, true, true, true, true, true, true, true, true, true, true, true, true, true, true, true, true, false, false] (fun s_ => [(38, .agg #[.int .u64 t492, .int .u64 t493]), (39, .agg #[.int .u64 t494, .int .u64 t495]), (44, .agg #[.int .u64 t496, .int .u64 t497]), (45, .tuple #[.agg #[.int .u64 t498, .int .u64 t499], .int .i64 t500]), (7, .pointer (some ⟨s_, 0, none⟩)), (32, .tuple #[.agg #[.int .u64 t498, .int .u64 t499], .int .i64 t500]), (46, .agg #[.int .u64 t498, .int .u64 t499]), (47, .int .i64 t500)]) (fun s_ w' => (w'.cell? ⟨gb489, 0, none⟩ = some (.int .i64 a0_0) ∧ w'.cell? ⟨gb489, 1, none⟩ = some (.int .i64 a0_1) ∧ w'.cell? ⟨gb489, 2, none⟩ = some (.int .i64 a0_2) ∧ w'.cell? ⟨gb489, 3, none⟩ = some (.int .u64 a0_3) ∧ w'.cell? ⟨gb489, 4, none⟩ = some (.int .u64 a0_4) ∧ w'.cell? ⟨gb489, 5, none⟩ = some (.int .u64 a0_5)) ∧ (w'.heap[gb489]? = some (.cells #[.int .i64 a0_0, .int .i64 a0_1, .int .i64 a0_2, .int .u64 a0_3, .int .u64 a0_4, .int .u64 a0_5] 28 (0, 0))) ∧ (w'.heap[s_]? = some (.cells #[.int .u64 0, .int .u64 0] 26 (0, 0))) ∧ (w.heap.size ≤ s_) ∧ (w.heap.size ≤ s_) ∧ (gb489 ≠ s_) ∧ (s_ ≠ gb489) ∧ (Below w.heap.size w w')) ?_ ?_
        rotate_left
        ·intro hJ5_6_11_12_16
         refine join_ (σ := Unit) 3 #[true, true, true, true, true, true, true, true, true, true, true, true, true, true, true, true, false, false, false] (fun s_ => [(38, .agg #[.int .u64 t492, .int .u64 t493]), (39, .agg #[.int .u64 t494, .int .u64 t495]), (44, .agg #[.int .u64 t496, .int .u64 t497]), (45, .tuple #[.agg #[.int .u64 t498, .int .u64 t499], .int .i64 t500]), (32, .tuple #[.agg #[.int .u64 t498, .int .u64 t499], .int .i64 t500]), (46, .agg #[.int .u64 t498, .int .u64 t499]), (47, .int .i64 t500)]) (fun s_ w' => (w'.cell? ⟨gb489, 0, none⟩ = some (.int .i64 a0_0) ∧ w'.cell? ⟨gb489, 1, none⟩ = some (.int .i64 a0_1) ∧ w'.cell? ⟨gb489, 2, none⟩ = some (.int .i64 a0_2) ∧ w'.cell? ⟨gb489, 3, none⟩ = some (.int .u64 a0_3) ∧ w'.cell? ⟨gb489, 4, none⟩ = some (.int .u64 a0_4) ∧ w'.cell? ⟨gb489, 5, none⟩ = some (.int .u64 a0_5)) ∧ (w'.heap[gb489]? = some (.cells #[.int .i64 a0_0, .int .i64 a0_1, .int .i64 a0_2, .int .u64 a0_3, .int .u64 a0_4, .int .u64 a0_5] 28 (0, 0))) ∧ (Below w.heap.size w w')) ?_ ?_
         rotate_left
         ·intro hJ5_6_11_12
          refine join_ (σ := Nat) 6 #[true, true, true, true, true, true, true, true, true, true, true, true, false, false, false, false, true, false, false] (fun s_ => [(38, .agg #[.int .u64 t492, .int .u64 t493]), (39, .agg #[.int .u64 t494, .int .u64 t495]), (44, .agg #[.int .u64 t496, .int .u64 t497]), (7, .pointer (some ⟨s_, 0, none⟩))]) (fun s_ w' => (w'.cell? ⟨gb489, 0, none⟩ = some (.int .i64 a0_0) ∧ w'.cell? ⟨gb489, 1, none⟩ = some (.int .i64 a0_1) ∧ w'.cell? ⟨gb489, 2, none⟩ = some (.int .i64 a0_2) ∧ w'.cell? ⟨gb489, 3, none⟩ = some (.int .u64 a0_3) ∧ w'.cell? ⟨gb489, 4, none⟩ = some (.int .u64 a0_4) ∧ w'.cell? ⟨gb489, 5, none⟩ = some (.int .u64 a0_5)) ∧ (w'.heap[gb489]? = some (.cells #[.int .i64 a0_0, .int .i64 a0_1, .int .i64 a0_2, .int .u64 a0_3, .int .u64 a0_4, .int .u64 a0_5] 28 (0, 0))) ∧ (w'.heap[s_]? = some (.cells #[.int .u64 0, .int .u64 0] 26 (0, 0))) ∧ (w.heap.size ≤ s_) ∧ (w.heap.size ≤ s_) ∧ (gb489 ≠ s_) ∧ (s_ ≠ gb489) ∧ (Below w.heap.size w w')) ?_ ?_
          rotate_left
          ·intro hJ5_6_11_16
           refine join_ (σ := Unit) 7 #[true, true, true, true, true, true, true, true, true, true, true, true, false, false, false, false, false, false, false] (fun s_ => [(38, .agg #[.int .u64 t492, .int .u64 t493]), (39, .agg #[.int .u64 t494, .int .u64 t495]), (44, .agg #[.int .u64 t496, .int .u64 t497])]) (fun s_ w' => (w'.cell? ⟨gb489, 0, none⟩ = some (.int .i64 a0_0) ∧ w'.cell? ⟨gb489, 1, none⟩ = some (.int .i64 a0_1) ∧ w'.cell? ⟨gb489, 2, none⟩ = some (.int .i64 a0_2) ∧ w'.cell? ⟨gb489, 3, none⟩ = some (.int .u64 a0_3) ∧ w'.cell? ⟨gb489, 4, none⟩ = some (.int .u64 a0_4) ∧ w'.cell? ⟨gb489, 5, none⟩ = some (.int .u64 a0_5)) ∧ (w'.heap[gb489]? = some (.cells #[.int .i64 a0_0, .int .i64 a0_1, .int .i64 a0_2, .int .u64 a0_3, .int .u64 a0_4, .int .u64 a0_5] 28 (0, 0))) ∧ (Below w.heap.size w w')) ?_ ?_
           rotate_left
           ·intro hJ5_6_11
            refine join_ (σ := Nat) 7 #[true, true, true, true, true, true, true, true, true, true, true, false, false, false, false, false, true, false, false] (fun s_ => [(38, .agg #[.int .u64 t492, .int .u64 t493]), (39, .agg #[.int .u64 t494, .int .u64 t495]), (7, .pointer (some ⟨s_, 0, none⟩))]) (fun s_ w' => (w'.cell? ⟨gb489, 0, none⟩ = some (.int .i64 a0_0) ∧ w'.cell? ⟨gb489, 1, none⟩ = some (.int .i64 a0_1) ∧ w'.cell? ⟨gb489, 2, none⟩ = some (.int .i64 a0_2) ∧ w'.cell? ⟨gb489, 3, none⟩ = some (.int .u64 a0_3) ∧ w'.cell? ⟨gb489, 4, none⟩ = some (.int .u64 a0_4) ∧ w'.cell? ⟨gb489, 5, none⟩ = some (.int .u64 a0_5)) ∧ (w'.heap[gb489]? = some (.cells #[.int .i64 a0_0, .int .i64 a0_1, .int .i64 a0_2, .int .u64 a0_3, .int .u64 a0_4, .int .u64 a0_5] 28 (0, 0))) ∧ (w'.heap[s_]? = some (.cells #[.int .u64 0, .int .u64 0] 26 (0, 0))) ∧ (w.heap.size ≤ s_) ∧ (w.heap.size ≤ s_) ∧ (gb489 ≠ s_) ∧ (s_ ≠ gb489) ∧ (Below w.heap.size w w')) ?_ ?_
            rotate_left
            ·intro hJ5_6_16
             refine join_ (σ := Unit) 8 #[true, true, true, true, true, true, true, true, true, true, true, false, false, false, false, false, false, false, false] (fun s_ => [(38, .agg #[.int .u64 t492, .int .u64 t493]), (39, .agg #[.int .u64 t494, .int .u64 t495])]) (fun s_ w' => (w'.cell? ⟨gb489, 0, none⟩ = some (.int .i64 a0_0) ∧ w'.cell? ⟨gb489, 1, none⟩ = some (.int .i64 a0_1) ∧ w'.cell? ⟨gb489, 2, none⟩ = some (.int .i64 a0_2) ∧ w'.cell? ⟨gb489, 3, none⟩ = some (.int .u64 a0_3) ∧ w'.cell? ⟨gb489, 4, none⟩ = some (.int .u64 a0_4) ∧ w'.cell? ⟨gb489, 5, none⟩ = some (.int .u64 a0_5)) ∧ (w'.heap[gb489]? = some (.cells #[.int .i64 a0_0, .int .i64 a0_1, .int .i64 a0_2, .int .u64 a0_3, .int .u64 a0_4, .int .u64 a0_5] 28 (0, 0))) ∧ (Below w.heap.size w w')) ?_ ?_
             rotate_left
             ·intro hJ5_6
              refine join_ (σ := Nat) 8 #[true, true, true, true, true, true, false, true, true, true, true, false, false, false, false, false, true, false, false] (fun s_ => [(38, .agg #[.int .u64 t492, .int .u64 t493]), (7, .pointer (some ⟨s_, 0, none⟩))]) (fun s_ w' => (w'.cell? ⟨gb489, 0, none⟩ = some (.int .i64 a0_0) ∧ w'.cell? ⟨gb489, 1, none⟩ = some (.int .i64 a0_1) ∧ w'.cell? ⟨gb489, 2, none⟩ = some (.int .i64 a0_2) ∧ w'.cell? ⟨gb489, 3, none⟩ = some (.int .u64 a0_3) ∧ w'.cell? ⟨gb489, 4, none⟩ = some (.int .u64 a0_4) ∧ w'.cell? ⟨gb489, 5, none⟩ = some (.int .u64 a0_5)) ∧ (w'.heap[gb489]? = some (.cells #[.int .i64 a0_0, .int .i64 a0_1, .int .i64 a0_2, .int .u64 a0_3, .int .u64 a0_4, .int .u64 a0_5] 28 (0, 0))) ∧ (w'.heap[s_]? = some (.cells #[.int .u64 0, .int .u64 0] 26 (0, 0))) ∧ (w.heap.size ≤ s_) ∧ (w.heap.size ≤ s_) ∧ (gb489 ≠ s_) ∧ (s_ ≠ gb489) ∧ (Below w.heap.size w w')) ?_ ?_
              rotate_left
              ·intro hJ5_16
               refine join_ (σ := Unit) 9 #[true, true, true, true, true, true, false, true, true, true, true, false, false, false, false, false, false, false, false] (fun s_ => [(38, .agg #[.int .u64 t492, .int .u64 t493])]) (fun s_ w' => (w'.cell? ⟨gb489, 0, none⟩ = some (.int .i64 a0_0) ∧ w'.cell? ⟨gb489, 1, none⟩ = some (.int .i64 a0_1) ∧ w'.cell? ⟨gb489, 2, none⟩ = some (.int .i64 a0_2) ∧ w'.cell? ⟨gb489, 3, none⟩ = some (.int .u64 a0_3) ∧ w'.cell? ⟨gb489, 4, none⟩ = some (.int .u64 a0_4) ∧ w'.cell? ⟨gb489, 5, none⟩ = some (.int .u64 a0_5)) ∧ (w'.heap[gb489]? = some (.cells #[.int .i64 a0_0, .int .i64 a0_1, .int .i64 a0_2, .int .u64 a0_3, .int .u64 a0_4, .int .u64 a0_5] 28 (0, 0))) ∧ (Below w.heap.size w w')) ?_ ?_
               rotate_left
               ·intro hJ5
                refine join_ (σ := Nat) 9 #[true, true, true, true, true, false, false, true, true, true, true, false, false, false, false, false, true, false, false] (fun s_ => [(7, .pointer (some ⟨s_, 0, none⟩))]) (fun s_ w' => (w'.cell? ⟨gb489, 0, none⟩ = some (.int .i64 a0_0) ∧ w'.cell? ⟨gb489, 1, none⟩ = some (.int .i64 a0_1) ∧ w'.cell? ⟨gb489, 2, none⟩ = some (.int .i64 a0_2) ∧ w'.cell? ⟨gb489, 3, none⟩ = some (.int .u64 a0_3) ∧ w'.cell? ⟨gb489, 4, none⟩ = some (.int .u64 a0_4) ∧ w'.cell? ⟨gb489, 5, none⟩ = some (.int .u64 a0_5)) ∧ (w'.heap[gb489]? = some (.cells #[.int .i64 a0_0, .int .i64 a0_1, .int .i64 a0_2, .int .u64 a0_3, .int .u64 a0_4, .int .u64 a0_5] 28 (0, 0))) ∧ (w'.heap[s_]? = some (.cells #[.int .u64 0, .int .u64 0] 26 (0, 0))) ∧ (w.heap.size ≤ s_) ∧ (w.heap.size ≤ s_) ∧ (gb489 ≠ s_) ∧ (s_ ≠ gb489) ∧ (Below w.heap.size w w')) ?_ ?_
                rotate_left
                ·intro hJ16
                 refine two_ (i := 5) (j := 16) (Ni := some 38) (Nj := some 7) #[true, true, true, true, true, true, false, true, true, true, true, false, false, false, false, false, false, false, false] #[true, true, true, true, true, false, false, true, true, true, true, false, false, false, false, false, true, false, false] rfl rfl rfl rfl (two_of HT_.out (by kernel_rfl)) (by decide) (by decide) (fun K hK => ?_) (fun K hK => ?_)
                 ·skip
                  refine goes_ Try.func40 (by kernel_rfl) rfl #[.agg #[.int .i64 a0_0, .int .i64 a0_1, .int .i64 a0_2], .int .i64 a1] (by rfl) rfl rfl (by (try simp only [List.map_toArray, List.map_cons, List.map_nil]); first | done | rfl | (simp only [List.length_drop, List.length_take]; rfl)) ?_
                  with_reducible refine (spigotref37_tokens.calls a0_0 a0_1 a0_2 a1 t492 t493 _ A26.out).mono ?_
                  rintro e w33 ⟨rfl, hb⟩
                  refine ⟨_, rfl, ?_⟩
                  replace BK489 := bb_ BK489 hb
                  replace HB := bs_ w hb
                  (try clear hb)
                  (try clear hb2)
                  (try clear hk)
                  (try clear hi)
                  refine hK.out _ _ ⟨(blk_cell BK489.out 0).trans rfl, (blk_cell BK489.out 1).trans rfl, (blk_cell BK489.out 2).trans rfl, (blk_cell BK489.out 3).trans rfl, (blk_cell BK489.out 4).trans rfl, (blk_cell BK489.out 5).trans rfl⟩ (fun hHeld => ?_)
                  clear hK K
                  refine norm_ (a' := ?_) ?_ ?_
                  rotate_left
                  ·show Act.put _ (some 38) _ = _
                   simp only [Act.put, List.setIfInBounds_toArray, List.set_cons_zero, List.set_cons_succ, i64_w, i32_w]
                   rfl
                  exact norm_ (by first | (simp only [putAll, Act.put, List.setIfInBounds_toArray, List.set_cons_zero, List.set_cons_succ]; done) | (simp only [putAll, Act.put, List.setIfInBounds_toArray, List.set_cons_zero, List.set_cons_succ]; rfl)) (hJ5 () _ ⟨hHeld, (bq_ BK489), (by repeat (first | (with_reducible first | exact HB.out | apply below_alloc | apply pw_below_drewN | apply below_drew1 | refine below_set ?_ (Aside0.out (by assumption))) | exact HB.out))⟩)
                 ·skip
                  refine box_step ?hg (N := 7) ?hd (cs := #[.int .u64 0, .int .u64 0]) (t := 26) ?hr ?_; (case hd => rfl); (case hg => rfl); (case hr => first | (go_simp; done) | (go_simp; rfl))
                  intro gb501 hg w33 hbox hb
                  have BK501 := Aside0.mk (hbox)
                  have GW501 := bz_ w hg
                  have GE501 := GW501
                  have NB489_501 := bn_ BK489 hg
                  have NB501_489 := bm_ BK489 hg
                  replace BK489 := bb_ BK489 hb
                  replace HB := bs_ w hb
                  clear hb hbox hg
                  refine hK.out _ _ ⟨(blk_cell BK489.out 0).trans rfl, (blk_cell BK489.out 1).trans rfl, (blk_cell BK489.out 2).trans rfl, (blk_cell BK489.out 3).trans rfl, (blk_cell BK489.out 4).trans rfl, (blk_cell BK489.out 5).trans rfl⟩ (fun hHeld => ?_)
                  clear hK K
                  refine norm_ (a' := ?_) ?_ ?_
                  rotate_left
                  ·show Act.put _ (some 7) _ = _
                   simp only [Act.put, List.setIfInBounds_toArray, List.set_cons_zero, List.set_cons_succ, i64_w, i32_w]
                   rfl
                  exact norm_ (by first | (simp only [putAll, Act.put, List.setIfInBounds_toArray, List.set_cons_zero, List.set_cons_succ]; done) | (simp only [putAll, Act.put, List.setIfInBounds_toArray, List.set_cons_zero, List.set_cons_succ]; rfl)) (hJ16 (gb501) _ ⟨hHeld, (bq_ BK489), (bq_ BK501), GW501.out, GE501.out, NB489_501.out, NB501_489.out, (by repeat (first | (with_reducible first | exact HB.out | apply below_alloc | apply pw_below_drewN | apply below_drew1 | refine below_set ?_ (Aside0.out (by assumption))) | exact HB.out))⟩)
                ·skip
                 rintro gb501 w34 ⟨hS_, h0_, h1_, h2_, h3_, h4_, h5_, h6_⟩
                 have BK501 : Aside0 (w34.heap[gb501]? = some (.cells #[.int .u64 0, .int .u64 0] 26 (0, 0))) := ⟨h1_⟩
                 have GW501 : Aside0 (w.heap.size ≤ gb501) := ⟨h2_⟩
                 have GE501 : Aside0 (w.heap.size ≤ gb501) := ⟨h3_⟩
                 have NB489_501 : Aside0 (gb489 ≠ gb501) := ⟨h4_⟩
                 have NB501_489 : Aside0 (gb501 ≠ gb489) := ⟨h5_⟩
                 replace BK489 : Aside0 (w34.heap[gb489]? = some (.cells #[.int .i64 a0_0, .int .i64 a0_1, .int .i64 a0_2, .int .u64 a0_3, .int .u64 a0_4, .int .u64 a0_5] 28 (0, 0))) := ⟨h0_⟩
                 replace HB : Aside0 (Below w.heap.size w w34) := ⟨h6_⟩
                 clear h0_ h1_ h2_ h3_ h4_ h5_ h6_
                 have hHeld : w34.cell? ⟨gb489, 0, none⟩ = some (.int .i64 a0_0) ∧ w34.cell? ⟨gb489, 1, none⟩ = some (.int .i64 a0_1) ∧ w34.cell? ⟨gb489, 2, none⟩ = some (.int .i64 a0_2) ∧ w34.cell? ⟨gb489, 3, none⟩ = some (.int .u64 a0_3) ∧ w34.cell? ⟨gb489, 4, none⟩ = some (.int .u64 a0_4) ∧ w34.cell? ⟨gb489, 5, none⟩ = some (.int .u64 a0_5) := hS_
                 refine norm_ (a' := ?_) ?_ ?_
                 rotate_left
                 ·simp only [putAll, Act.put, List.setIfInBounds_toArray, List.set_cons_zero, List.set_cons_succ]
                  rfl
                 refine one_ (i := 5) (N := some 38) #[true, true, true, true, true, true, false, true, true, true, true, false, false, false, false, false, true, false, false] rfl rfl (one_of HT_.out (by kernel_rfl)) (by decide) (fun K hK => ?_)
                 refine goes_ Try.func40 (by kernel_rfl) rfl #[.agg #[.int .i64 a0_0, .int .i64 a0_1, .int .i64 a0_2], .int .i64 a1] (by rfl) rfl rfl (by (try simp only [List.map_toArray, List.map_cons, List.map_nil]); first | done | rfl | (simp only [List.length_drop, List.length_take]; rfl)) ?_
                 with_reducible refine (spigotref37_tokens.calls a0_0 a0_1 a0_2 a1 t492 t493 _ A26.out).mono ?_
                 rintro e w35 ⟨rfl, hb⟩
                 refine ⟨_, rfl, ?_⟩
                 replace BK489 := bb_ BK489 hb
                 replace BK501 := bb_ BK501 hb
                 replace HB := bs_ w hb
                 (try clear hb)
                 (try clear hb2)
                 (try clear hk)
                 (try clear hi)
                 refine hK.out _ _ ⟨(blk_cell BK489.out 0).trans rfl, (blk_cell BK489.out 1).trans rfl, (blk_cell BK489.out 2).trans rfl, (blk_cell BK489.out 3).trans rfl, (blk_cell BK489.out 4).trans rfl, (blk_cell BK489.out 5).trans rfl⟩ (fun hHeld => ?_)
                 clear hK K
                 refine norm_ (a' := ?_) ?_ ?_
                 rotate_left
                 ·show Act.put _ (some 38) _ = _
                  simp only [Act.put, List.setIfInBounds_toArray, List.set_cons_zero, List.set_cons_succ, i64_w, i32_w]
                  rfl
                 exact norm_ (by first | (simp only [putAll, Act.put, List.setIfInBounds_toArray, List.set_cons_zero, List.set_cons_succ]; done) | (simp only [putAll, Act.put, List.setIfInBounds_toArray, List.set_cons_zero, List.set_cons_succ]; rfl)) (hJ5_16 (gb501) _ ⟨hHeld, (bq_ BK489), (bq_ BK501), GW501.out, GE501.out, NB489_501.out, NB501_489.out, (by repeat (first | (with_reducible first | exact HB.out | apply below_alloc | apply pw_below_drewN | apply below_drew1 | refine below_set ?_ (Aside0.out (by assumption))) | exact HB.out))⟩)
               ·skip
                rintro _ w34 ⟨hS_, h0_, h1_⟩
                replace BK489 : Aside0 (w34.heap[gb489]? = some (.cells #[.int .i64 a0_0, .int .i64 a0_1, .int .i64 a0_2, .int .u64 a0_3, .int .u64 a0_4, .int .u64 a0_5] 28 (0, 0))) := ⟨h0_⟩
                replace HB : Aside0 (Below w.heap.size w w34) := ⟨h1_⟩
                clear h0_ h1_
                have hHeld : w34.cell? ⟨gb489, 0, none⟩ = some (.int .i64 a0_0) ∧ w34.cell? ⟨gb489, 1, none⟩ = some (.int .i64 a0_1) ∧ w34.cell? ⟨gb489, 2, none⟩ = some (.int .i64 a0_2) ∧ w34.cell? ⟨gb489, 3, none⟩ = some (.int .u64 a0_3) ∧ w34.cell? ⟨gb489, 4, none⟩ = some (.int .u64 a0_4) ∧ w34.cell? ⟨gb489, 5, none⟩ = some (.int .u64 a0_5) := hS_
                refine norm_ (a' := ?_) ?_ ?_
                rotate_left
                ·simp only [putAll, Act.put, List.setIfInBounds_toArray, List.set_cons_zero, List.set_cons_succ]
                 rfl
                refine two_ (i := 6) (j := 16) (Ni := some 39) (Nj := some 7) #[true, true, true, true, true, true, true, true, true, true, true, false, false, false, false, false, false, false, false] #[true, true, true, true, true, true, false, true, true, true, true, false, false, false, false, false, true, false, false] rfl rfl rfl rfl (two_of HT_.out (by kernel_rfl)) (by decide) (by decide) (fun K hK => ?_) (fun K hK => ?_)
                ·skip
                 refine goes_ Try.func39 (by kernel_rfl) rfl #[.agg #[.int .u64 a0_3, .int .u64 a0_4], .agg #[.int .u64 t492, .int .u64 t493]] (by rfl) rfl rfl (by (try simp only [List.map_toArray, List.map_cons, List.map_nil]); first | done | rfl | (simp only [List.length_drop, List.length_take]; rfl)) ?_
                 with_reducible refine (spigotref37_sum.calls a0_3 a0_4 t492 t493 t494 t495 _ A27.out).mono ?_
                 rintro e w35 ⟨rfl, hb⟩
                 refine ⟨_, rfl, ?_⟩
                 replace BK489 := bb_ BK489 hb
                 replace HB := bs_ w hb
                 (try clear hb)
                 (try clear hb2)
                 (try clear hk)
                 (try clear hi)
                 refine hK.out _ _ ⟨(blk_cell BK489.out 0).trans rfl, (blk_cell BK489.out 1).trans rfl, (blk_cell BK489.out 2).trans rfl, (blk_cell BK489.out 3).trans rfl, (blk_cell BK489.out 4).trans rfl, (blk_cell BK489.out 5).trans rfl⟩ (fun hHeld => ?_)
                 clear hK K
                 refine norm_ (a' := ?_) ?_ ?_
                 rotate_left
                 ·show Act.put _ (some 39) _ = _
                  simp only [Act.put, List.setIfInBounds_toArray, List.set_cons_zero, List.set_cons_succ, i64_w, i32_w]
                  rfl
                 exact norm_ (by first | (simp only [putAll, Act.put, List.setIfInBounds_toArray, List.set_cons_zero, List.set_cons_succ]; done) | (simp only [putAll, Act.put, List.setIfInBounds_toArray, List.set_cons_zero, List.set_cons_succ]; rfl)) (hJ5_6 () _ ⟨hHeld, (bq_ BK489), (by repeat (first | (with_reducible first | exact HB.out | apply below_alloc | apply pw_below_drewN | apply below_drew1 | refine below_set ?_ (Aside0.out (by assumption))) | exact HB.out))⟩)
                ·skip
                 refine box_step ?hg (N := 7) ?hd (cs := #[.int .u64 0, .int .u64 0]) (t := 26) ?hr ?_; (case hd => rfl); (case hg => rfl); (case hr => first | (go_simp; done) | (go_simp; rfl))
                 intro gb501 hg w35 hbox hb
                 have BK501 := Aside0.mk (hbox)
                 have GW501 := bz_ w hg
                 have GE501 := GW501
                 have NB489_501 := bn_ BK489 hg
                 have NB501_489 := bm_ BK489 hg
                 replace BK489 := bb_ BK489 hb
                 replace HB := bs_ w hb
                 clear hb hbox hg
                 refine hK.out _ _ ⟨(blk_cell BK489.out 0).trans rfl, (blk_cell BK489.out 1).trans rfl, (blk_cell BK489.out 2).trans rfl, (blk_cell BK489.out 3).trans rfl, (blk_cell BK489.out 4).trans rfl, (blk_cell BK489.out 5).trans rfl⟩ (fun hHeld => ?_)
                 clear hK K
                 refine norm_ (a' := ?_) ?_ ?_
                 rotate_left
                 ·show Act.put _ (some 7) _ = _
                  simp only [Act.put, List.setIfInBounds_toArray, List.set_cons_zero, List.set_cons_succ, i64_w, i32_w]
                  rfl
                 exact norm_ (by first | (simp only [putAll, Act.put, List.setIfInBounds_toArray, List.set_cons_zero, List.set_cons_succ]; done) | (simp only [putAll, Act.put, List.setIfInBounds_toArray, List.set_cons_zero, List.set_cons_succ]; rfl)) (hJ5_16 (gb501) _ ⟨hHeld, (bq_ BK489), (bq_ BK501), GW501.out, GE501.out, NB489_501.out, NB501_489.out, (by repeat (first | (with_reducible first | exact HB.out | apply below_alloc | apply pw_below_drewN | apply below_drew1 | refine below_set ?_ (Aside0.out (by assumption))) | exact HB.out))⟩)
              ·skip
               rintro gb501 w35 ⟨hS_, h0_, h1_, h2_, h3_, h4_, h5_, h6_⟩
               have BK501 : Aside0 (w35.heap[gb501]? = some (.cells #[.int .u64 0, .int .u64 0] 26 (0, 0))) := ⟨h1_⟩
               have GW501 : Aside0 (w.heap.size ≤ gb501) := ⟨h2_⟩
               have GE501 : Aside0 (w.heap.size ≤ gb501) := ⟨h3_⟩
               have NB489_501 : Aside0 (gb489 ≠ gb501) := ⟨h4_⟩
               have NB501_489 : Aside0 (gb501 ≠ gb489) := ⟨h5_⟩
               replace BK489 : Aside0 (w35.heap[gb489]? = some (.cells #[.int .i64 a0_0, .int .i64 a0_1, .int .i64 a0_2, .int .u64 a0_3, .int .u64 a0_4, .int .u64 a0_5] 28 (0, 0))) := ⟨h0_⟩
               replace HB : Aside0 (Below w.heap.size w w35) := ⟨h6_⟩
               clear h0_ h1_ h2_ h3_ h4_ h5_ h6_
               have hHeld : w35.cell? ⟨gb489, 0, none⟩ = some (.int .i64 a0_0) ∧ w35.cell? ⟨gb489, 1, none⟩ = some (.int .i64 a0_1) ∧ w35.cell? ⟨gb489, 2, none⟩ = some (.int .i64 a0_2) ∧ w35.cell? ⟨gb489, 3, none⟩ = some (.int .u64 a0_3) ∧ w35.cell? ⟨gb489, 4, none⟩ = some (.int .u64 a0_4) ∧ w35.cell? ⟨gb489, 5, none⟩ = some (.int .u64 a0_5) := hS_
               refine norm_ (a' := ?_) ?_ ?_
               rotate_left
               ·simp only [putAll, Act.put, List.setIfInBounds_toArray, List.set_cons_zero, List.set_cons_succ]
                rfl
               refine one_ (i := 6) (N := some 39) #[true, true, true, true, true, true, true, true, true, true, true, false, false, false, false, false, true, false, false] rfl rfl (one_of HT_.out (by kernel_rfl)) (by decide) (fun K hK => ?_)
               refine goes_ Try.func39 (by kernel_rfl) rfl #[.agg #[.int .u64 a0_3, .int .u64 a0_4], .agg #[.int .u64 t492, .int .u64 t493]] (by rfl) rfl rfl (by (try simp only [List.map_toArray, List.map_cons, List.map_nil]); first | done | rfl | (simp only [List.length_drop, List.length_take]; rfl)) ?_
               with_reducible refine (spigotref37_sum.calls a0_3 a0_4 t492 t493 t494 t495 _ A27.out).mono ?_
               rintro e w36 ⟨rfl, hb⟩
               refine ⟨_, rfl, ?_⟩
               replace BK489 := bb_ BK489 hb
               replace BK501 := bb_ BK501 hb
               replace HB := bs_ w hb
               (try clear hb)
               (try clear hb2)
               (try clear hk)
               (try clear hi)
               refine hK.out _ _ ⟨(blk_cell BK489.out 0).trans rfl, (blk_cell BK489.out 1).trans rfl, (blk_cell BK489.out 2).trans rfl, (blk_cell BK489.out 3).trans rfl, (blk_cell BK489.out 4).trans rfl, (blk_cell BK489.out 5).trans rfl⟩ (fun hHeld => ?_)
               clear hK K
               refine norm_ (a' := ?_) ?_ ?_
               rotate_left
               ·show Act.put _ (some 39) _ = _
                simp only [Act.put, List.setIfInBounds_toArray, List.set_cons_zero, List.set_cons_succ, i64_w, i32_w]
                rfl
               exact norm_ (by first | (simp only [putAll, Act.put, List.setIfInBounds_toArray, List.set_cons_zero, List.set_cons_succ]; done) | (simp only [putAll, Act.put, List.setIfInBounds_toArray, List.set_cons_zero, List.set_cons_succ]; rfl)) (hJ5_6_16 (gb501) _ ⟨hHeld, (bq_ BK489), (bq_ BK501), GW501.out, GE501.out, NB489_501.out, NB501_489.out, (by repeat (first | (with_reducible first | exact HB.out | apply below_alloc | apply pw_below_drewN | apply below_drew1 | refine below_set ?_ (Aside0.out (by assumption))) | exact HB.out))⟩)
             ·skip
              rintro _ w35 ⟨hS_, h0_, h1_⟩
              replace BK489 : Aside0 (w35.heap[gb489]? = some (.cells #[.int .i64 a0_0, .int .i64 a0_1, .int .i64 a0_2, .int .u64 a0_3, .int .u64 a0_4, .int .u64 a0_5] 28 (0, 0))) := ⟨h0_⟩
              replace HB : Aside0 (Below w.heap.size w w35) := ⟨h1_⟩
              clear h0_ h1_
              have hHeld : w35.cell? ⟨gb489, 0, none⟩ = some (.int .i64 a0_0) ∧ w35.cell? ⟨gb489, 1, none⟩ = some (.int .i64 a0_1) ∧ w35.cell? ⟨gb489, 2, none⟩ = some (.int .i64 a0_2) ∧ w35.cell? ⟨gb489, 3, none⟩ = some (.int .u64 a0_3) ∧ w35.cell? ⟨gb489, 4, none⟩ = some (.int .u64 a0_4) ∧ w35.cell? ⟨gb489, 5, none⟩ = some (.int .u64 a0_5) := hS_
              refine norm_ (a' := ?_) ?_ ?_
              rotate_left
              ·simp only [putAll, Act.put, List.setIfInBounds_toArray, List.set_cons_zero, List.set_cons_succ]
               rfl
              refine two_ (i := 11) (j := 16) (Ni := some 44) (Nj := some 7) #[true, true, true, true, true, true, true, true, true, true, true, true, false, false, false, false, false, false, false] #[true, true, true, true, true, true, true, true, true, true, true, false, false, false, false, false, true, false, false] rfl rfl rfl rfl (two_of HT_.out (by kernel_rfl)) (by decide) (by decide) (fun K hK => ?_) (fun K hK => ?_)
              ·skip
               refine goes_ Try.func42 (by kernel_rfl) rfl #[.agg #[.int .i64 a0_0, .int .i64 a0_1, .int .i64 a0_2], .int .u64 a0_5] (by rfl) rfl rfl (by (try simp only [List.map_toArray, List.map_cons, List.map_nil]); first | done | rfl | (simp only [List.length_drop, List.length_take]; rfl)) ?_
               with_reducible refine (spigotref37_end.calls a0_0 a0_1 a0_2 a0_5 t496 t497 _ A28.out).mono ?_
               rintro e w36 ⟨rfl, hb⟩
               refine ⟨_, rfl, ?_⟩
               replace BK489 := bb_ BK489 hb
               replace HB := bs_ w hb
               (try clear hb)
               (try clear hb2)
               (try clear hk)
               (try clear hi)
               refine hK.out _ _ ⟨(blk_cell BK489.out 0).trans rfl, (blk_cell BK489.out 1).trans rfl, (blk_cell BK489.out 2).trans rfl, (blk_cell BK489.out 3).trans rfl, (blk_cell BK489.out 4).trans rfl, (blk_cell BK489.out 5).trans rfl⟩ (fun hHeld => ?_)
               clear hK K
               refine norm_ (a' := ?_) ?_ ?_
               rotate_left
               ·show Act.put _ (some 44) _ = _
                simp only [Act.put, List.setIfInBounds_toArray, List.set_cons_zero, List.set_cons_succ, i64_w, i32_w]
                rfl
               exact norm_ (by first | (simp only [putAll, Act.put, List.setIfInBounds_toArray, List.set_cons_zero, List.set_cons_succ]; done) | (simp only [putAll, Act.put, List.setIfInBounds_toArray, List.set_cons_zero, List.set_cons_succ]; rfl)) (hJ5_6_11 () _ ⟨hHeld, (bq_ BK489), (by repeat (first | (with_reducible first | exact HB.out | apply below_alloc | apply pw_below_drewN | apply below_drew1 | refine below_set ?_ (Aside0.out (by assumption))) | exact HB.out))⟩)
              ·skip
               refine box_step ?hg (N := 7) ?hd (cs := #[.int .u64 0, .int .u64 0]) (t := 26) ?hr ?_; (case hd => rfl); (case hg => rfl); (case hr => first | (go_simp; done) | (go_simp; rfl))
               intro gb501 hg w36 hbox hb
               have BK501 := Aside0.mk (hbox)
               have GW501 := bz_ w hg
               have GE501 := GW501
               have NB489_501 := bn_ BK489 hg
               have NB501_489 := bm_ BK489 hg
               replace BK489 := bb_ BK489 hb
               replace HB := bs_ w hb
               clear hb hbox hg
               refine hK.out _ _ ⟨(blk_cell BK489.out 0).trans rfl, (blk_cell BK489.out 1).trans rfl, (blk_cell BK489.out 2).trans rfl, (blk_cell BK489.out 3).trans rfl, (blk_cell BK489.out 4).trans rfl, (blk_cell BK489.out 5).trans rfl⟩ (fun hHeld => ?_)
               clear hK K
               refine norm_ (a' := ?_) ?_ ?_
               rotate_left
               ·show Act.put _ (some 7) _ = _
                simp only [Act.put, List.setIfInBounds_toArray, List.set_cons_zero, List.set_cons_succ, i64_w, i32_w]
                rfl
               exact norm_ (by first | (simp only [putAll, Act.put, List.setIfInBounds_toArray, List.set_cons_zero, List.set_cons_succ]; done) | (simp only [putAll, Act.put, List.setIfInBounds_toArray, List.set_cons_zero, List.set_cons_succ]; rfl)) (hJ5_6_16 (gb501) _ ⟨hHeld, (bq_ BK489), (bq_ BK501), GW501.out, GE501.out, NB489_501.out, NB501_489.out, (by repeat (first | (with_reducible first | exact HB.out | apply below_alloc | apply pw_below_drewN | apply below_drew1 | refine below_set ?_ (Aside0.out (by assumption))) | exact HB.out))⟩)
            ·skip
             rintro gb501 w36 ⟨hS_, h0_, h1_, h2_, h3_, h4_, h5_, h6_⟩
             have BK501 : Aside0 (w36.heap[gb501]? = some (.cells #[.int .u64 0, .int .u64 0] 26 (0, 0))) := ⟨h1_⟩
             have GW501 : Aside0 (w.heap.size ≤ gb501) := ⟨h2_⟩
             have GE501 : Aside0 (w.heap.size ≤ gb501) := ⟨h3_⟩
             have NB489_501 : Aside0 (gb489 ≠ gb501) := ⟨h4_⟩
             have NB501_489 : Aside0 (gb501 ≠ gb489) := ⟨h5_⟩
             replace BK489 : Aside0 (w36.heap[gb489]? = some (.cells #[.int .i64 a0_0, .int .i64 a0_1, .int .i64 a0_2, .int .u64 a0_3, .int .u64 a0_4, .int .u64 a0_5] 28 (0, 0))) := ⟨h0_⟩
             replace HB : Aside0 (Below w.heap.size w w36) := ⟨h6_⟩
             clear h0_ h1_ h2_ h3_ h4_ h5_ h6_
             have hHeld : w36.cell? ⟨gb489, 0, none⟩ = some (.int .i64 a0_0) ∧ w36.cell? ⟨gb489, 1, none⟩ = some (.int .i64 a0_1) ∧ w36.cell? ⟨gb489, 2, none⟩ = some (.int .i64 a0_2) ∧ w36.cell? ⟨gb489, 3, none⟩ = some (.int .u64 a0_3) ∧ w36.cell? ⟨gb489, 4, none⟩ = some (.int .u64 a0_4) ∧ w36.cell? ⟨gb489, 5, none⟩ = some (.int .u64 a0_5) := hS_
             refine norm_ (a' := ?_) ?_ ?_
             rotate_left
             ·simp only [putAll, Act.put, List.setIfInBounds_toArray, List.set_cons_zero, List.set_cons_succ]
              rfl
             refine one_ (i := 11) (N := some 44) #[true, true, true, true, true, true, true, true, true, true, true, true, false, false, false, false, true, false, false] rfl rfl (one_of HT_.out (by kernel_rfl)) (by decide) (fun K hK => ?_)
             refine goes_ Try.func42 (by kernel_rfl) rfl #[.agg #[.int .i64 a0_0, .int .i64 a0_1, .int .i64 a0_2], .int .u64 a0_5] (by rfl) rfl rfl (by (try simp only [List.map_toArray, List.map_cons, List.map_nil]); first | done | rfl | (simp only [List.length_drop, List.length_take]; rfl)) ?_
             with_reducible refine (spigotref37_end.calls a0_0 a0_1 a0_2 a0_5 t496 t497 _ A28.out).mono ?_
             rintro e w37 ⟨rfl, hb⟩
             refine ⟨_, rfl, ?_⟩
             replace BK489 := bb_ BK489 hb
             replace BK501 := bb_ BK501 hb
             replace HB := bs_ w hb
             (try clear hb)
             (try clear hb2)
             (try clear hk)
             (try clear hi)
             refine hK.out _ _ ⟨(blk_cell BK489.out 0).trans rfl, (blk_cell BK489.out 1).trans rfl, (blk_cell BK489.out 2).trans rfl, (blk_cell BK489.out 3).trans rfl, (blk_cell BK489.out 4).trans rfl, (blk_cell BK489.out 5).trans rfl⟩ (fun hHeld => ?_)
             clear hK K
             refine norm_ (a' := ?_) ?_ ?_
             rotate_left
             ·show Act.put _ (some 44) _ = _
              simp only [Act.put, List.setIfInBounds_toArray, List.set_cons_zero, List.set_cons_succ, i64_w, i32_w]
              rfl
             exact norm_ (by first | (simp only [putAll, Act.put, List.setIfInBounds_toArray, List.set_cons_zero, List.set_cons_succ]; done) | (simp only [putAll, Act.put, List.setIfInBounds_toArray, List.set_cons_zero, List.set_cons_succ]; rfl)) (hJ5_6_11_16 (gb501) _ ⟨hHeld, (bq_ BK489), (bq_ BK501), GW501.out, GE501.out, NB489_501.out, NB501_489.out, (by repeat (first | (with_reducible first | exact HB.out | apply below_alloc | apply pw_below_drewN | apply below_drew1 | refine below_set ?_ (Aside0.out (by assumption))) | exact HB.out))⟩)
           ·skip
            rintro _ w36 ⟨hS_, h0_, h1_⟩
            replace BK489 : Aside0 (w36.heap[gb489]? = some (.cells #[.int .i64 a0_0, .int .i64 a0_1, .int .i64 a0_2, .int .u64 a0_3, .int .u64 a0_4, .int .u64 a0_5] 28 (0, 0))) := ⟨h0_⟩
            replace HB : Aside0 (Below w.heap.size w w36) := ⟨h1_⟩
            clear h0_ h1_
            have hHeld : w36.cell? ⟨gb489, 0, none⟩ = some (.int .i64 a0_0) ∧ w36.cell? ⟨gb489, 1, none⟩ = some (.int .i64 a0_1) ∧ w36.cell? ⟨gb489, 2, none⟩ = some (.int .i64 a0_2) ∧ w36.cell? ⟨gb489, 3, none⟩ = some (.int .u64 a0_3) ∧ w36.cell? ⟨gb489, 4, none⟩ = some (.int .u64 a0_4) ∧ w36.cell? ⟨gb489, 5, none⟩ = some (.int .u64 a0_5) := hS_
            refine norm_ (a' := ?_) ?_ ?_
            rotate_left
            ·simp only [putAll, Act.put, List.setIfInBounds_toArray, List.set_cons_zero, List.set_cons_succ]
             rfl
            refine two_ (i := 12) (j := 16) (Ni := some 45) (Nj := some 7) #[true, true, true, true, true, true, true, true, true, true, true, true, true, false, false, false, false, false, false] #[true, true, true, true, true, true, true, true, true, true, true, true, false, false, false, false, true, false, false] rfl rfl rfl rfl (two_of HT_.out (by kernel_rfl)) (by decide) (by decide) (fun K hK => ?_) (fun K hK => ?_)
            ·skip
             refine goes_ Try.func41 (by kernel_rfl) rfl #[.agg #[.int .u64 t494, .int .u64 t495], .agg #[.int .u64 t496, .int .u64 t497]] (by rfl) rfl rfl (by (try simp only [List.map_toArray, List.map_cons, List.map_nil]); first | done | rfl | (simp only [List.length_drop, List.length_take]; rfl)) ?_
             with_reducible refine (spigotref01_Sub.calls kj15 t494 t495 t496 t497 t498 t499 t500 _ A29.out).mono ?_
             rintro e w37 ⟨rfl, hb⟩
             refine ⟨_, rfl, ?_⟩
             replace BK489 := bb_ BK489 hb
             replace HB := bs_ w hb
             (try clear hb)
             (try clear hb2)
             (try clear hk)
             (try clear hi)
             refine hK.out _ _ ⟨(blk_cell BK489.out 0).trans rfl, (blk_cell BK489.out 1).trans rfl, (blk_cell BK489.out 2).trans rfl, (blk_cell BK489.out 3).trans rfl, (blk_cell BK489.out 4).trans rfl, (blk_cell BK489.out 5).trans rfl⟩ (fun hHeld => ?_)
             clear hK K
             refine norm_ (a' := ?_) ?_ ?_
             rotate_left
             ·show Act.put _ (some 45) _ = _
              simp only [Act.put, List.setIfInBounds_toArray, List.set_cons_zero, List.set_cons_succ, i64_w, i32_w]
              rfl
             refine pure_ (i := 13) (N := some 32) (v := ?_) (a' := ?_) #[true, true, true, true, true, true, true, true, true, true, true, true, true, true, false, false, false, false, false] rfl rfl (any_of HT_.out (by kernel_rfl)) (fun _ _ _ h => h) (Or.inl ⟨by rfl, ?_⟩) ?_ ?_
             rotate_left
             ·intro w'
              go_simp
              with_reducible rfl
             rotate_left
             ·simp only [Act.put, List.setIfInBounds_toArray, List.set_cons_zero, List.set_cons_succ, i64_w, i32_w]
              rfl
             refine pure_ (i := 14) (N := some 46) (v := ?_) (a' := ?_) #[true, true, true, true, true, true, true, true, true, true, true, true, true, true, true, false, false, false, false] rfl rfl (any_of HT_.out (by kernel_rfl)) (fun _ _ _ h => h) (Or.inl ⟨by rfl, ?_⟩) ?_ ?_
             rotate_left
             ·intro w'
              go_simp
              with_reducible rfl
             rotate_left
             ·simp only [Act.put, List.setIfInBounds_toArray, List.set_cons_zero, List.set_cons_succ, i64_w, i32_w]
              rfl
             refine pure_ (i := 15) (N := some 47) (v := ?_) (a' := ?_) #[true, true, true, true, true, true, true, true, true, true, true, true, true, true, true, true, false, false, false] rfl rfl (any_of HT_.out (by kernel_rfl)) (fun _ _ _ h => h) (Or.inl ⟨by rfl, ?_⟩) ?_ ?_
             rotate_left
             ·intro w'
              go_simp
              with_reducible rfl
             rotate_left
             ·simp only [Act.put, List.setIfInBounds_toArray, List.set_cons_zero, List.set_cons_succ, i64_w, i32_w]
              rfl
             exact norm_ (by first | (simp only [putAll, Act.put, List.setIfInBounds_toArray, List.set_cons_zero, List.set_cons_succ]; done) | (simp only [putAll, Act.put, List.setIfInBounds_toArray, List.set_cons_zero, List.set_cons_succ]; rfl)) (hJ5_6_11_12 () _ ⟨hHeld, (bq_ BK489), (by repeat (first | (with_reducible first | exact HB.out | apply below_alloc | apply pw_below_drewN | apply below_drew1 | refine below_set ?_ (Aside0.out (by assumption))) | exact HB.out))⟩)
            ·skip
             refine box_step ?hg (N := 7) ?hd (cs := #[.int .u64 0, .int .u64 0]) (t := 26) ?hr ?_; (case hd => rfl); (case hg => rfl); (case hr => first | (go_simp; done) | (go_simp; rfl))
             intro gb501 hg w37 hbox hb
             have BK501 := Aside0.mk (hbox)
             have GW501 := bz_ w hg
             have GE501 := GW501
             have NB489_501 := bn_ BK489 hg
             have NB501_489 := bm_ BK489 hg
             replace BK489 := bb_ BK489 hb
             replace HB := bs_ w hb
             clear hb hbox hg
             refine hK.out _ _ ⟨(blk_cell BK489.out 0).trans rfl, (blk_cell BK489.out 1).trans rfl, (blk_cell BK489.out 2).trans rfl, (blk_cell BK489.out 3).trans rfl, (blk_cell BK489.out 4).trans rfl, (blk_cell BK489.out 5).trans rfl⟩ (fun hHeld => ?_)
             clear hK K
             refine norm_ (a' := ?_) ?_ ?_
             rotate_left
             ·show Act.put _ (some 7) _ = _
              simp only [Act.put, List.setIfInBounds_toArray, List.set_cons_zero, List.set_cons_succ, i64_w, i32_w]
              rfl
             exact norm_ (by first | (simp only [putAll, Act.put, List.setIfInBounds_toArray, List.set_cons_zero, List.set_cons_succ]; done) | (simp only [putAll, Act.put, List.setIfInBounds_toArray, List.set_cons_zero, List.set_cons_succ]; rfl)) (hJ5_6_11_16 (gb501) _ ⟨hHeld, (bq_ BK489), (bq_ BK501), GW501.out, GE501.out, NB489_501.out, NB501_489.out, (by repeat (first | (with_reducible first | exact HB.out | apply below_alloc | apply pw_below_drewN | apply below_drew1 | refine below_set ?_ (Aside0.out (by assumption))) | exact HB.out))⟩)
          ·skip
           rintro gb501 w37 ⟨hS_, h0_, h1_, h2_, h3_, h4_, h5_, h6_⟩
           have BK501 : Aside0 (w37.heap[gb501]? = some (.cells #[.int .u64 0, .int .u64 0] 26 (0, 0))) := ⟨h1_⟩
           have GW501 : Aside0 (w.heap.size ≤ gb501) := ⟨h2_⟩
           have GE501 : Aside0 (w.heap.size ≤ gb501) := ⟨h3_⟩
           have NB489_501 : Aside0 (gb489 ≠ gb501) := ⟨h4_⟩
           have NB501_489 : Aside0 (gb501 ≠ gb489) := ⟨h5_⟩
           replace BK489 : Aside0 (w37.heap[gb489]? = some (.cells #[.int .i64 a0_0, .int .i64 a0_1, .int .i64 a0_2, .int .u64 a0_3, .int .u64 a0_4, .int .u64 a0_5] 28 (0, 0))) := ⟨h0_⟩
           replace HB : Aside0 (Below w.heap.size w w37) := ⟨h6_⟩
           clear h0_ h1_ h2_ h3_ h4_ h5_ h6_
           have hHeld : w37.cell? ⟨gb489, 0, none⟩ = some (.int .i64 a0_0) ∧ w37.cell? ⟨gb489, 1, none⟩ = some (.int .i64 a0_1) ∧ w37.cell? ⟨gb489, 2, none⟩ = some (.int .i64 a0_2) ∧ w37.cell? ⟨gb489, 3, none⟩ = some (.int .u64 a0_3) ∧ w37.cell? ⟨gb489, 4, none⟩ = some (.int .u64 a0_4) ∧ w37.cell? ⟨gb489, 5, none⟩ = some (.int .u64 a0_5) := hS_
           refine norm_ (a' := ?_) ?_ ?_
           rotate_left
           ·simp only [putAll, Act.put, List.setIfInBounds_toArray, List.set_cons_zero, List.set_cons_succ]
            rfl
           refine one_ (i := 12) (N := some 45) #[true, true, true, true, true, true, true, true, true, true, true, true, true, false, false, false, true, false, false] rfl rfl (one_of HT_.out (by kernel_rfl)) (by decide) (fun K hK => ?_)
           refine goes_ Try.func41 (by kernel_rfl) rfl #[.agg #[.int .u64 t494, .int .u64 t495], .agg #[.int .u64 t496, .int .u64 t497]] (by rfl) rfl rfl (by (try simp only [List.map_toArray, List.map_cons, List.map_nil]); first | done | rfl | (simp only [List.length_drop, List.length_take]; rfl)) ?_
           with_reducible refine (spigotref01_Sub.calls kj15 t494 t495 t496 t497 t498 t499 t500 _ A29.out).mono ?_
           rintro e w38 ⟨rfl, hb⟩
           refine ⟨_, rfl, ?_⟩
           replace BK489 := bb_ BK489 hb
           replace BK501 := bb_ BK501 hb
           replace HB := bs_ w hb
           (try clear hb)
           (try clear hb2)
           (try clear hk)
           (try clear hi)
           refine hK.out _ _ ⟨(blk_cell BK489.out 0).trans rfl, (blk_cell BK489.out 1).trans rfl, (blk_cell BK489.out 2).trans rfl, (blk_cell BK489.out 3).trans rfl, (blk_cell BK489.out 4).trans rfl, (blk_cell BK489.out 5).trans rfl⟩ (fun hHeld => ?_)
           clear hK K
           refine norm_ (a' := ?_) ?_ ?_
           rotate_left
           ·show Act.put _ (some 45) _ = _
            simp only [Act.put, List.setIfInBounds_toArray, List.set_cons_zero, List.set_cons_succ, i64_w, i32_w]
            rfl
           refine pure_ (i := 13) (N := some 32) (v := ?_) (a' := ?_) #[true, true, true, true, true, true, true, true, true, true, true, true, true, true, false, false, true, false, false] rfl rfl (any_of HT_.out (by kernel_rfl)) (fun _ _ _ h => h) (Or.inl ⟨by rfl, ?_⟩) ?_ ?_
           rotate_left
           ·intro w'
            go_simp
            with_reducible rfl
           rotate_left
           ·simp only [Act.put, List.setIfInBounds_toArray, List.set_cons_zero, List.set_cons_succ, i64_w, i32_w]
            rfl
           refine pure_ (i := 14) (N := some 46) (v := ?_) (a' := ?_) #[true, true, true, true, true, true, true, true, true, true, true, true, true, true, true, false, true, false, false] rfl rfl (any_of HT_.out (by kernel_rfl)) (fun _ _ _ h => h) (Or.inl ⟨by rfl, ?_⟩) ?_ ?_
           rotate_left
           ·intro w'
            go_simp
            with_reducible rfl
           rotate_left
           ·simp only [Act.put, List.setIfInBounds_toArray, List.set_cons_zero, List.set_cons_succ, i64_w, i32_w]
            rfl
           refine pure_ (i := 15) (N := some 47) (v := ?_) (a' := ?_) #[true, true, true, true, true, true, true, true, true, true, true, true, true, true, true, true, true, false, false] rfl rfl (any_of HT_.out (by kernel_rfl)) (fun _ _ _ h => h) (Or.inl ⟨by rfl, ?_⟩) ?_ ?_
           rotate_left
           ·intro w'
            go_simp
            with_reducible rfl
           rotate_left
           ·simp only [Act.put, List.setIfInBounds_toArray, List.set_cons_zero, List.set_cons_succ, i64_w, i32_w]
            rfl
           exact norm_ (by first | (simp only [putAll, Act.put, List.setIfInBounds_toArray, List.set_cons_zero, List.set_cons_succ]; done) | (simp only [putAll, Act.put, List.setIfInBounds_toArray, List.set_cons_zero, List.set_cons_succ]; rfl)) (hJ5_6_11_12_16 (gb501) _ ⟨hHeld, (bq_ BK489), (bq_ BK501), GW501.out, GE501.out, NB489_501.out, NB501_489.out, (by repeat (first | (with_reducible first | exact HB.out | apply below_alloc | apply pw_below_drewN | apply below_drew1 | refine below_set ?_ (Aside0.out (by assumption))) | exact HB.out))⟩)
         ·skip
          rintro _ w37 ⟨hS_, h0_, h1_⟩
          replace BK489 : Aside0 (w37.heap[gb489]? = some (.cells #[.int .i64 a0_0, .int .i64 a0_1, .int .i64 a0_2, .int .u64 a0_3, .int .u64 a0_4, .int .u64 a0_5] 28 (0, 0))) := ⟨h0_⟩
          replace HB : Aside0 (Below w.heap.size w w37) := ⟨h1_⟩
          clear h0_ h1_
          have hHeld : w37.cell? ⟨gb489, 0, none⟩ = some (.int .i64 a0_0) ∧ w37.cell? ⟨gb489, 1, none⟩ = some (.int .i64 a0_1) ∧ w37.cell? ⟨gb489, 2, none⟩ = some (.int .i64 a0_2) ∧ w37.cell? ⟨gb489, 3, none⟩ = some (.int .u64 a0_3) ∧ w37.cell? ⟨gb489, 4, none⟩ = some (.int .u64 a0_4) ∧ w37.cell? ⟨gb489, 5, none⟩ = some (.int .u64 a0_5) := hS_
          refine norm_ (a' := ?_) ?_ ?_
          rotate_left
          ·simp only [putAll, Act.put, List.setIfInBounds_toArray, List.set_cons_zero, List.set_cons_succ]
           rfl
          refine one_ (i := 16) (N := some 7) #[true, true, true, true, true, true, true, true, true, true, true, true, true, true, true, true, true, false, false] rfl rfl (one_of HT_.out (by kernel_rfl)) (by decide) (fun K hK => ?_)
          refine box_step ?hg (N := 7) ?hd (cs := #[.int .u64 0, .int .u64 0]) (t := 26) ?hr ?_; (case hd => rfl); (case hg => rfl); (case hr => first | (go_simp; done) | (go_simp; rfl))
          intro gb501 hg w38 hbox hb
          have BK501 := Aside0.mk (hbox)
          have GW501 := bz_ w hg
          have GE501 := GW501
          have NB489_501 := bn_ BK489 hg
          have NB501_489 := bm_ BK489 hg
          replace BK489 := bb_ BK489 hb
          replace HB := bs_ w hb
          clear hb hbox hg
          refine hK.out _ _ ⟨(blk_cell BK489.out 0).trans rfl, (blk_cell BK489.out 1).trans rfl, (blk_cell BK489.out 2).trans rfl, (blk_cell BK489.out 3).trans rfl, (blk_cell BK489.out 4).trans rfl, (blk_cell BK489.out 5).trans rfl⟩ (fun hHeld => ?_)
          clear hK K
          refine norm_ (a' := ?_) ?_ ?_
          rotate_left
          ·show Act.put _ (some 7) _ = _
           simp only [Act.put, List.setIfInBounds_toArray, List.set_cons_zero, List.set_cons_succ, i64_w, i32_w]
           rfl
          exact norm_ (by first | (simp only [putAll, Act.put, List.setIfInBounds_toArray, List.set_cons_zero, List.set_cons_succ]; done) | (simp only [putAll, Act.put, List.setIfInBounds_toArray, List.set_cons_zero, List.set_cons_succ]; rfl)) (hJ5_6_11_12_16 (gb501) _ ⟨hHeld, (bq_ BK489), (bq_ BK501), GW501.out, GE501.out, NB489_501.out, NB501_489.out, (by repeat (first | (with_reducible first | exact HB.out | apply below_alloc | apply pw_below_drewN | apply below_drew1 | refine below_set ?_ (Aside0.out (by assumption))) | exact HB.out))⟩)
        rintro gb501 w38 ⟨hS_, h0_, h1_, h2_, h3_, h4_, h5_, h6_⟩
        have BK501 : Aside0 (w38.heap[gb501]? = some (.cells #[.int .u64 0, .int .u64 0] 26 (0, 0))) := ⟨h1_⟩
        have GW501 : Aside0 (w.heap.size ≤ gb501) := ⟨h2_⟩
        have GE501 : Aside0 (w.heap.size ≤ gb501) := ⟨h3_⟩
        have NB489_501 : Aside0 (gb489 ≠ gb501) := ⟨h4_⟩
        have NB501_489 : Aside0 (gb501 ≠ gb489) := ⟨h5_⟩
        replace BK489 : Aside0 (w38.heap[gb489]? = some (.cells #[.int .i64 a0_0, .int .i64 a0_1, .int .i64 a0_2, .int .u64 a0_3, .int .u64 a0_4, .int .u64 a0_5] 28 (0, 0))) := ⟨h0_⟩
        replace HB : Aside0 (Below w.heap.size w w38) := ⟨h6_⟩
        clear h0_ h1_ h2_ h3_ h4_ h5_ h6_
        have hHeld : w38.cell? ⟨gb489, 0, none⟩ = some (.int .i64 a0_0) ∧ w38.cell? ⟨gb489, 1, none⟩ = some (.int .i64 a0_1) ∧ w38.cell? ⟨gb489, 2, none⟩ = some (.int .i64 a0_2) ∧ w38.cell? ⟨gb489, 3, none⟩ = some (.int .u64 a0_3) ∧ w38.cell? ⟨gb489, 4, none⟩ = some (.int .u64 a0_4) ∧ w38.cell? ⟨gb489, 5, none⟩ = some (.int .u64 a0_5) := hS_
        refine norm_ (a' := ?_) ?_ ?_
        rotate_left
        ·simp only [putAll, Act.put, List.setIfInBounds_toArray, List.set_cons_zero, List.set_cons_succ]
         rfl
        refine one_ (i := 17) (N := none) #[true, true, true, true, true, true, true, true, true, true, true, true, true, true, true, true, true, true, false] rfl rfl (one_of HT_.out (by kernel_rfl)) (by decide) (fun K hK => ?_)
        have hs39 : w38.cell? ⟨gb501, 0, none⟩ = some (.int .u64 0) := (blk_cell BK501.out 0).trans rfl
        have hfs39 := blk_frozen BK501.out 0
        have hns39_0 := NB489_501.out
        have hms39_0 := NB501_489.out
        have hs40 : w38.cell? ⟨gb501, 1, none⟩ = some (.int .u64 0) := (blk_cell BK501.out 1).trans rfl
        have hfs40 := blk_frozen BK501.out 1
        have hns40_0 := NB489_501.out
        have hms40_0 := NB501_489.out
        refine skip_ (w1 := ?_) (by rfl) rfl ?_ ?_
        rotate_left
        ·go_simp
         rfl
        refine hK.out _ _ ⟨((cell_far (p := ⟨gb501, _, none⟩) NB489_501.out _).trans (((cell_far (p := ⟨gb501, _, none⟩) NB489_501.out _).trans (hHeld.1)))), ((cell_far (p := ⟨gb501, _, none⟩) NB489_501.out _).trans (((cell_far (p := ⟨gb501, _, none⟩) NB489_501.out _).trans (hHeld.2.1)))), ((cell_far (p := ⟨gb501, _, none⟩) NB489_501.out _).trans (((cell_far (p := ⟨gb501, _, none⟩) NB489_501.out _).trans (hHeld.2.2.1)))), ((cell_far (p := ⟨gb501, _, none⟩) NB489_501.out _).trans (((cell_far (p := ⟨gb501, _, none⟩) NB489_501.out _).trans (hHeld.2.2.2.1)))), ((cell_far (p := ⟨gb501, _, none⟩) NB489_501.out _).trans (((cell_far (p := ⟨gb501, _, none⟩) NB489_501.out _).trans (hHeld.2.2.2.2.1)))), ((cell_far (p := ⟨gb501, _, none⟩) NB489_501.out _).trans (((cell_far (p := ⟨gb501, _, none⟩) NB489_501.out _).trans (hHeld.2.2.2.2.2))))⟩ (fun hHeld => ?_)
        clear hK K
        refine pure_ (i := 18) (N := some 8) (v := ?_) (a' := ?_) #[true, true, true, true, true, true, true, true, true, true, true, true, true, true, true, true, true, true, true] rfl rfl (any_of HT_.out (by kernel_rfl)) (fun _ _ _ h => h) (Or.inl ⟨by rfl, ?_⟩) ?_ ?_
        rotate_left
        ·intro w'
         go_simp
         with_reducible rfl
        rotate_left
        ·simp only [Act.put, List.setIfInBounds_toArray, List.set_cons_zero, List.set_cons_succ, i64_w, i32_w]
         rfl
        refine done_ (done_of HT_.out (by kernel_rfl)) ?_
        have hnb41 := NB501_489.out
        have hnc41 := NB489_501.out
        obtain ⟨hcz42_0, hcz42_1, hfz42_0, hfz42_1⟩ := ce2_ BK501
        obtain ⟨hcz43_0, hcz43_1, hcz43_2, hcz43_3, hcz43_4, hcz43_5, hfz43_0, hfz43_1, hfz43_2, hfz43_3, hfz43_4, hfz43_5⟩ := ce6_ BK489
        try go_wp2_with (first | ((with_reducible refine gate_callee (f := 52) rfl ?_); refine goesA_ (some 54) Try.func52 #[.agg #[.int .u64 t498, .int .u64 t499], .int .u64 (IntKind.u64.wrap (a0_1))] ?_; (with_reducible refine (spigotref01_Up.calls kj15 t498 t499 (IntKind.u64.wrap (a0_1)) t502 t503 t504 _ A30.out).mono ?_); rintro e w44 ⟨rfl, hb⟩; refine ⟨_, rfl, ?_⟩; replace BK489 := bf_ BK489 hb; replace BK501 := Aside0.mk (blk_below (g := gb501) (o := .cells #[.int .u64 t498, .int .u64 t499] 26 (0, 0)) (blk_put (cs := #[.int .u64 t498, .int .u64 0]) (blk_put (cs := #[.int .u64 0, .int .u64 0]) (bq_ BK501) 0 _ rfl) 1 _ rfl) hb); replace HB := bs_ w hb; (try clear hb); (try clear hb2); (try clear hk); (try clear hi)) | ((with_reducible refine gate_dst (N := 9) rfl ?_); refine box_event ?hg (N := 9) ?hd (cs := #[.int .u64 0, .int .u64 0]) (t := 26) ?hr ?_; (case hd => rfl); (case hg => rfl); (case hr => first | (go_simp; done) | (go_simp; rfl)); intro gb505 hg w45 hbox hb; have BK505 := Aside0.mk (hbox); have GW505 := bz_ w hg; have GE505 := GW505; have NB489_505 := bn_ BK489 hg; have NB505_489 := bm_ BK489 hg; have NB501_505 := bn_ BK501 hg; have NB505_501 := bm_ BK501 hg; replace BK489 := bb_ BK489 hb; replace BK501 := bb_ BK501 hb; replace HB := bs_ w hb; clear hb hbox hg; have hnb46 := NB505_489.out; have hnc46 := NB489_505.out; have hnb47 := NB505_501.out; have hnc47 := NB501_505.out; obtain ⟨hcz48_0, hcz48_1, hfz48_0, hfz48_1⟩ := ce2_ BK505))
        go_ret2
        exact ⟨by first | rfl | (simp [errW_none, errW_some] <;> rfl) | (simp [*, errW_none, errW_some] <;> rfl), by repeat (first | (with_reducible first | exact HB.out | apply below_alloc | apply pw_below_drewN | apply below_drew1 | refine below_set ?_ GE489.out | refine below_set ?_ GE501.out | refine below_set ?_ GE505.out) | exact HB.out)⟩
       ·rw [if_neg c31] at H
        have c31b0 : decide (0 < t502) = false := decide_eq_false c31
        clear c31
        by_cases c49 : t503 > (IntKind.u64.wrap (18446744073709551615 - a0_5))
        ·rw [if_pos c49] at H
         have c49b0 : decide ((IntKind.u64.wrap (18446744073709551615 - a0_5)) < t503) = true := decide_eq_true c49
         clear c49
         simp only [Option.some.injEq, Prod.mk.injEq] at H
         obtain ⟨rfl, rfl⟩ := H
         try go_wp2
         replace BK489 := Aside0.mk (blk_drew BK489.out)
         replace HB := Aside0.mk (below_drew1 HB.out)
         refine start_ (n := 19) (S := fun w' => w'.cell? ⟨gb489, 0, none⟩ = some (.int .i64 a0_0) ∧ w'.cell? ⟨gb489, 1, none⟩ = some (.int .i64 a0_1) ∧ w'.cell? ⟨gb489, 2, none⟩ = some (.int .i64 a0_2) ∧ w'.cell? ⟨gb489, 3, none⟩ = some (.int .u64 a0_3) ∧ w'.cell? ⟨gb489, 4, none⟩ = some (.int .u64 a0_4) ∧ w'.cell? ⟨gb489, 5, none⟩ = some (.int .u64 a0_5)) (ds := []) #[false, false, false, false, false, false, false, false, false, false, false, false, false, false, false, false, false, false, false] (by kernel_rfl) rfl rfl ⟨(blk_cell BK489.out 0).trans rfl, (blk_cell BK489.out 1).trans rfl, (blk_cell BK489.out 2).trans rfl, (blk_cell BK489.out 3).trans rfl, (blk_cell BK489.out 4).trans rfl, (blk_cell BK489.out 5).trans rfl⟩ (fun hHeld => ?_); refine with_tabW spigotref37_Wait.tab10 spigotref37_Wait.bits10 (fun HT_ HW_ => ?_)
         generalize wc.drew = w50 at BK489 HB hHeld ⊢
         refine pure_ (i := 0) (N := some 33) (v := ?_) (a' := ?_) #[true, false, false, false, false, false, false, false, false, false, false, false, false, false, false, false, false, false, false] rfl rfl (any_of HT_.out (by kernel_rfl)) (fun _ _ _ h => h) (Or.inl ⟨by rfl, ?_⟩) ?_ ?_
         rotate_left
         ·intro w'
          go_simp
          with_reducible rfl
         rotate_left
         ·simp only [Act.put, List.setIfInBounds_toArray, List.set_cons_zero, List.set_cons_succ, i64_w, i32_w]
          rfl
         refine pure_ (i := 2) (N := some 35) (v := ?_) (a' := ?_) #[true, false, true, false, false, false, false, false, false, false, false, false, false, false, false, false, false, false, false] rfl rfl (any_of HT_.out (by kernel_rfl)) (fun _ _ _ h => h) (Or.inl ⟨by rfl, ?_⟩) ?_ ?_
         rotate_left
         ·intro w'
          go_simp
          with_reducible rfl
         rotate_left
         ·simp only [Act.put, List.setIfInBounds_toArray, List.set_cons_zero, List.set_cons_succ, i64_w, i32_w]
          rfl
         refine pure_ (i := 4) (N := some 37) (v := ?_) (a' := ?_) #[true, false, true, false, true, false, false, false, false, false, false, false, false, false, false, false, false, false, false] rfl rfl (any_of HT_.out (by kernel_rfl)) (fun _ _ _ h => h) (Or.inl ⟨by rfl, ?_⟩) ?_ ?_
         rotate_left
         ·intro w'
          go_simp
          with_reducible rfl
         rotate_left
         ·simp only [Act.put, List.setIfInBounds_toArray, List.set_cons_zero, List.set_cons_succ, i64_w, i32_w]
          rfl
         refine pure_ (i := 7) (N := some 40) (v := ?_) (a' := ?_) #[true, false, true, false, true, false, false, true, false, false, false, false, false, false, false, false, false, false, false] rfl rfl (any_of HT_.out (by kernel_rfl)) (fun _ _ _ h => h) (Or.inl ⟨by rfl, ?_⟩) ?_ ?_
         rotate_left
         ·intro w'
          go_simp
          with_reducible rfl
         rotate_left
         ·simp only [Act.put, List.setIfInBounds_toArray, List.set_cons_zero, List.set_cons_succ, i64_w, i32_w]
          rfl
         refine pure_ (i := 9) (N := some 42) (v := ?_) (a' := ?_) #[true, false, true, false, true, false, false, true, false, true, false, false, false, false, false, false, false, false, false] rfl rfl (any_of HT_.out (by kernel_rfl)) (fun _ _ _ h => h) (Or.inl ⟨by rfl, ?_⟩) ?_ ?_
         rotate_left
         ·intro w'
          go_simp
          with_reducible rfl
         rotate_left
         ·simp only [Act.put, List.setIfInBounds_toArray, List.set_cons_zero, List.set_cons_succ, i64_w, i32_w]
          rfl
         refine take_ (i := 1) (N := some 34) (v := ?_) (a' := ?_) #[true, true, true, false, true, false, false, true, false, true, false, false, false, false, false, false, false, false, false] rfl rfl (take_ofW HT_.out HW_.out (by kernel_rfl)) (fun _ _ _ h => h) (Or.inl ⟨by rfl, ?_⟩) hHeld ?_ ?_
         rotate_left
         ·rintro w' ⟨s0, s1, s2, s3, s4, s5⟩
          go_simp
          with_reducible rfl
         rotate_left
         ·simp only [Act.put, List.setIfInBounds_toArray, List.set_cons_zero, List.set_cons_succ, i64_w, i32_w]
          rfl
         refine take_ (i := 3) (N := some 36) (v := ?_) (a' := ?_) #[true, true, true, true, true, false, false, true, false, true, false, false, false, false, false, false, false, false, false] rfl rfl (take_ofW HT_.out HW_.out (by kernel_rfl)) (fun _ _ _ h => h) (Or.inl ⟨by rfl, ?_⟩) hHeld ?_ ?_
         rotate_left
         ·rintro w' ⟨s0, s1, s2, s3, s4, s5⟩
          go_simp
          with_reducible rfl
         rotate_left
         ·simp only [Act.put, List.setIfInBounds_toArray, List.set_cons_zero, List.set_cons_succ, i64_w, i32_w]
          rfl
         refine take_ (i := 8) (N := some 41) (v := ?_) (a' := ?_) #[true, true, true, true, true, false, false, true, true, true, false, false, false, false, false, false, false, false, false] rfl rfl (take_ofW HT_.out HW_.out (by kernel_rfl)) (fun _ _ _ h => h) (Or.inl ⟨by rfl, ?_⟩) hHeld ?_ ?_
         rotate_left
         ·rintro w' ⟨s0, s1, s2, s3, s4, s5⟩
          go_simp
          with_reducible rfl
         rotate_left
         ·simp only [Act.put, List.setIfInBounds_toArray, List.set_cons_zero, List.set_cons_succ, i64_w, i32_w]
          rfl
         refine take_ (i := 10) (N := some 43) (v := ?_) (a' := ?_) #[true, true, true, true, true, false, false, true, true, true, true, false, false, false, false, false, false, false, false] rfl rfl (take_ofW HT_.out HW_.out (by kernel_rfl)) (fun _ _ _ h => h) (Or.inl ⟨by rfl, ?_⟩) hHeld ?_ ?_
         rotate_left
         ·rintro w' ⟨s0, s1, s2, s3, s4, s5⟩
          go_simp
          with_reducible rfl
         rotate_left
         ·simp only [Act.put, List.setIfInBounds_toArray, List.set_cons_zero, List.set_cons_succ, i64_w, i32_w]
          rfl
         refine join_ (σ := Nat) 2 #[true, true, true, true, true, true, true, true, true, true, true, true, true, true, true, true, true, false, false] (fun s_ => [(38, .agg #[.int .u64 t492, .int .u64 t493]), (39, .agg #[.int .u64 t494, .int .u64 t495]), (44, .agg #[.int .u64 t496, .int .u64 t497]), (45, .tuple #[.agg #[.int .u64 t498, .int .u64 t499], .int .i64 t500]), (7, .pointer (some ⟨s_, 0, none⟩)), (32, .tuple #[.agg #[.int .u64 t498, .int .u64 t499], .int .i64 t500]), (46, .agg #[.int .u64 t498, .int .u64 t499]), (47, .int .i64 t500)]) (fun s_ w' => (w'.cell? ⟨gb489, 0, none⟩ = some (.int .i64 a0_0) ∧ w'.cell? ⟨gb489, 1, none⟩ = some (.int .i64 a0_1) ∧ w'.cell? ⟨gb489, 2, none⟩ = some (.int .i64 a0_2) ∧ w'.cell? ⟨gb489, 3, none⟩ = some (.int .u64 a0_3) ∧ w'.cell? ⟨gb489, 4, none⟩ = some (.int .u64 a0_4) ∧ w'.cell? ⟨gb489, 5, none⟩ = some (.int .u64 a0_5)) ∧ (w'.heap[gb489]? = some (.cells #[.int .i64 a0_0, .int .i64 a0_1, .int .i64 a0_2, .int .u64 a0_3, .int .u64 a0_4, .int .u64 a0_5] 28 (0, 0))) ∧ (w'.heap[s_]? = some (.cells #[.int .u64 0, .int .u64 0] 26 (0, 0))) ∧ (w.heap.size ≤ s_) ∧ (w.heap.size ≤ s_) ∧ (gb489 ≠ s_) ∧ (s_ ≠ gb489) ∧ (Below w.heap.size w w')) ?_ ?_
         rotate_left
         ·intro hJ5_6_11_12_16
          refine join_ (σ := Unit) 3 #[true, true, true, true, true, true, true, true, true, true, true, true, true, true, true, true, false, false, false] (fun s_ => [(38, .agg #[.int .u64 t492, .int .u64 t493]), (39, .agg #[.int .u64 t494, .int .u64 t495]), (44, .agg #[.int .u64 t496, .int .u64 t497]), (45, .tuple #[.agg #[.int .u64 t498, .int .u64 t499], .int .i64 t500]), (32, .tuple #[.agg #[.int .u64 t498, .int .u64 t499], .int .i64 t500]), (46, .agg #[.int .u64 t498, .int .u64 t499]), (47, .int .i64 t500)]) (fun s_ w' => (w'.cell? ⟨gb489, 0, none⟩ = some (.int .i64 a0_0) ∧ w'.cell? ⟨gb489, 1, none⟩ = some (.int .i64 a0_1) ∧ w'.cell? ⟨gb489, 2, none⟩ = some (.int .i64 a0_2) ∧ w'.cell? ⟨gb489, 3, none⟩ = some (.int .u64 a0_3) ∧ w'.cell? ⟨gb489, 4, none⟩ = some (.int .u64 a0_4) ∧ w'.cell? ⟨gb489, 5, none⟩ = some (.int .u64 a0_5)) ∧ (w'.heap[gb489]? = some (.cells #[.int .i64 a0_0, .int .i64 a0_1, .int .i64 a0_2, .int .u64 a0_3, .int .u64 a0_4, .int .u64 a0_5] 28 (0, 0))) ∧ (Below w.heap.size w w')) ?_ ?_
          rotate_left
          ·intro hJ5_6_11_12
           refine join_ (σ := Nat) 6 #[true, true, true, true, true, true, true, true, true, true, true, true, false, false, false, false, true, false, false] (fun s_ => [(38, .agg #[.int .u64 t492, .int .u64 t493]), (39, .agg #[.int .u64 t494, .int .u64 t495]), (44, .agg #[.int .u64 t496, .int .u64 t497]), (7, .pointer (some ⟨s_, 0, none⟩))]) (fun s_ w' => (w'.cell? ⟨gb489, 0, none⟩ = some (.int .i64 a0_0) ∧ w'.cell? ⟨gb489, 1, none⟩ = some (.int .i64 a0_1) ∧ w'.cell? ⟨gb489, 2, none⟩ = some (.int .i64 a0_2) ∧ w'.cell? ⟨gb489, 3, none⟩ = some (.int .u64 a0_3) ∧ w'.cell? ⟨gb489, 4, none⟩ = some (.int .u64 a0_4) ∧ w'.cell? ⟨gb489, 5, none⟩ = some (.int .u64 a0_5)) ∧ (w'.heap[gb489]? = some (.cells #[.int .i64 a0_0, .int .i64 a0_1, .int .i64 a0_2, .int .u64 a0_3, .int .u64 a0_4, .int .u64 a0_5] 28 (0, 0))) ∧ (w'.heap[s_]? = some (.cells #[.int .u64 0, .int .u64 0] 26 (0, 0))) ∧ (w.heap.size ≤ s_) ∧ (w.heap.size ≤ s_) ∧ (gb489 ≠ s_) ∧ (s_ ≠ gb489) ∧ (Below w.heap.size w w')) ?_ ?_
           rotate_left
           ·intro hJ5_6_11_16
            refine join_ (σ := Unit) 7 #[true, true, true, true, true, true, true, true, true, true, true, true, false, false, false, false, false, false, false] (fun s_ => [(38, .agg #[.int .u64 t492, .int .u64 t493]), (39, .agg #[.int .u64 t494, .int .u64 t495]), (44, .agg #[.int .u64 t496, .int .u64 t497])]) (fun s_ w' => (w'.cell? ⟨gb489, 0, none⟩ = some (.int .i64 a0_0) ∧ w'.cell? ⟨gb489, 1, none⟩ = some (.int .i64 a0_1) ∧ w'.cell? ⟨gb489, 2, none⟩ = some (.int .i64 a0_2) ∧ w'.cell? ⟨gb489, 3, none⟩ = some (.int .u64 a0_3) ∧ w'.cell? ⟨gb489, 4, none⟩ = some (.int .u64 a0_4) ∧ w'.cell? ⟨gb489, 5, none⟩ = some (.int .u64 a0_5)) ∧ (w'.heap[gb489]? = some (.cells #[.int .i64 a0_0, .int .i64 a0_1, .int .i64 a0_2, .int .u64 a0_3, .int .u64 a0_4, .int .u64 a0_5] 28 (0, 0))) ∧ (Below w.heap.size w w')) ?_ ?_
            rotate_left
            ·intro hJ5_6_11
             refine join_ (σ := Nat) 7 #[true, true, true, true, true, true, true, true, true, true, true, false, false, false, false, false, true, false, false] (fun s_ => [(38, .agg #[.int .u64 t492, .int .u64 t493]), (39, .agg #[.int .u64 t494, .int .u64 t495]), (7, .pointer (some ⟨s_, 0, none⟩))]) (fun s_ w' => (w'.cell? ⟨gb489, 0, none⟩ = some (.int .i64 a0_0) ∧ w'.cell? ⟨gb489, 1, none⟩ = some (.int .i64 a0_1) ∧ w'.cell? ⟨gb489, 2, none⟩ = some (.int .i64 a0_2) ∧ w'.cell? ⟨gb489, 3, none⟩ = some (.int .u64 a0_3) ∧ w'.cell? ⟨gb489, 4, none⟩ = some (.int .u64 a0_4) ∧ w'.cell? ⟨gb489, 5, none⟩ = some (.int .u64 a0_5)) ∧ (w'.heap[gb489]? = some (.cells #[.int .i64 a0_0, .int .i64 a0_1, .int .i64 a0_2, .int .u64 a0_3, .int .u64 a0_4, .int .u64 a0_5] 28 (0, 0))) ∧ (w'.heap[s_]? = some (.cells #[.int .u64 0, .int .u64 0] 26 (0, 0))) ∧ (w.heap.size ≤ s_) ∧ (w.heap.size ≤ s_) ∧ (gb489 ≠ s_) ∧ (s_ ≠ gb489) ∧ (Below w.heap.size w w')) ?_ ?_
             rotate_left
             ·intro hJ5_6_16
              refine join_ (σ := Unit) 8 #[true, true, true, true, true, true, true, true, true, true, true, false, false, false, false, false, false, false, false] (fun s_ => [(38, .agg #[.int .u64 t492, .int .u64 t493]), (39, .agg #[.int .u64 t494, .int .u64 t495])]) (fun s_ w' => (w'.cell? ⟨gb489, 0, none⟩ = some (.int .i64 a0_0) ∧ w'.cell? ⟨gb489, 1, none⟩ = some (.int .i64 a0_1) ∧ w'.cell? ⟨gb489, 2, none⟩ = some (.int .i64 a0_2) ∧ w'.cell? ⟨gb489, 3, none⟩ = some (.int .u64 a0_3) ∧ w'.cell? ⟨gb489, 4, none⟩ = some (.int .u64 a0_4) ∧ w'.cell? ⟨gb489, 5, none⟩ = some (.int .u64 a0_5)) ∧ (w'.heap[gb489]? = some (.cells #[.int .i64 a0_0, .int .i64 a0_1, .int .i64 a0_2, .int .u64 a0_3, .int .u64 a0_4, .int .u64 a0_5] 28 (0, 0))) ∧ (Below w.heap.size w w')) ?_ ?_
              rotate_left
              ·intro hJ5_6
               refine join_ (σ := Nat) 8 #[true, true, true, true, true, true, false, true, true, true, true, false, false, false, false, false, true, false, false] (fun s_ => [(38, .agg #[.int .u64 t492, .int .u64 t493]), (7, .pointer (some ⟨s_, 0, none⟩))]) (fun s_ w' => (w'.cell? ⟨gb489, 0, none⟩ = some (.int .i64 a0_0) ∧ w'.cell? ⟨gb489, 1, none⟩ = some (.int .i64 a0_1) ∧ w'.cell? ⟨gb489, 2, none⟩ = some (.int .i64 a0_2) ∧ w'.cell? ⟨gb489, 3, none⟩ = some (.int .u64 a0_3) ∧ w'.cell? ⟨gb489, 4, none⟩ = some (.int .u64 a0_4) ∧ w'.cell? ⟨gb489, 5, none⟩ = some (.int .u64 a0_5)) ∧ (w'.heap[gb489]? = some (.cells #[.int .i64 a0_0, .int .i64 a0_1, .int .i64 a0_2, .int .u64 a0_3, .int .u64 a0_4, .int .u64 a0_5] 28 (0, 0))) ∧ (w'.heap[s_]? = some (.cells #[.int .u64 0, .int .u64 0] 26 (0, 0))) ∧ (w.heap.size ≤ s_) ∧ (w.heap.size ≤ s_) ∧ (gb489 ≠ s_) ∧ (s_ ≠ gb489) ∧ (Below w.heap.size w w')) ?_ ?_
               rotate_left
               ·intro hJ5_16
                refine join_ (σ := Unit) 9 #[true, true, true, true, true, true, false, true, true, true, true, false, false, false, false, false, false, false, false] (fun s_ => [(38, .agg #[.int .u64 t492, .int .u64 t493])]) (fun s_ w' => (w'.cell? ⟨gb489, 0, none⟩ = some (.int .i64 a0_0) ∧ w'.cell? ⟨gb489, 1, none⟩ = some (.int .i64 a0_1) ∧ w'.cell? ⟨gb489, 2, none⟩ = some (.int .i64 a0_2) ∧ w'.cell? ⟨gb489, 3, none⟩ = some (.int .u64 a0_3) ∧ w'.cell? ⟨gb489, 4, none⟩ = some (.int .u64 a0_4) ∧ w'.cell? ⟨gb489, 5, none⟩ = some (.int .u64 a0_5)) ∧ (w'.heap[gb489]? = some (.cells #[.int .i64 a0_0, .int .i64 a0_1, .int .i64 a0_2, .int .u64 a0_3, .int .u64 a0_4, .int .u64 a0_5] 28 (0, 0))) ∧ (Below w.heap.size w w')) ?_ ?_
                rotate_left
                ·intro hJ5
                 refine join_ (σ := Nat) 9 #[true, true, true, true, true, false, false, true, true, true, true, false, false, false, false, false, true, false, false] (fun s_ => [(7, .pointer (some ⟨s_, 0, none⟩))]) (fun s_ w' => (w'.cell? ⟨gb489, 0, none⟩ = some (.int .i64 a0_0) ∧ w'.cell? ⟨gb489, 1, none⟩ = some (.int .i64 a0_1) ∧ w'.cell? ⟨gb489, 2, none⟩ = some (.int .i64 a0_2) ∧ w'.cell? ⟨gb489, 3, none⟩ = some (.int .u64 a0_3) ∧ w'.cell? ⟨gb489, 4, none⟩ = some (.int .u64 a0_4) ∧ w'.cell? ⟨gb489, 5, none⟩ = some (.int .u64 a0_5)) ∧ (w'.heap[gb489]? = some (.cells #[.int .i64 a0_0, .int .i64 a0_1, .int .i64 a0_2, .int .u64 a0_3, .int .u64 a0_4, .int .u64 a0_5] 28 (0, 0))) ∧ (w'.heap[s_]? = some (.cells #[.int .u64 0, .int .u64 0] 26 (0, 0))) ∧ (w.heap.size ≤ s_) ∧ (w.heap.size ≤ s_) ∧ (gb489 ≠ s_) ∧ (s_ ≠ gb489) ∧ (Below w.heap.size w w')) ?_ ?_
                 rotate_left
                 ·intro hJ16
                  refine two_ (i := 5) (j := 16) (Ni := some 38) (Nj := some 7) #[true, true, true, true, true, true, false, true, true, true, true, false, false, false, false, false, false, false, false] #[true, true, true, true, true, false, false, true, true, true, true, false, false, false, false, false, true, false, false] rfl rfl rfl rfl (two_of HT_.out (by kernel_rfl)) (by decide) (by decide) (fun K hK => ?_) (fun K hK => ?_)
                  ·skip
                   refine goes_ Try.func40 (by kernel_rfl) rfl #[.agg #[.int .i64 a0_0, .int .i64 a0_1, .int .i64 a0_2], .int .i64 a1] (by rfl) rfl rfl (by (try simp only [List.map_toArray, List.map_cons, List.map_nil]); first | done | rfl | (simp only [List.length_drop, List.length_take]; rfl)) ?_
                   with_reducible refine (spigotref37_tokens.calls a0_0 a0_1 a0_2 a1 t492 t493 _ A26.out).mono ?_
                   rintro e w51 ⟨rfl, hb⟩
                   refine ⟨_, rfl, ?_⟩
                   replace BK489 := bb_ BK489 hb
                   replace HB := bs_ w hb
                   (try clear hb)
                   (try clear hb2)
                   (try clear hk)
                   (try clear hi)
                   refine hK.out _ _ ⟨(blk_cell BK489.out 0).trans rfl, (blk_cell BK489.out 1).trans rfl, (blk_cell BK489.out 2).trans rfl, (blk_cell BK489.out 3).trans rfl, (blk_cell BK489.out 4).trans rfl, (blk_cell BK489.out 5).trans rfl⟩ (fun hHeld => ?_)
                   clear hK K
                   refine norm_ (a' := ?_) ?_ ?_
                   rotate_left
                   ·show Act.put _ (some 38) _ = _
                    simp only [Act.put, List.setIfInBounds_toArray, List.set_cons_zero, List.set_cons_succ, i64_w, i32_w]
                    rfl
                   exact norm_ (by first | (simp only [putAll, Act.put, List.setIfInBounds_toArray, List.set_cons_zero, List.set_cons_succ]; done) | (simp only [putAll, Act.put, List.setIfInBounds_toArray, List.set_cons_zero, List.set_cons_succ]; rfl)) (hJ5 () _ ⟨hHeld, (bq_ BK489), (by repeat (first | (with_reducible first | exact HB.out | apply below_alloc | apply pw_below_drewN | apply below_drew1 | refine below_set ?_ (Aside0.out (by assumption))) | exact HB.out))⟩)
                  ·skip
                   refine box_step ?hg (N := 7) ?hd (cs := #[.int .u64 0, .int .u64 0]) (t := 26) ?hr ?_; (case hd => rfl); (case hg => rfl); (case hr => first | (go_simp; done) | (go_simp; rfl))
                   intro gb501 hg w51 hbox hb
                   have BK501 := Aside0.mk (hbox)
                   have GW501 := bz_ w hg
                   have GE501 := GW501
                   have NB489_501 := bn_ BK489 hg
                   have NB501_489 := bm_ BK489 hg
                   replace BK489 := bb_ BK489 hb
                   replace HB := bs_ w hb
                   clear hb hbox hg
                   refine hK.out _ _ ⟨(blk_cell BK489.out 0).trans rfl, (blk_cell BK489.out 1).trans rfl, (blk_cell BK489.out 2).trans rfl, (blk_cell BK489.out 3).trans rfl, (blk_cell BK489.out 4).trans rfl, (blk_cell BK489.out 5).trans rfl⟩ (fun hHeld => ?_)
                   clear hK K
                   refine norm_ (a' := ?_) ?_ ?_
                   rotate_left
                   ·show Act.put _ (some 7) _ = _
                    simp only [Act.put, List.setIfInBounds_toArray, List.set_cons_zero, List.set_cons_succ, i64_w, i32_w]
                    rfl
                   exact norm_ (by first | (simp only [putAll, Act.put, List.setIfInBounds_toArray, List.set_cons_zero, List.set_cons_succ]; done) | (simp only [putAll, Act.put, List.setIfInBounds_toArray, List.set_cons_zero, List.set_cons_succ]; rfl)) (hJ16 (gb501) _ ⟨hHeld, (bq_ BK489), (bq_ BK501), GW501.out, GE501.out, NB489_501.out, NB501_489.out, (by repeat (first | (with_reducible first | exact HB.out | apply below_alloc | apply pw_below_drewN | apply below_drew1 | refine below_set ?_ (Aside0.out (by assumption))) | exact HB.out))⟩)
                 ·skip
                  rintro gb501 w52 ⟨hS_, h0_, h1_, h2_, h3_, h4_, h5_, h6_⟩
                  have BK501 : Aside0 (w52.heap[gb501]? = some (.cells #[.int .u64 0, .int .u64 0] 26 (0, 0))) := ⟨h1_⟩
                  have GW501 : Aside0 (w.heap.size ≤ gb501) := ⟨h2_⟩
                  have GE501 : Aside0 (w.heap.size ≤ gb501) := ⟨h3_⟩
                  have NB489_501 : Aside0 (gb489 ≠ gb501) := ⟨h4_⟩
                  have NB501_489 : Aside0 (gb501 ≠ gb489) := ⟨h5_⟩
                  replace BK489 : Aside0 (w52.heap[gb489]? = some (.cells #[.int .i64 a0_0, .int .i64 a0_1, .int .i64 a0_2, .int .u64 a0_3, .int .u64 a0_4, .int .u64 a0_5] 28 (0, 0))) := ⟨h0_⟩
                  replace HB : Aside0 (Below w.heap.size w w52) := ⟨h6_⟩
                  clear h0_ h1_ h2_ h3_ h4_ h5_ h6_
                  have hHeld : w52.cell? ⟨gb489, 0, none⟩ = some (.int .i64 a0_0) ∧ w52.cell? ⟨gb489, 1, none⟩ = some (.int .i64 a0_1) ∧ w52.cell? ⟨gb489, 2, none⟩ = some (.int .i64 a0_2) ∧ w52.cell? ⟨gb489, 3, none⟩ = some (.int .u64 a0_3) ∧ w52.cell? ⟨gb489, 4, none⟩ = some (.int .u64 a0_4) ∧ w52.cell? ⟨gb489, 5, none⟩ = some (.int .u64 a0_5) := hS_
                  refine norm_ (a' := ?_) ?_ ?_
                  rotate_left
                  ·simp only [putAll, Act.put, List.setIfInBounds_toArray, List.set_cons_zero, List.set_cons_succ]
                   rfl
                  refine one_ (i := 5) (N := some 38) #[true, true, true, true, true, true, false, true, true, true, true, false, false, false, false, false, true, false, false] rfl rfl (one_of HT_.out (by kernel_rfl)) (by decide) (fun K hK => ?_)
                  refine goes_ Try.func40 (by kernel_rfl) rfl #[.agg #[.int .i64 a0_0, .int .i64 a0_1, .int .i64 a0_2], .int .i64 a1] (by rfl) rfl rfl (by (try simp only [List.map_toArray, List.map_cons, List.map_nil]); first | done | rfl | (simp only [List.length_drop, List.length_take]; rfl)) ?_
                  with_reducible refine (spigotref37_tokens.calls a0_0 a0_1 a0_2 a1 t492 t493 _ A26.out).mono ?_
                  rintro e w53 ⟨rfl, hb⟩
                  refine ⟨_, rfl, ?_⟩
                  replace BK489 := bb_ BK489 hb
                  replace BK501 := bb_ BK501 hb
                  replace HB := bs_ w hb
                  (try clear hb)
                  (try clear hb2)
                  (try clear hk)
                  (try clear hi)
                  refine hK.out _ _ ⟨(blk_cell BK489.out 0).trans rfl, (blk_cell BK489.out 1).trans rfl, (blk_cell BK489.out 2).trans rfl, (blk_cell BK489.out 3).trans rfl, (blk_cell BK489.out 4).trans rfl, (blk_cell BK489.out 5).trans rfl⟩ (fun hHeld => ?_)
                  clear hK K
                  refine norm_ (a' := ?_) ?_ ?_
                  rotate_left
                  ·show Act.put _ (some 38) _ = _
                   simp only [Act.put, List.setIfInBounds_toArray, List.set_cons_zero, List.set_cons_succ, i64_w, i32_w]
                   rfl
                  exact norm_ (by first | (simp only [putAll, Act.put, List.setIfInBounds_toArray, List.set_cons_zero, List.set_cons_succ]; done) | (simp only [putAll, Act.put, List.setIfInBounds_toArray, List.set_cons_zero, List.set_cons_succ]; rfl)) (hJ5_16 (gb501) _ ⟨hHeld, (bq_ BK489), (bq_ BK501), GW501.out, GE501.out, NB489_501.out, NB501_489.out, (by repeat (first | (with_reducible first | exact HB.out | apply below_alloc | apply pw_below_drewN | apply below_drew1 | refine below_set ?_ (Aside0.out (by assumption))) | exact HB.out))⟩)
                ·skip
                 rintro _ w52 ⟨hS_, h0_, h1_⟩
                 replace BK489 : Aside0 (w52.heap[gb489]? = some (.cells #[.int .i64 a0_0, .int .i64 a0_1, .int .i64 a0_2, .int .u64 a0_3, .int .u64 a0_4, .int .u64 a0_5] 28 (0, 0))) := ⟨h0_⟩
                 replace HB : Aside0 (Below w.heap.size w w52) := ⟨h1_⟩
                 clear h0_ h1_
                 have hHeld : w52.cell? ⟨gb489, 0, none⟩ = some (.int .i64 a0_0) ∧ w52.cell? ⟨gb489, 1, none⟩ = some (.int .i64 a0_1) ∧ w52.cell? ⟨gb489, 2, none⟩ = some (.int .i64 a0_2) ∧ w52.cell? ⟨gb489, 3, none⟩ = some (.int .u64 a0_3) ∧ w52.cell? ⟨gb489, 4, none⟩ = some (.int .u64 a0_4) ∧ w52.cell? ⟨gb489, 5, none⟩ = some (.int .u64 a0_5) := hS_
                 refine norm_ (a' := ?_) ?_ ?_
                 rotate_left
                 ·simp only [putAll, Act.put, List.setIfInBounds_toArray, List.set_cons_zero, List.set_cons_succ]
                  rfl
                 refine two_ (i := 6) (j := 16) (Ni := some 39) (Nj := some 7) #[true, true, true, true, true, true, true, true, true, true, true, false, false, false, false, false, false, false, false] #[true, true, true, true, true, true, false, true, true, true, true, false, false, false, false, false, true, false, false] rfl rfl rfl rfl (two_of HT_.out (by kernel_rfl)) (by decide) (by decide) (fun K hK => ?_) (fun K hK => ?_)
                 ·skip
                  refine goes_ Try.func39 (by kernel_rfl) rfl #[.agg #[.int .u64 a0_3, .int .u64 a0_4], .agg #[.int .u64 t492, .int .u64 t493]] (by rfl) rfl rfl (by (try simp only [List.map_toArray, List.map_cons, List.map_nil]); first | done | rfl | (simp only [List.length_drop, List.length_take]; rfl)) ?_
                  with_reducible refine (spigotref37_sum.calls a0_3 a0_4 t492 t493 t494 t495 _ A27.out).mono ?_
                  rintro e w53 ⟨rfl, hb⟩
                  refine ⟨_, rfl, ?_⟩
                  replace BK489 := bb_ BK489 hb
                  replace HB := bs_ w hb
                  (try clear hb)
                  (try clear hb2)
                  (try clear hk)
                  (try clear hi)
                  refine hK.out _ _ ⟨(blk_cell BK489.out 0).trans rfl, (blk_cell BK489.out 1).trans rfl, (blk_cell BK489.out 2).trans rfl, (blk_cell BK489.out 3).trans rfl, (blk_cell BK489.out 4).trans rfl, (blk_cell BK489.out 5).trans rfl⟩ (fun hHeld => ?_)
                  clear hK K
                  refine norm_ (a' := ?_) ?_ ?_
                  rotate_left
                  ·show Act.put _ (some 39) _ = _
                   simp only [Act.put, List.setIfInBounds_toArray, List.set_cons_zero, List.set_cons_succ, i64_w, i32_w]
                   rfl
                  exact norm_ (by first | (simp only [putAll, Act.put, List.setIfInBounds_toArray, List.set_cons_zero, List.set_cons_succ]; done) | (simp only [putAll, Act.put, List.setIfInBounds_toArray, List.set_cons_zero, List.set_cons_succ]; rfl)) (hJ5_6 () _ ⟨hHeld, (bq_ BK489), (by repeat (first | (with_reducible first | exact HB.out | apply below_alloc | apply pw_below_drewN | apply below_drew1 | refine below_set ?_ (Aside0.out (by assumption))) | exact HB.out))⟩)
                 ·skip
                  refine box_step ?hg (N := 7) ?hd (cs := #[.int .u64 0, .int .u64 0]) (t := 26) ?hr ?_; (case hd => rfl); (case hg => rfl); (case hr => first | (go_simp; done) | (go_simp; rfl))
                  intro gb501 hg w53 hbox hb
                  have BK501 := Aside0.mk (hbox)
                  have GW501 := bz_ w hg
                  have GE501 := GW501
                  have NB489_501 := bn_ BK489 hg
                  have NB501_489 := bm_ BK489 hg
                  replace BK489 := bb_ BK489 hb
                  replace HB := bs_ w hb
                  clear hb hbox hg
                  refine hK.out _ _ ⟨(blk_cell BK489.out 0).trans rfl, (blk_cell BK489.out 1).trans rfl, (blk_cell BK489.out 2).trans rfl, (blk_cell BK489.out 3).trans rfl, (blk_cell BK489.out 4).trans rfl, (blk_cell BK489.out 5).trans rfl⟩ (fun hHeld => ?_)
                  clear hK K
                  refine norm_ (a' := ?_) ?_ ?_
                  rotate_left
                  ·show Act.put _ (some 7) _ = _
                   simp only [Act.put, List.setIfInBounds_toArray, List.set_cons_zero, List.set_cons_succ, i64_w, i32_w]
                   rfl
                  exact norm_ (by first | (simp only [putAll, Act.put, List.setIfInBounds_toArray, List.set_cons_zero, List.set_cons_succ]; done) | (simp only [putAll, Act.put, List.setIfInBounds_toArray, List.set_cons_zero, List.set_cons_succ]; rfl)) (hJ5_16 (gb501) _ ⟨hHeld, (bq_ BK489), (bq_ BK501), GW501.out, GE501.out, NB489_501.out, NB501_489.out, (by repeat (first | (with_reducible first | exact HB.out | apply below_alloc | apply pw_below_drewN | apply below_drew1 | refine below_set ?_ (Aside0.out (by assumption))) | exact HB.out))⟩)
               ·skip
                rintro gb501 w53 ⟨hS_, h0_, h1_, h2_, h3_, h4_, h5_, h6_⟩
                have BK501 : Aside0 (w53.heap[gb501]? = some (.cells #[.int .u64 0, .int .u64 0] 26 (0, 0))) := ⟨h1_⟩
                have GW501 : Aside0 (w.heap.size ≤ gb501) := ⟨h2_⟩
                have GE501 : Aside0 (w.heap.size ≤ gb501) := ⟨h3_⟩
                have NB489_501 : Aside0 (gb489 ≠ gb501) := ⟨h4_⟩
                have NB501_489 : Aside0 (gb501 ≠ gb489) := ⟨h5_⟩
                replace BK489 : Aside0 (w53.heap[gb489]? = some (.cells #[.int .i64 a0_0, .int .i64 a0_1, .int .i64 a0_2, .int .u64 a0_3, .int .u64 a0_4, .int .u64 a0_5] 28 (0, 0))) := ⟨h0_⟩
                replace HB : Aside0 (Below w.heap.size w w53) := ⟨h6_⟩
                clear h0_ h1_ h2_ h3_ h4_ h5_ h6_
                have hHeld : w53.cell? ⟨gb489, 0, none⟩ = some (.int .i64 a0_0) ∧ w53.cell? ⟨gb489, 1, none⟩ = some (.int .i64 a0_1) ∧ w53.cell? ⟨gb489, 2, none⟩ = some (.int .i64 a0_2) ∧ w53.cell? ⟨gb489, 3, none⟩ = some (.int .u64 a0_3) ∧ w53.cell? ⟨gb489, 4, none⟩ = some (.int .u64 a0_4) ∧ w53.cell? ⟨gb489, 5, none⟩ = some (.int .u64 a0_5) := hS_
                refine norm_ (a' := ?_) ?_ ?_
                rotate_left
                ·simp only [putAll, Act.put, List.setIfInBounds_toArray, List.set_cons_zero, List.set_cons_succ]
                 rfl
                refine one_ (i := 6) (N := some 39) #[true, true, true, true, true, true, true, true, true, true, true, false, false, false, false, false, true, false, false] rfl rfl (one_of HT_.out (by kernel_rfl)) (by decide) (fun K hK => ?_)
                refine goes_ Try.func39 (by kernel_rfl) rfl #[.agg #[.int .u64 a0_3, .int .u64 a0_4], .agg #[.int .u64 t492, .int .u64 t493]] (by rfl) rfl rfl (by (try simp only [List.map_toArray, List.map_cons, List.map_nil]); first | done | rfl | (simp only [List.length_drop, List.length_take]; rfl)) ?_
                with_reducible refine (spigotref37_sum.calls a0_3 a0_4 t492 t493 t494 t495 _ A27.out).mono ?_
                rintro e w54 ⟨rfl, hb⟩
                refine ⟨_, rfl, ?_⟩
                replace BK489 := bb_ BK489 hb
                replace BK501 := bb_ BK501 hb
                replace HB := bs_ w hb
                (try clear hb)
                (try clear hb2)
                (try clear hk)
                (try clear hi)
                refine hK.out _ _ ⟨(blk_cell BK489.out 0).trans rfl, (blk_cell BK489.out 1).trans rfl, (blk_cell BK489.out 2).trans rfl, (blk_cell BK489.out 3).trans rfl, (blk_cell BK489.out 4).trans rfl, (blk_cell BK489.out 5).trans rfl⟩ (fun hHeld => ?_)
                clear hK K
                refine norm_ (a' := ?_) ?_ ?_
                rotate_left
                ·show Act.put _ (some 39) _ = _
                 simp only [Act.put, List.setIfInBounds_toArray, List.set_cons_zero, List.set_cons_succ, i64_w, i32_w]
                 rfl
                exact norm_ (by first | (simp only [putAll, Act.put, List.setIfInBounds_toArray, List.set_cons_zero, List.set_cons_succ]; done) | (simp only [putAll, Act.put, List.setIfInBounds_toArray, List.set_cons_zero, List.set_cons_succ]; rfl)) (hJ5_6_16 (gb501) _ ⟨hHeld, (bq_ BK489), (bq_ BK501), GW501.out, GE501.out, NB489_501.out, NB501_489.out, (by repeat (first | (with_reducible first | exact HB.out | apply below_alloc | apply pw_below_drewN | apply below_drew1 | refine below_set ?_ (Aside0.out (by assumption))) | exact HB.out))⟩)
              ·skip
               rintro _ w53 ⟨hS_, h0_, h1_⟩
               replace BK489 : Aside0 (w53.heap[gb489]? = some (.cells #[.int .i64 a0_0, .int .i64 a0_1, .int .i64 a0_2, .int .u64 a0_3, .int .u64 a0_4, .int .u64 a0_5] 28 (0, 0))) := ⟨h0_⟩
               replace HB : Aside0 (Below w.heap.size w w53) := ⟨h1_⟩
               clear h0_ h1_
               have hHeld : w53.cell? ⟨gb489, 0, none⟩ = some (.int .i64 a0_0) ∧ w53.cell? ⟨gb489, 1, none⟩ = some (.int .i64 a0_1) ∧ w53.cell? ⟨gb489, 2, none⟩ = some (.int .i64 a0_2) ∧ w53.cell? ⟨gb489, 3, none⟩ = some (.int .u64 a0_3) ∧ w53.cell? ⟨gb489, 4, none⟩ = some (.int .u64 a0_4) ∧ w53.cell? ⟨gb489, 5, none⟩ = some (.int .u64 a0_5) := hS_
               refine norm_ (a' := ?_) ?_ ?_
               rotate_left
               ·simp only [putAll, Act.put, List.setIfInBounds_toArray, List.set_cons_zero, List.set_cons_succ]
                rfl
               refine two_ (i := 11) (j := 16) (Ni := some 44) (Nj := some 7) #[true, true, true, true, true, true, true, true, true, true, true, true, false, false, false, false, false, false, false] #[true, true, true, true, true, true, true, true, true, true, true, false, false, false, false, false, true, false, false] rfl rfl rfl rfl (two_of HT_.out (by kernel_rfl)) (by decide) (by decide) (fun K hK => ?_) (fun K hK => ?_)
               ·skip
                refine goes_ Try.func42 (by kernel_rfl) rfl #[.agg #[.int .i64 a0_0, .int .i64 a0_1, .int .i64 a0_2], .int .u64 a0_5] (by rfl) rfl rfl (by (try simp only [List.map_toArray, List.map_cons, List.map_nil]); first | done | rfl | (simp only [List.length_drop, List.length_take]; rfl)) ?_
                with_reducible refine (spigotref37_end.calls a0_0 a0_1 a0_2 a0_5 t496 t497 _ A28.out).mono ?_
                rintro e w54 ⟨rfl, hb⟩
                refine ⟨_, rfl, ?_⟩
                replace BK489 := bb_ BK489 hb
                replace HB := bs_ w hb
                (try clear hb)
                (try clear hb2)
                (try clear hk)
                (try clear hi)
                refine hK.out _ _ ⟨(blk_cell BK489.out 0).trans rfl, (blk_cell BK489.out 1).trans rfl, (blk_cell BK489.out 2).trans rfl, (blk_cell BK489.out 3).trans rfl, (blk_cell BK489.out 4).trans rfl, (blk_cell BK489.out 5).trans rfl⟩ (fun hHeld => ?_)
                clear hK K
                refine norm_ (a' := ?_) ?_ ?_
                rotate_left
                ·show Act.put _ (some 44) _ = _
                 simp only [Act.put, List.setIfInBounds_toArray, List.set_cons_zero, List.set_cons_succ, i64_w, i32_w]
                 rfl
                exact norm_ (by first | (simp only [putAll, Act.put, List.setIfInBounds_toArray, List.set_cons_zero, List.set_cons_succ]; done) | (simp only [putAll, Act.put, List.setIfInBounds_toArray, List.set_cons_zero, List.set_cons_succ]; rfl)) (hJ5_6_11 () _ ⟨hHeld, (bq_ BK489), (by repeat (first | (with_reducible first | exact HB.out | apply below_alloc | apply pw_below_drewN | apply below_drew1 | refine below_set ?_ (Aside0.out (by assumption))) | exact HB.out))⟩)
               ·skip
                refine box_step ?hg (N := 7) ?hd (cs := #[.int .u64 0, .int .u64 0]) (t := 26) ?hr ?_; (case hd => rfl); (case hg => rfl); (case hr => first | (go_simp; done) | (go_simp; rfl))
                intro gb501 hg w54 hbox hb
                have BK501 := Aside0.mk (hbox)
                have GW501 := bz_ w hg
                have GE501 := GW501
                have NB489_501 := bn_ BK489 hg
                have NB501_489 := bm_ BK489 hg
                replace BK489 := bb_ BK489 hb
                replace HB := bs_ w hb
                clear hb hbox hg
                refine hK.out _ _ ⟨(blk_cell BK489.out 0).trans rfl, (blk_cell BK489.out 1).trans rfl, (blk_cell BK489.out 2).trans rfl, (blk_cell BK489.out 3).trans rfl, (blk_cell BK489.out 4).trans rfl, (blk_cell BK489.out 5).trans rfl⟩ (fun hHeld => ?_)
                clear hK K
                refine norm_ (a' := ?_) ?_ ?_
                rotate_left
                ·show Act.put _ (some 7) _ = _
                 simp only [Act.put, List.setIfInBounds_toArray, List.set_cons_zero, List.set_cons_succ, i64_w, i32_w]
                 rfl
                exact norm_ (by first | (simp only [putAll, Act.put, List.setIfInBounds_toArray, List.set_cons_zero, List.set_cons_succ]; done) | (simp only [putAll, Act.put, List.setIfInBounds_toArray, List.set_cons_zero, List.set_cons_succ]; rfl)) (hJ5_6_16 (gb501) _ ⟨hHeld, (bq_ BK489), (bq_ BK501), GW501.out, GE501.out, NB489_501.out, NB501_489.out, (by repeat (first | (with_reducible first | exact HB.out | apply below_alloc | apply pw_below_drewN | apply below_drew1 | refine below_set ?_ (Aside0.out (by assumption))) | exact HB.out))⟩)
             ·skip
              rintro gb501 w54 ⟨hS_, h0_, h1_, h2_, h3_, h4_, h5_, h6_⟩
              have BK501 : Aside0 (w54.heap[gb501]? = some (.cells #[.int .u64 0, .int .u64 0] 26 (0, 0))) := ⟨h1_⟩
              have GW501 : Aside0 (w.heap.size ≤ gb501) := ⟨h2_⟩
              have GE501 : Aside0 (w.heap.size ≤ gb501) := ⟨h3_⟩
              have NB489_501 : Aside0 (gb489 ≠ gb501) := ⟨h4_⟩
              have NB501_489 : Aside0 (gb501 ≠ gb489) := ⟨h5_⟩
              replace BK489 : Aside0 (w54.heap[gb489]? = some (.cells #[.int .i64 a0_0, .int .i64 a0_1, .int .i64 a0_2, .int .u64 a0_3, .int .u64 a0_4, .int .u64 a0_5] 28 (0, 0))) := ⟨h0_⟩
              replace HB : Aside0 (Below w.heap.size w w54) := ⟨h6_⟩
              clear h0_ h1_ h2_ h3_ h4_ h5_ h6_
              have hHeld : w54.cell? ⟨gb489, 0, none⟩ = some (.int .i64 a0_0) ∧ w54.cell? ⟨gb489, 1, none⟩ = some (.int .i64 a0_1) ∧ w54.cell? ⟨gb489, 2, none⟩ = some (.int .i64 a0_2) ∧ w54.cell? ⟨gb489, 3, none⟩ = some (.int .u64 a0_3) ∧ w54.cell? ⟨gb489, 4, none⟩ = some (.int .u64 a0_4) ∧ w54.cell? ⟨gb489, 5, none⟩ = some (.int .u64 a0_5) := hS_
              refine norm_ (a' := ?_) ?_ ?_
              rotate_left
              ·simp only [putAll, Act.put, List.setIfInBounds_toArray, List.set_cons_zero, List.set_cons_succ]
               rfl
              refine one_ (i := 11) (N := some 44) #[true, true, true, true, true, true, true, true, true, true, true, true, false, false, false, false, true, false, false] rfl rfl (one_of HT_.out (by kernel_rfl)) (by decide) (fun K hK => ?_)
              refine goes_ Try.func42 (by kernel_rfl) rfl #[.agg #[.int .i64 a0_0, .int .i64 a0_1, .int .i64 a0_2], .int .u64 a0_5] (by rfl) rfl rfl (by (try simp only [List.map_toArray, List.map_cons, List.map_nil]); first | done | rfl | (simp only [List.length_drop, List.length_take]; rfl)) ?_
              with_reducible refine (spigotref37_end.calls a0_0 a0_1 a0_2 a0_5 t496 t497 _ A28.out).mono ?_
              rintro e w55 ⟨rfl, hb⟩
              refine ⟨_, rfl, ?_⟩
              replace BK489 := bb_ BK489 hb
              replace BK501 := bb_ BK501 hb
              replace HB := bs_ w hb
              (try clear hb)
              (try clear hb2)
              (try clear hk)
              (try clear hi)
              refine hK.out _ _ ⟨(blk_cell BK489.out 0).trans rfl, (blk_cell BK489.out 1).trans rfl, (blk_cell BK489.out 2).trans rfl, (blk_cell BK489.out 3).trans rfl, (blk_cell BK489.out 4).trans rfl, (blk_cell BK489.out 5).trans rfl⟩ (fun hHeld => ?_)
              clear hK K
              refine norm_ (a' := ?_) ?_ ?_
              rotate_left
              ·show Act.put _ (some 44) _ = _
               simp only [Act.put, List.setIfInBounds_toArray, List.set_cons_zero, List.set_cons_succ, i64_w, i32_w]
               rfl
              exact norm_ (by first | (simp only [putAll, Act.put, List.setIfInBounds_toArray, List.set_cons_zero, List.set_cons_succ]; done) | (simp only [putAll, Act.put, List.setIfInBounds_toArray, List.set_cons_zero, List.set_cons_succ]; rfl)) (hJ5_6_11_16 (gb501) _ ⟨hHeld, (bq_ BK489), (bq_ BK501), GW501.out, GE501.out, NB489_501.out, NB501_489.out, (by repeat (first | (with_reducible first | exact HB.out | apply below_alloc | apply pw_below_drewN | apply below_drew1 | refine below_set ?_ (Aside0.out (by assumption))) | exact HB.out))⟩)
            ·skip
             rintro _ w54 ⟨hS_, h0_, h1_⟩
             replace BK489 : Aside0 (w54.heap[gb489]? = some (.cells #[.int .i64 a0_0, .int .i64 a0_1, .int .i64 a0_2, .int .u64 a0_3, .int .u64 a0_4, .int .u64 a0_5] 28 (0, 0))) := ⟨h0_⟩
             replace HB : Aside0 (Below w.heap.size w w54) := ⟨h1_⟩
             clear h0_ h1_
             have hHeld : w54.cell? ⟨gb489, 0, none⟩ = some (.int .i64 a0_0) ∧ w54.cell? ⟨gb489, 1, none⟩ = some (.int .i64 a0_1) ∧ w54.cell? ⟨gb489, 2, none⟩ = some (.int .i64 a0_2) ∧ w54.cell? ⟨gb489, 3, none⟩ = some (.int .u64 a0_3) ∧ w54.cell? ⟨gb489, 4, none⟩ = some (.int .u64 a0_4) ∧ w54.cell? ⟨gb489, 5, none⟩ = some (.int .u64 a0_5) := hS_
             refine norm_ (a' := ?_) ?_ ?_
             rotate_left
             ·simp only [putAll, Act.put, List.setIfInBounds_toArray, List.set_cons_zero, List.set_cons_succ]
              rfl
             refine two_ (i := 12) (j := 16) (Ni := some 45) (Nj := some 7) #[true, true, true, true, true, true, true, true, true, true, true, true, true, false, false, false, false, false, false] #[true, true, true, true, true, true, true, true, true, true, true, true, false, false, false, false, true, false, false] rfl rfl rfl rfl (two_of HT_.out (by kernel_rfl)) (by decide) (by decide) (fun K hK => ?_) (fun K hK => ?_)
             ·skip
              refine goes_ Try.func41 (by kernel_rfl) rfl #[.agg #[.int .u64 t494, .int .u64 t495], .agg #[.int .u64 t496, .int .u64 t497]] (by rfl) rfl rfl (by (try simp only [List.map_toArray, List.map_cons, List.map_nil]); first | done | rfl | (simp only [List.length_drop, List.length_take]; rfl)) ?_
              with_reducible refine (spigotref01_Sub.calls kj15 t494 t495 t496 t497 t498 t499 t500 _ A29.out).mono ?_
              rintro e w55 ⟨rfl, hb⟩
              refine ⟨_, rfl, ?_⟩
              replace BK489 := bb_ BK489 hb
              replace HB := bs_ w hb
              (try clear hb)
              (try clear hb2)
              (try clear hk)
              (try clear hi)
              refine hK.out _ _ ⟨(blk_cell BK489.out 0).trans rfl, (blk_cell BK489.out 1).trans rfl, (blk_cell BK489.out 2).trans rfl, (blk_cell BK489.out 3).trans rfl, (blk_cell BK489.out 4).trans rfl, (blk_cell BK489.out 5).trans rfl⟩ (fun hHeld => ?_)
              clear hK K
              refine norm_ (a' := ?_) ?_ ?_
              rotate_left
              ·show Act.put _ (some 45) _ = _
               simp only [Act.put, List.setIfInBounds_toArray, List.set_cons_zero, List.set_cons_succ, i64_w, i32_w]
               rfl
              refine pure_ (i := 13) (N := some 32) (v := ?_) (a' := ?_) #[true, true, true, true, true, true, true, true, true, true, true, true, true, true, false, false, false, false, false] rfl rfl (any_of HT_.out (by kernel_rfl)) (fun _ _ _ h => h) (Or.inl ⟨by rfl, ?_⟩) ?_ ?_
              rotate_left
              ·intro w'
               go_simp
               with_reducible rfl
              rotate_left
              ·simp only [Act.put, List.setIfInBounds_toArray, List.set_cons_zero, List.set_cons_succ, i64_w, i32_w]
               rfl
              refine pure_ (i := 14) (N := some 46) (v := ?_) (a' := ?_) #[true, true, true, true, true, true, true, true, true, true, true, true, true, true, true, false, false, false, false] rfl rfl (any_of HT_.out (by kernel_rfl)) (fun _ _ _ h => h) (Or.inl ⟨by rfl, ?_⟩) ?_ ?_
              rotate_left
              ·intro w'
               go_simp
               with_reducible rfl
              rotate_left
              ·simp only [Act.put, List.setIfInBounds_toArray, List.set_cons_zero, List.set_cons_succ, i64_w, i32_w]
               rfl
              refine pure_ (i := 15) (N := some 47) (v := ?_) (a' := ?_) #[true, true, true, true, true, true, true, true, true, true, true, true, true, true, true, true, false, false, false] rfl rfl (any_of HT_.out (by kernel_rfl)) (fun _ _ _ h => h) (Or.inl ⟨by rfl, ?_⟩) ?_ ?_
              rotate_left
              ·intro w'
               go_simp
               with_reducible rfl
              rotate_left
              ·simp only [Act.put, List.setIfInBounds_toArray, List.set_cons_zero, List.set_cons_succ, i64_w, i32_w]
               rfl
              exact norm_ (by first | (simp only [putAll, Act.put, List.setIfInBounds_toArray, List.set_cons_zero, List.set_cons_succ]; done) | (simp only [putAll, Act.put, List.setIfInBounds_toArray, List.set_cons_zero, List.set_cons_succ]; rfl)) (hJ5_6_11_12 () _ ⟨hHeld, (bq_ BK489), (by repeat (first | (with_reducible first | exact HB.out | apply below_alloc | apply pw_below_drewN | apply below_drew1 | refine below_set ?_ (Aside0.out (by assumption))) | exact HB.out))⟩)
             ·skip
              refine box_step ?hg (N := 7) ?hd (cs := #[.int .u64 0, .int .u64 0]) (t := 26) ?hr ?_; (case hd => rfl); (case hg => rfl); (case hr => first | (go_simp; done) | (go_simp; rfl))
              intro gb501 hg w55 hbox hb
              have BK501 := Aside0.mk (hbox)
              have GW501 := bz_ w hg
              have GE501 := GW501
              have NB489_501 := bn_ BK489 hg
              have NB501_489 := bm_ BK489 hg
              replace BK489 := bb_ BK489 hb
              replace HB := bs_ w hb
              clear hb hbox hg
              refine hK.out _ _ ⟨(blk_cell BK489.out 0).trans rfl, (blk_cell BK489.out 1).trans rfl, (blk_cell BK489.out 2).trans rfl, (blk_cell BK489.out 3).trans rfl, (blk_cell BK489.out 4).trans rfl, (blk_cell BK489.out 5).trans rfl⟩ (fun hHeld => ?_)
              clear hK K
              refine norm_ (a' := ?_) ?_ ?_
              rotate_left
              ·show Act.put _ (some 7) _ = _
               simp only [Act.put, List.setIfInBounds_toArray, List.set_cons_zero, List.set_cons_succ, i64_w, i32_w]
               rfl
              exact norm_ (by first | (simp only [putAll, Act.put, List.setIfInBounds_toArray, List.set_cons_zero, List.set_cons_succ]; done) | (simp only [putAll, Act.put, List.setIfInBounds_toArray, List.set_cons_zero, List.set_cons_succ]; rfl)) (hJ5_6_11_16 (gb501) _ ⟨hHeld, (bq_ BK489), (bq_ BK501), GW501.out, GE501.out, NB489_501.out, NB501_489.out, (by repeat (first | (with_reducible first | exact HB.out | apply below_alloc | apply pw_below_drewN | apply below_drew1 | refine below_set ?_ (Aside0.out (by assumption))) | exact HB.out))⟩)
           ·skip
            rintro gb501 w55 ⟨hS_, h0_, h1_, h2_, h3_, h4_, h5_, h6_⟩
            have BK501 : Aside0 (w55.heap[gb501]? = some (.cells #[.int .u64 0, .int .u64 0] 26 (0, 0))) := ⟨h1_⟩
            have GW501 : Aside0 (w.heap.size ≤ gb501) := ⟨h2_⟩
            have GE501 : Aside0 (w.heap.size ≤ gb501) := ⟨h3_⟩
            have NB489_501 : Aside0 (gb489 ≠ gb501) := ⟨h4_⟩
            have NB501_489 : Aside0 (gb501 ≠ gb489) := ⟨h5_⟩
            replace BK489 : Aside0 (w55.heap[gb489]? = some (.cells #[.int .i64 a0_0, .int .i64 a0_1, .int .i64 a0_2, .int .u64 a0_3, .int .u64 a0_4, .int .u64 a0_5] 28 (0, 0))) := ⟨h0_⟩
            replace HB : Aside0 (Below w.heap.size w w55) := ⟨h6_⟩
            clear h0_ h1_ h2_ h3_ h4_ h5_ h6_
            have hHeld : w55.cell? ⟨gb489, 0, none⟩ = some (.int .i64 a0_0) ∧ w55.cell? ⟨gb489, 1, none⟩ = some (.int .i64 a0_1) ∧ w55.cell? ⟨gb489, 2, none⟩ = some (.int .i64 a0_2) ∧ w55.cell? ⟨gb489, 3, none⟩ = some (.int .u64 a0_3) ∧ w55.cell? ⟨gb489, 4, none⟩ = some (.int .u64 a0_4) ∧ w55.cell? ⟨gb489, 5, none⟩ = some (.int .u64 a0_5) := hS_
            refine norm_ (a' := ?_) ?_ ?_
            rotate_left
            ·simp only [putAll, Act.put, List.setIfInBounds_toArray, List.set_cons_zero, List.set_cons_succ]
             rfl
            refine one_ (i := 12) (N := some 45) #[true, true, true, true, true, true, true, true, true, true, true, true, true, false, false, false, true, false, false] rfl rfl (one_of HT_.out (by kernel_rfl)) (by decide) (fun K hK => ?_)
            refine goes_ Try.func41 (by kernel_rfl) rfl #[.agg #[.int .u64 t494, .int .u64 t495], .agg #[.int .u64 t496, .int .u64 t497]] (by rfl) rfl rfl (by (try simp only [List.map_toArray, List.map_cons, List.map_nil]); first | done | rfl | (simp only [List.length_drop, List.length_take]; rfl)) ?_
            with_reducible refine (spigotref01_Sub.calls kj15 t494 t495 t496 t497 t498 t499 t500 _ A29.out).mono ?_
            rintro e w56 ⟨rfl, hb⟩
            refine ⟨_, rfl, ?_⟩
            replace BK489 := bb_ BK489 hb
            replace BK501 := bb_ BK501 hb
            replace HB := bs_ w hb
            (try clear hb)
            (try clear hb2)
            (try clear hk)
            (try clear hi)
            refine hK.out _ _ ⟨(blk_cell BK489.out 0).trans rfl, (blk_cell BK489.out 1).trans rfl, (blk_cell BK489.out 2).trans rfl, (blk_cell BK489.out 3).trans rfl, (blk_cell BK489.out 4).trans rfl, (blk_cell BK489.out 5).trans rfl⟩ (fun hHeld => ?_)
            clear hK K
            refine norm_ (a' := ?_) ?_ ?_
            rotate_left
            ·show Act.put _ (some 45) _ = _
             simp only [Act.put, List.setIfInBounds_toArray, List.set_cons_zero, List.set_cons_succ, i64_w, i32_w]
             rfl
            refine pure_ (i := 13) (N := some 32) (v := ?_) (a' := ?_) #[true, true, true, true, true, true, true, true, true, true, true, true, true, true, false, false, true, false, false] rfl rfl (any_of HT_.out (by kernel_rfl)) (fun _ _ _ h => h) (Or.inl ⟨by rfl, ?_⟩) ?_ ?_
            rotate_left
            ·intro w'
             go_simp
             with_reducible rfl
            rotate_left
            ·simp only [Act.put, List.setIfInBounds_toArray, List.set_cons_zero, List.set_cons_succ, i64_w, i32_w]
             rfl
            refine pure_ (i := 14) (N := some 46) (v := ?_) (a' := ?_) #[true, true, true, true, true, true, true, true, true, true, true, true, true, true, true, false, true, false, false] rfl rfl (any_of HT_.out (by kernel_rfl)) (fun _ _ _ h => h) (Or.inl ⟨by rfl, ?_⟩) ?_ ?_
            rotate_left
            ·intro w'
             go_simp
             with_reducible rfl
            rotate_left
            ·simp only [Act.put, List.setIfInBounds_toArray, List.set_cons_zero, List.set_cons_succ, i64_w, i32_w]
             rfl
            refine pure_ (i := 15) (N := some 47) (v := ?_) (a' := ?_) #[true, true, true, true, true, true, true, true, true, true, true, true, true, true, true, true, true, false, false] rfl rfl (any_of HT_.out (by kernel_rfl)) (fun _ _ _ h => h) (Or.inl ⟨by rfl, ?_⟩) ?_ ?_
            rotate_left
            ·intro w'
             go_simp
             with_reducible rfl
            rotate_left
            ·simp only [Act.put, List.setIfInBounds_toArray, List.set_cons_zero, List.set_cons_succ, i64_w, i32_w]
             rfl
            exact norm_ (by first | (simp only [putAll, Act.put, List.setIfInBounds_toArray, List.set_cons_zero, List.set_cons_succ]; done) | (simp only [putAll, Act.put, List.setIfInBounds_toArray, List.set_cons_zero, List.set_cons_succ]; rfl)) (hJ5_6_11_12_16 (gb501) _ ⟨hHeld, (bq_ BK489), (bq_ BK501), GW501.out, GE501.out, NB489_501.out, NB501_489.out, (by repeat (first | (with_reducible first | exact HB.out | apply below_alloc | apply pw_below_drewN | apply below_drew1 | refine below_set ?_ (Aside0.out (by assumption))) | exact HB.out))⟩)
          ·skip
           rintro _ w55 ⟨hS_, h0_, h1_⟩
           replace BK489 : Aside0 (w55.heap[gb489]? = some (.cells #[.int .i64 a0_0, .int .i64 a0_1, .int .i64 a0_2, .int .u64 a0_3, .int .u64 a0_4, .int .u64 a0_5] 28 (0, 0))) := ⟨h0_⟩
           replace HB : Aside0 (Below w.heap.size w w55) := ⟨h1_⟩
           clear h0_ h1_
           have hHeld : w55.cell? ⟨gb489, 0, none⟩ = some (.int .i64 a0_0) ∧ w55.cell? ⟨gb489, 1, none⟩ = some (.int .i64 a0_1) ∧ w55.cell? ⟨gb489, 2, none⟩ = some (.int .i64 a0_2) ∧ w55.cell? ⟨gb489, 3, none⟩ = some (.int .u64 a0_3) ∧ w55.cell? ⟨gb489, 4, none⟩ = some (.int .u64 a0_4) ∧ w55.cell? ⟨gb489, 5, none⟩ = some (.int .u64 a0_5) := hS_
           refine norm_ (a' := ?_) ?_ ?_
           rotate_left
           ·simp only [putAll, Act.put, List.setIfInBounds_toArray, List.set_cons_zero, List.set_cons_succ]
            rfl
           refine one_ (i := 16) (N := some 7) #[true, true, true, true, true, true, true, true, true, true, true, true, true, true, true, true, true, false, false] rfl rfl (one_of HT_.out (by kernel_rfl)) (by decide) (fun K hK => ?_)
           refine box_step ?hg (N := 7) ?hd (cs := #[.int .u64 0, .int .u64 0]) (t := 26) ?hr ?_; (case hd => rfl); (case hg => rfl); (case hr => first | (go_simp; done) | (go_simp; rfl))
           intro gb501 hg w56 hbox hb
           have BK501 := Aside0.mk (hbox)
           have GW501 := bz_ w hg
           have GE501 := GW501
           have NB489_501 := bn_ BK489 hg
           have NB501_489 := bm_ BK489 hg
           replace BK489 := bb_ BK489 hb
           replace HB := bs_ w hb
           clear hb hbox hg
           refine hK.out _ _ ⟨(blk_cell BK489.out 0).trans rfl, (blk_cell BK489.out 1).trans rfl, (blk_cell BK489.out 2).trans rfl, (blk_cell BK489.out 3).trans rfl, (blk_cell BK489.out 4).trans rfl, (blk_cell BK489.out 5).trans rfl⟩ (fun hHeld => ?_)
           clear hK K
           refine norm_ (a' := ?_) ?_ ?_
           rotate_left
           ·show Act.put _ (some 7) _ = _
            simp only [Act.put, List.setIfInBounds_toArray, List.set_cons_zero, List.set_cons_succ, i64_w, i32_w]
            rfl
           exact norm_ (by first | (simp only [putAll, Act.put, List.setIfInBounds_toArray, List.set_cons_zero, List.set_cons_succ]; done) | (simp only [putAll, Act.put, List.setIfInBounds_toArray, List.set_cons_zero, List.set_cons_succ]; rfl)) (hJ5_6_11_12_16 (gb501) _ ⟨hHeld, (bq_ BK489), (bq_ BK501), GW501.out, GE501.out, NB489_501.out, NB501_489.out, (by repeat (first | (with_reducible first | exact HB.out | apply below_alloc | apply pw_below_drewN | apply below_drew1 | refine below_set ?_ (Aside0.out (by assumption))) | exact HB.out))⟩)
         rintro gb501 w56 ⟨hS_, h0_, h1_, h2_, h3_, h4_, h5_, h6_⟩
         have BK501 : Aside0 (w56.heap[gb501]? = some (.cells #[.int .u64 0, .int .u64 0] 26 (0, 0))) := ⟨h1_⟩
         have GW501 : Aside0 (w.heap.size ≤ gb501) := ⟨h2_⟩
         have GE501 : Aside0 (w.heap.size ≤ gb501) := ⟨h3_⟩
         have NB489_501 : Aside0 (gb489 ≠ gb501) := ⟨h4_⟩
         have NB501_489 : Aside0 (gb501 ≠ gb489) := ⟨h5_⟩
         replace BK489 : Aside0 (w56.heap[gb489]? = some (.cells #[.int .i64 a0_0, .int .i64 a0_1, .int .i64 a0_2, .int .u64 a0_3, .int .u64 a0_4, .int .u64 a0_5] 28 (0, 0))) := ⟨h0_⟩
         replace HB : Aside0 (Below w.heap.size w w56) := ⟨h6_⟩
         clear h0_ h1_ h2_ h3_ h4_ h5_ h6_
         have hHeld : w56.cell? ⟨gb489, 0, none⟩ = some (.int .i64 a0_0) ∧ w56.cell? ⟨gb489, 1, none⟩ = some (.int .i64 a0_1) ∧ w56.cell? ⟨gb489, 2, none⟩ = some (.int .i64 a0_2) ∧ w56.cell? ⟨gb489, 3, none⟩ = some (.int .u64 a0_3) ∧ w56.cell? ⟨gb489, 4, none⟩ = some (.int .u64 a0_4) ∧ w56.cell? ⟨gb489, 5, none⟩ = some (.int .u64 a0_5) := hS_
         refine norm_ (a' := ?_) ?_ ?_
         rotate_left
         ·simp only [putAll, Act.put, List.setIfInBounds_toArray, List.set_cons_zero, List.set_cons_succ]
          rfl
         refine one_ (i := 17) (N := none) #[true, true, true, true, true, true, true, true, true, true, true, true, true, true, true, true, true, true, false] rfl rfl (one_of HT_.out (by kernel_rfl)) (by decide) (fun K hK => ?_)
         have hs57 : w56.cell? ⟨gb501, 0, none⟩ = some (.int .u64 0) := (blk_cell BK501.out 0).trans rfl
         have hfs57 := blk_frozen BK501.out 0
         have hns57_0 := NB489_501.out
         have hms57_0 := NB501_489.out
         have hs58 : w56.cell? ⟨gb501, 1, none⟩ = some (.int .u64 0) := (blk_cell BK501.out 1).trans rfl
         have hfs58 := blk_frozen BK501.out 1
         have hns58_0 := NB489_501.out
         have hms58_0 := NB501_489.out
         refine skip_ (w1 := ?_) (by rfl) rfl ?_ ?_
         rotate_left
         ·go_simp
          rfl
         refine hK.out _ _ ⟨((cell_far (p := ⟨gb501, _, none⟩) NB489_501.out _).trans (((cell_far (p := ⟨gb501, _, none⟩) NB489_501.out _).trans (hHeld.1)))), ((cell_far (p := ⟨gb501, _, none⟩) NB489_501.out _).trans (((cell_far (p := ⟨gb501, _, none⟩) NB489_501.out _).trans (hHeld.2.1)))), ((cell_far (p := ⟨gb501, _, none⟩) NB489_501.out _).trans (((cell_far (p := ⟨gb501, _, none⟩) NB489_501.out _).trans (hHeld.2.2.1)))), ((cell_far (p := ⟨gb501, _, none⟩) NB489_501.out _).trans (((cell_far (p := ⟨gb501, _, none⟩) NB489_501.out _).trans (hHeld.2.2.2.1)))), ((cell_far (p := ⟨gb501, _, none⟩) NB489_501.out _).trans (((cell_far (p := ⟨gb501, _, none⟩) NB489_501.out _).trans (hHeld.2.2.2.2.1)))), ((cell_far (p := ⟨gb501, _, none⟩) NB489_501.out _).trans (((cell_far (p := ⟨gb501, _, none⟩) NB489_501.out _).trans (hHeld.2.2.2.2.2))))⟩ (fun hHeld => ?_)
         clear hK K
         refine pure_ (i := 18) (N := some 8) (v := ?_) (a' := ?_) #[true, true, true, true, true, true, true, true, true, true, true, true, true, true, true, true, true, true, true] rfl rfl (any_of HT_.out (by kernel_rfl)) (fun _ _ _ h => h) (Or.inl ⟨by rfl, ?_⟩) ?_ ?_
         rotate_left
         ·intro w'
          go_simp
          with_reducible rfl
         rotate_left
         ·simp only [Act.put, List.setIfInBounds_toArray, List.set_cons_zero, List.set_cons_succ, i64_w, i32_w]
          rfl
         refine done_ (done_of HT_.out (by kernel_rfl)) ?_
         have hnb59 := NB501_489.out
         have hnc59 := NB489_501.out
         obtain ⟨hcz60_0, hcz60_1, hfz60_0, hfz60_1⟩ := ce2_ BK501
         obtain ⟨hcz61_0, hcz61_1, hcz61_2, hcz61_3, hcz61_4, hcz61_5, hfz61_0, hfz61_1, hfz61_2, hfz61_3, hfz61_4, hfz61_5⟩ := ce6_ BK489
         try go_wp2_with (first | ((with_reducible refine gate_callee (f := 52) rfl ?_); refine goesA_ (some 54) Try.func52 #[.agg #[.int .u64 t498, .int .u64 t499], .int .u64 (IntKind.u64.wrap (a0_1))] ?_; (with_reducible refine (spigotref01_Up.calls kj15 t498 t499 (IntKind.u64.wrap (a0_1)) t502 t503 t504 _ A30.out).mono ?_); rintro e w62 ⟨rfl, hb⟩; refine ⟨_, rfl, ?_⟩; replace BK489 := bf_ BK489 hb; replace BK501 := Aside0.mk (blk_below (g := gb501) (o := .cells #[.int .u64 t498, .int .u64 t499] 26 (0, 0)) (blk_put (cs := #[.int .u64 t498, .int .u64 0]) (blk_put (cs := #[.int .u64 0, .int .u64 0]) (bq_ BK501) 0 _ rfl) 1 _ rfl) hb); replace HB := bs_ w hb; (try clear hb); (try clear hb2); (try clear hk); (try clear hi)) | ((with_reducible refine gate_dst (N := 9) rfl ?_); refine box_event ?hg (N := 9) ?hd (cs := #[.int .u64 0, .int .u64 0]) (t := 26) ?hr ?_; (case hd => rfl); (case hg => rfl); (case hr => first | (go_simp; done) | (go_simp; rfl)); intro gb505 hg w63 hbox hb; have BK505 := Aside0.mk (hbox); have GW505 := bz_ w hg; have GE505 := GW505; have NB489_505 := bn_ BK489 hg; have NB505_489 := bm_ BK489 hg; have NB501_505 := bn_ BK501 hg; have NB505_501 := bm_ BK501 hg; replace BK489 := bb_ BK489 hb; replace BK501 := bb_ BK501 hb; replace HB := bs_ w hb; clear hb hbox hg; have hnb64 := NB505_489.out; have hnc64 := NB489_505.out; have hnb65 := NB505_501.out; have hnc65 := NB501_505.out; obtain ⟨hcz66_0, hcz66_1, hfz66_0, hfz66_1⟩ := ce2_ BK505; obtain ⟨hcz67_0, hcz67_1, hcz67_2, hcz67_3, hcz67_4, hcz67_5, hfz67_0, hfz67_1, hfz67_2, hfz67_3, hfz67_4, hfz67_5⟩ := ce6_ BK489))
         go_ret2
         exact ⟨by first | rfl | (simp [errW_none, errW_some] <;> rfl) | (simp [*, errW_none, errW_some] <;> rfl), by repeat (first | (with_reducible first | exact HB.out | apply below_alloc | apply pw_below_drewN | apply below_drew1 | refine below_set ?_ GE489.out | refine below_set ?_ GE501.out | refine below_set ?_ GE505.out) | exact HB.out)⟩
        ·rw [if_neg c49] at H
         have c49b0 : decide ((IntKind.u64.wrap (18446744073709551615 - a0_5)) < t503) = false := decide_eq_false c49
         clear c49
         simp only [Option.some.injEq, Prod.mk.injEq] at H
         obtain ⟨rfl, rfl⟩ := H
         try go_wp2
         replace BK489 := Aside0.mk (blk_drew BK489.out)
         replace HB := Aside0.mk (below_drew1 HB.out)
         refine start_ (n := 19) (S := fun w' => w'.cell? ⟨gb489, 0, none⟩ = some (.int .i64 a0_0) ∧ w'.cell? ⟨gb489, 1, none⟩ = some (.int .i64 a0_1) ∧ w'.cell? ⟨gb489, 2, none⟩ = some (.int .i64 a0_2) ∧ w'.cell? ⟨gb489, 3, none⟩ = some (.int .u64 a0_3) ∧ w'.cell? ⟨gb489, 4, none⟩ = some (.int .u64 a0_4) ∧ w'.cell? ⟨gb489, 5, none⟩ = some (.int .u64 a0_5)) (ds := []) #[false, false, false, false, false, false, false, false, false, false, false, false, false, false, false, false, false, false, false] (by kernel_rfl) rfl rfl ⟨(blk_cell BK489.out 0).trans rfl, (blk_cell BK489.out 1).trans rfl, (blk_cell BK489.out 2).trans rfl, (blk_cell BK489.out 3).trans rfl, (blk_cell BK489.out 4).trans rfl, (blk_cell BK489.out 5).trans rfl⟩ (fun hHeld => ?_); refine with_tabW spigotref37_Wait.tab10 spigotref37_Wait.bits10 (fun HT_ HW_ => ?_)
         generalize wc.drew = w68 at BK489 HB hHeld ⊢
         refine pure_ (i := 0) (N := some 33) (v := ?_) (a' := ?_) #[true, false, false, false, false, false, false, false, false, false, false, false, false, false, false, false, false, false, false] rfl rfl (any_of HT_.out (by kernel_rfl)) (fun _ _ _ h => h) (Or.inl ⟨by rfl, ?_⟩) ?_ ?_
         rotate_left
         ·intro w'
          go_simp
          with_reducible rfl
         rotate_left
         ·simp only [Act.put, List.setIfInBounds_toArray, List.set_cons_zero, List.set_cons_succ, i64_w, i32_w]
          rfl
         refine pure_ (i := 2) (N := some 35) (v := ?_) (a' := ?_) #[true, false, true, false, false, false, false, false, false, false, false, false, false, false, false, false, false, false, false] rfl rfl (any_of HT_.out (by kernel_rfl)) (fun _ _ _ h => h) (Or.inl ⟨by rfl, ?_⟩) ?_ ?_
         rotate_left
         ·intro w'
          go_simp
          with_reducible rfl
         rotate_left
         ·simp only [Act.put, List.setIfInBounds_toArray, List.set_cons_zero, List.set_cons_succ, i64_w, i32_w]
          rfl
         refine pure_ (i := 4) (N := some 37) (v := ?_) (a' := ?_) #[true, false, true, false, true, false, false, false, false, false, false, false, false, false, false, false, false, false, false] rfl rfl (any_of HT_.out (by kernel_rfl)) (fun _ _ _ h => h) (Or.inl ⟨by rfl, ?_⟩) ?_ ?_
         rotate_left
         ·intro w'
          go_simp
          with_reducible rfl
         rotate_left
         ·simp only [Act.put, List.setIfInBounds_toArray, List.set_cons_zero, List.set_cons_succ, i64_w, i32_w]
          rfl
         refine pure_ (i := 7) (N := some 40) (v := ?_) (a' := ?_) #[true, false, true, false, true, false, false, true, false, false, false, false, false, false, false, false, false, false, false] rfl rfl (any_of HT_.out (by kernel_rfl)) (fun _ _ _ h => h) (Or.inl ⟨by rfl, ?_⟩) ?_ ?_
         rotate_left
         ·intro w'
          go_simp
          with_reducible rfl
         rotate_left
         ·simp only [Act.put, List.setIfInBounds_toArray, List.set_cons_zero, List.set_cons_succ, i64_w, i32_w]
          rfl
         refine pure_ (i := 9) (N := some 42) (v := ?_) (a' := ?_) #[true, false, true, false, true, false, false, true, false, true, false, false, false, false, false, false, false, false, false] rfl rfl (any_of HT_.out (by kernel_rfl)) (fun _ _ _ h => h) (Or.inl ⟨by rfl, ?_⟩) ?_ ?_
         rotate_left
         ·intro w'
          go_simp
          with_reducible rfl
         rotate_left
         ·simp only [Act.put, List.setIfInBounds_toArray, List.set_cons_zero, List.set_cons_succ, i64_w, i32_w]
          rfl
         refine take_ (i := 1) (N := some 34) (v := ?_) (a' := ?_) #[true, true, true, false, true, false, false, true, false, true, false, false, false, false, false, false, false, false, false] rfl rfl (take_ofW HT_.out HW_.out (by kernel_rfl)) (fun _ _ _ h => h) (Or.inl ⟨by rfl, ?_⟩) hHeld ?_ ?_
         rotate_left
         ·rintro w' ⟨s0, s1, s2, s3, s4, s5⟩
          go_simp
          with_reducible rfl
         rotate_left
         ·simp only [Act.put, List.setIfInBounds_toArray, List.set_cons_zero, List.set_cons_succ, i64_w, i32_w]
          rfl
         refine take_ (i := 3) (N := some 36) (v := ?_) (a' := ?_) #[true, true, true, true, true, false, false, true, false, true, false, false, false, false, false, false, false, false, false] rfl rfl (take_ofW HT_.out HW_.out (by kernel_rfl)) (fun _ _ _ h => h) (Or.inl ⟨by rfl, ?_⟩) hHeld ?_ ?_
         rotate_left
         ·rintro w' ⟨s0, s1, s2, s3, s4, s5⟩
          go_simp
          with_reducible rfl
         rotate_left
         ·simp only [Act.put, List.setIfInBounds_toArray, List.set_cons_zero, List.set_cons_succ, i64_w, i32_w]
          rfl
         refine take_ (i := 8) (N := some 41) (v := ?_) (a' := ?_) #[true, true, true, true, true, false, false, true, true, true, false, false, false, false, false, false, false, false, false] rfl rfl (take_ofW HT_.out HW_.out (by kernel_rfl)) (fun _ _ _ h => h) (Or.inl ⟨by rfl, ?_⟩) hHeld ?_ ?_
         rotate_left
         ·rintro w' ⟨s0, s1, s2, s3, s4, s5⟩
          go_simp
          with_reducible rfl
         rotate_left
         ·simp only [Act.put, List.setIfInBounds_toArray, List.set_cons_zero, List.set_cons_succ, i64_w, i32_w]
          rfl
         refine take_ (i := 10) (N := some 43) (v := ?_) (a' := ?_) #[true, true, true, true, true, false, false, true, true, true, true, false, false, false, false, false, false, false, false] rfl rfl (take_ofW HT_.out HW_.out (by kernel_rfl)) (fun _ _ _ h => h) (Or.inl ⟨by rfl, ?_⟩) hHeld ?_ ?_
         rotate_left
         ·rintro w' ⟨s0, s1, s2, s3, s4, s5⟩
          go_simp
          with_reducible rfl
         rotate_left
         ·simp only [Act.put, List.setIfInBounds_toArray, List.set_cons_zero, List.set_cons_succ, i64_w, i32_w]
          rfl
         refine join_ (σ := Nat) 2 #[true, true, true, true, true, true, true, true, true, true, true, true, true, true, true, true, true, false, false] (fun s_ => [(38, .agg #[.int .u64 t492, .int .u64 t493]), (39, .agg #[.int .u64 t494, .int .u64 t495]), (44, .agg #[.int .u64 t496, .int .u64 t497]), (45, .tuple #[.agg #[.int .u64 t498, .int .u64 t499], .int .i64 t500]), (7, .pointer (some ⟨s_, 0, none⟩)), (32, .tuple #[.agg #[.int .u64 t498, .int .u64 t499], .int .i64 t500]), (46, .agg #[.int .u64 t498, .int .u64 t499]), (47, .int .i64 t500)]) (fun s_ w' => (w'.cell? ⟨gb489, 0, none⟩ = some (.int .i64 a0_0) ∧ w'.cell? ⟨gb489, 1, none⟩ = some (.int .i64 a0_1) ∧ w'.cell? ⟨gb489, 2, none⟩ = some (.int .i64 a0_2) ∧ w'.cell? ⟨gb489, 3, none⟩ = some (.int .u64 a0_3) ∧ w'.cell? ⟨gb489, 4, none⟩ = some (.int .u64 a0_4) ∧ w'.cell? ⟨gb489, 5, none⟩ = some (.int .u64 a0_5)) ∧ (w'.heap[gb489]? = some (.cells #[.int .i64 a0_0, .int .i64 a0_1, .int .i64 a0_2, .int .u64 a0_3, .int .u64 a0_4, .int .u64 a0_5] 28 (0, 0))) ∧ (w'.heap[s_]? = some (.cells #[.int .u64 0, .int .u64 0] 26 (0, 0))) ∧ (w.heap.size ≤ s_) ∧ (w.heap.size ≤ s_) ∧ (gb489 ≠ s_) ∧ (s_ ≠ gb489) ∧ (Below w.heap.size w w')) ?_ ?_
         rotate_left
         ·intro hJ5_6_11_12_16
          refine join_ (σ := Unit) 3 #[true, true, true, true, true, true, true, true, true, true, true, true, true, true, true, true, false, false, false] (fun s_ => [(38, .agg #[.int .u64 t492, .int .u64 t493]), (39, .agg #[.int .u64 t494, .int .u64 t495]), (44, .agg #[.int .u64 t496, .int .u64 t497]), (45, .tuple #[.agg #[.int .u64 t498, .int .u64 t499], .int .i64 t500]), (32, .tuple #[.agg #[.int .u64 t498, .int .u64 t499], .int .i64 t500]), (46, .agg #[.int .u64 t498, .int .u64 t499]), (47, .int .i64 t500)]) (fun s_ w' => (w'.cell? ⟨gb489, 0, none⟩ = some (.int .i64 a0_0) ∧ w'.cell? ⟨gb489, 1, none⟩ = some (.int .i64 a0_1) ∧ w'.cell? ⟨gb489, 2, none⟩ = some (.int .i64 a0_2) ∧ w'.cell? ⟨gb489, 3, none⟩ = some (.int .u64 a0_3) ∧ w'.cell? ⟨gb489, 4, none⟩ = some (.int .u64 a0_4) ∧ w'.cell? ⟨gb489, 5, none⟩ = some (.int .u64 a0_5)) ∧ (w'.heap[gb489]? = some (.cells #[.int .i64 a0_0, .int .i64 a0_1, .int .i64 a0_2, .int .u64 a0_3, .int .u64 a0_4, .int .u64 a0_5] 28 (0, 0))) ∧ (Below w.heap.size w w')) ?_ ?_
          rotate_left
          ·intro hJ5_6_11_12
           refine join_ (σ := Nat) 6 #[true, true, true, true, true, true, true, true, true, true, true, true, false, false, false, false, true, false, false] (fun s_ => [(38, .agg #[.int .u64 t492, .int .u64 t493]), (39, .agg #[.int .u64 t494, .int .u64 t495]), (44, .agg #[.int .u64 t496, .int .u64 t497]), (7, .pointer (some ⟨s_, 0, none⟩))]) (fun s_ w' => (w'.cell? ⟨gb489, 0, none⟩ = some (.int .i64 a0_0) ∧ w'.cell? ⟨gb489, 1, none⟩ = some (.int .i64 a0_1) ∧ w'.cell? ⟨gb489, 2, none⟩ = some (.int .i64 a0_2) ∧ w'.cell? ⟨gb489, 3, none⟩ = some (.int .u64 a0_3) ∧ w'.cell? ⟨gb489, 4, none⟩ = some (.int .u64 a0_4) ∧ w'.cell? ⟨gb489, 5, none⟩ = some (.int .u64 a0_5)) ∧ (w'.heap[gb489]? = some (.cells #[.int .i64 a0_0, .int .i64 a0_1, .int .i64 a0_2, .int .u64 a0_3, .int .u64 a0_4, .int .u64 a0_5] 28 (0, 0))) ∧ (w'.heap[s_]? = some (.cells #[.int .u64 0, .int .u64 0] 26 (0, 0))) ∧ (w.heap.size ≤ s_) ∧ (w.heap.size ≤ s_) ∧ (gb489 ≠ s_) ∧ (s_ ≠ gb489) ∧ (Below w.heap.size w w')) ?_ ?_
           rotate_left
           ·intro hJ5_6_11_16
            refine join_ (σ := Unit) 7 #[true, true, true, true, true, true, true, true, true, true, true, true, false, false, false, false, false, false, false] (fun s_ => [(38, .agg #[.int .u64 t492, .int .u64 t493]), (39, .agg #[.int .u64 t494, .int .u64 t495]), (44, .agg #[.int .u64 t496, .int .u64 t497])]) (fun s_ w' => (w'.cell? ⟨gb489, 0, none⟩ = some (.int .i64 a0_0) ∧ w'.cell? ⟨gb489, 1, none⟩ = some (.int .i64 a0_1) ∧ w'.cell? ⟨gb489, 2, none⟩ = some (.int .i64 a0_2) ∧ w'.cell? ⟨gb489, 3, none⟩ = some (.int .u64 a0_3) ∧ w'.cell? ⟨gb489, 4, none⟩ = some (.int .u64 a0_4) ∧ w'.cell? ⟨gb489, 5, none⟩ = some (.int .u64 a0_5)) ∧ (w'.heap[gb489]? = some (.cells #[.int .i64 a0_0, .int .i64 a0_1, .int .i64 a0_2, .int .u64 a0_3, .int .u64 a0_4, .int .u64 a0_5] 28 (0, 0))) ∧ (Below w.heap.size w w')) ?_ ?_
            rotate_left
            ·intro hJ5_6_11
             refine join_ (σ := Nat) 7 #[true, true, true, true, true, true, true, true, true, true, true, false, false, false, false, false, true, false, false] (fun s_ => [(38, .agg #[.int .u64 t492, .int .u64 t493]), (39, .agg #[.int .u64 t494, .int .u64 t495]), (7, .pointer (some ⟨s_, 0, none⟩))]) (fun s_ w' => (w'.cell? ⟨gb489, 0, none⟩ = some (.int .i64 a0_0) ∧ w'.cell? ⟨gb489, 1, none⟩ = some (.int .i64 a0_1) ∧ w'.cell? ⟨gb489, 2, none⟩ = some (.int .i64 a0_2) ∧ w'.cell? ⟨gb489, 3, none⟩ = some (.int .u64 a0_3) ∧ w'.cell? ⟨gb489, 4, none⟩ = some (.int .u64 a0_4) ∧ w'.cell? ⟨gb489, 5, none⟩ = some (.int .u64 a0_5)) ∧ (w'.heap[gb489]? = some (.cells #[.int .i64 a0_0, .int .i64 a0_1, .int .i64 a0_2, .int .u64 a0_3, .int .u64 a0_4, .int .u64 a0_5] 28 (0, 0))) ∧ (w'.heap[s_]? = some (.cells #[.int .u64 0, .int .u64 0] 26 (0, 0))) ∧ (w.heap.size ≤ s_) ∧ (w.heap.size ≤ s_) ∧ (gb489 ≠ s_) ∧ (s_ ≠ gb489) ∧ (Below w.heap.size w w')) ?_ ?_
             rotate_left
             ·intro hJ5_6_16
              refine join_ (σ := Unit) 8 #[true, true, true, true, true, true, true, true, true, true, true, false, false, false, false, false, false, false, false] (fun s_ => [(38, .agg #[.int .u64 t492, .int .u64 t493]), (39, .agg #[.int .u64 t494, .int .u64 t495])]) (fun s_ w' => (w'.cell? ⟨gb489, 0, none⟩ = some (.int .i64 a0_0) ∧ w'.cell? ⟨gb489, 1, none⟩ = some (.int .i64 a0_1) ∧ w'.cell? ⟨gb489, 2, none⟩ = some (.int .i64 a0_2) ∧ w'.cell? ⟨gb489, 3, none⟩ = some (.int .u64 a0_3) ∧ w'.cell? ⟨gb489, 4, none⟩ = some (.int .u64 a0_4) ∧ w'.cell? ⟨gb489, 5, none⟩ = some (.int .u64 a0_5)) ∧ (w'.heap[gb489]? = some (.cells #[.int .i64 a0_0, .int .i64 a0_1, .int .i64 a0_2, .int .u64 a0_3, .int .u64 a0_4, .int .u64 a0_5] 28 (0, 0))) ∧ (Below w.heap.size w w')) ?_ ?_
              rotate_left
              ·intro hJ5_6
               refine join_ (σ := Nat) 8 #[true, true, true, true, true, true, false, true, true, true, true, false, false, false, false, false, true, false, false] (fun s_ => [(38, .agg #[.int .u64 t492, .int .u64 t493]), (7, .pointer (some ⟨s_, 0, none⟩))]) (fun s_ w' => (w'.cell? ⟨gb489, 0, none⟩ = some (.int .i64 a0_0) ∧ w'.cell? ⟨gb489, 1, none⟩ = some (.int .i64 a0_1) ∧ w'.cell? ⟨gb489, 2, none⟩ = some (.int .i64 a0_2) ∧ w'.cell? ⟨gb489, 3, none⟩ = some (.int .u64 a0_3) ∧ w'.cell? ⟨gb489, 4, none⟩ = some (.int .u64 a0_4) ∧ w'.cell? ⟨gb489, 5, none⟩ = some (.int .u64 a0_5)) ∧ (w'.heap[gb489]? = some (.cells #[.int .i64 a0_0, .int .i64 a0_1, .int .i64 a0_2, .int .u64 a0_3, .int .u64 a0_4, .int .u64 a0_5] 28 (0, 0))) ∧ (w'.heap[s_]? = some (.cells #[.int .u64 0, .int .u64 0] 26 (0, 0))) ∧ (w.heap.size ≤ s_) ∧ (w.heap.size ≤ s_) ∧ (gb489 ≠ s_) ∧ (s_ ≠ gb489) ∧ (Below w.heap.size w w')) ?_ ?_
               rotate_left
               ·intro hJ5_16
                refine join_ (σ := Unit) 9 #[true, true, true, true, true, true, false, true, true, true, true, false, false, false, false, false, false, false, false] (fun s_ => [(38, .agg #[.int .u64 t492, .int .u64 t493])]) (fun s_ w' => (w'.cell? ⟨gb489, 0, none⟩ = some (.int .i64 a0_0) ∧ w'.cell? ⟨gb489, 1, none⟩ = some (.int .i64 a0_1) ∧ w'.cell? ⟨gb489, 2, none⟩ = some (.int .i64 a0_2) ∧ w'.cell? ⟨gb489, 3, none⟩ = some (.int .u64 a0_3) ∧ w'.cell? ⟨gb489, 4, none⟩ = some (.int .u64 a0_4) ∧ w'.cell? ⟨gb489, 5, none⟩ = some (.int .u64 a0_5)) ∧ (w'.heap[gb489]? = some (.cells #[.int .i64 a0_0, .int .i64 a0_1, .int .i64 a0_2, .int .u64 a0_3, .int .u64 a0_4, .int .u64 a0_5] 28 (0, 0))) ∧ (Below w.heap.size w w')) ?_ ?_
                rotate_left
                ·intro hJ5
                 refine join_ (σ := Nat) 9 #[true, true, true, true, true, false, false, true, true, true, true, false, false, false, false, false, true, false, false] (fun s_ => [(7, .pointer (some ⟨s_, 0, none⟩))]) (fun s_ w' => (w'.cell? ⟨gb489, 0, none⟩ = some (.int .i64 a0_0) ∧ w'.cell? ⟨gb489, 1, none⟩ = some (.int .i64 a0_1) ∧ w'.cell? ⟨gb489, 2, none⟩ = some (.int .i64 a0_2) ∧ w'.cell? ⟨gb489, 3, none⟩ = some (.int .u64 a0_3) ∧ w'.cell? ⟨gb489, 4, none⟩ = some (.int .u64 a0_4) ∧ w'.cell? ⟨gb489, 5, none⟩ = some (.int .u64 a0_5)) ∧ (w'.heap[gb489]? = some (.cells #[.int .i64 a0_0, .int .i64 a0_1, .int .i64 a0_2, .int .u64 a0_3, .int .u64 a0_4, .int .u64 a0_5] 28 (0, 0))) ∧ (w'.heap[s_]? = some (.cells #[.int .u64 0, .int .u64 0] 26 (0, 0))) ∧ (w.heap.size ≤ s_) ∧ (w.heap.size ≤ s_) ∧ (gb489 ≠ s_) ∧ (s_ ≠ gb489) ∧ (Below w.heap.size w w')) ?_ ?_
                 rotate_left
                 ·intro hJ16
                  refine two_ (i := 5) (j := 16) (Ni := some 38) (Nj := some 7) #[true, true, true, true, true, true, false, true, true, true, true, false, false, false, false, false, false, false, false] #[true, true, true, true, true, false, false, true, true, true, true, false, false, false, false, false, true, false, false] rfl rfl rfl rfl (two_of HT_.out (by kernel_rfl)) (by decide) (by decide) (fun K hK => ?_) (fun K hK => ?_)
                  ·skip
                   refine goes_ Try.func40 (by kernel_rfl) rfl #[.agg #[.int .i64 a0_0, .int .i64 a0_1, .int .i64 a0_2], .int .i64 a1] (by rfl) rfl rfl (by (try simp only [List.map_toArray, List.map_cons, List.map_nil]); first | done | rfl | (simp only [List.length_drop, List.length_take]; rfl)) ?_
                   with_reducible refine (spigotref37_tokens.calls a0_0 a0_1 a0_2 a1 t492 t493 _ A26.out).mono ?_
                   rintro e w69 ⟨rfl, hb⟩
                   refine ⟨_, rfl, ?_⟩
                   replace BK489 := bb_ BK489 hb
                   replace HB := bs_ w hb
                   (try clear hb)
                   (try clear hb2)
                   (try clear hk)
                   (try clear hi)
                   refine hK.out _ _ ⟨(blk_cell BK489.out 0).trans rfl, (blk_cell BK489.out 1).trans rfl, (blk_cell BK489.out 2).trans rfl, (blk_cell BK489.out 3).trans rfl, (blk_cell BK489.out 4).trans rfl, (blk_cell BK489.out 5).trans rfl⟩ (fun hHeld => ?_)
                   clear hK K
                   refine norm_ (a' := ?_) ?_ ?_
                   rotate_left
                   ·show Act.put _ (some 38) _ = _
                    simp only [Act.put, List.setIfInBounds_toArray, List.set_cons_zero, List.set_cons_succ, i64_w, i32_w]
                    rfl
                   exact norm_ (by first | (simp only [putAll, Act.put, List.setIfInBounds_toArray, List.set_cons_zero, List.set_cons_succ]; done) | (simp only [putAll, Act.put, List.setIfInBounds_toArray, List.set_cons_zero, List.set_cons_succ]; rfl)) (hJ5 () _ ⟨hHeld, (bq_ BK489), (by repeat (first | (with_reducible first | exact HB.out | apply below_alloc | apply pw_below_drewN | apply below_drew1 | refine below_set ?_ (Aside0.out (by assumption))) | exact HB.out))⟩)
                  ·skip
                   refine box_step ?hg (N := 7) ?hd (cs := #[.int .u64 0, .int .u64 0]) (t := 26) ?hr ?_; (case hd => rfl); (case hg => rfl); (case hr => first | (go_simp; done) | (go_simp; rfl))
                   intro gb501 hg w69 hbox hb
                   have BK501 := Aside0.mk (hbox)
                   have GW501 := bz_ w hg
                   have GE501 := GW501
                   have NB489_501 := bn_ BK489 hg
                   have NB501_489 := bm_ BK489 hg
                   replace BK489 := bb_ BK489 hb
                   replace HB := bs_ w hb
                   clear hb hbox hg
                   refine hK.out _ _ ⟨(blk_cell BK489.out 0).trans rfl, (blk_cell BK489.out 1).trans rfl, (blk_cell BK489.out 2).trans rfl, (blk_cell BK489.out 3).trans rfl, (blk_cell BK489.out 4).trans rfl, (blk_cell BK489.out 5).trans rfl⟩ (fun hHeld => ?_)
                   clear hK K
                   refine norm_ (a' := ?_) ?_ ?_
                   rotate_left
                   ·show Act.put _ (some 7) _ = _
                    simp only [Act.put, List.setIfInBounds_toArray, List.set_cons_zero, List.set_cons_succ, i64_w, i32_w]
                    rfl
                   exact norm_ (by first | (simp only [putAll, Act.put, List.setIfInBounds_toArray, List.set_cons_zero, List.set_cons_succ]; done) | (simp only [putAll, Act.put, List.setIfInBounds_toArray, List.set_cons_zero, List.set_cons_succ]; rfl)) (hJ16 (gb501) _ ⟨hHeld, (bq_ BK489), (bq_ BK501), GW501.out, GE501.out, NB489_501.out, NB501_489.out, (by repeat (first | (with_reducible first | exact HB.out | apply below_alloc | apply pw_below_drewN | apply below_drew1 | refine below_set ?_ (Aside0.out (by assumption))) | exact HB.out))⟩)
                 ·skip
                  rintro gb501 w70 ⟨hS_, h0_, h1_, h2_, h3_, h4_, h5_, h6_⟩
                  have BK501 : Aside0 (w70.heap[gb501]? = some (.cells #[.int .u64 0, .int .u64 0] 26 (0, 0))) := ⟨h1_⟩
                  have GW501 : Aside0 (w.heap.size ≤ gb501) := ⟨h2_⟩
                  have GE501 : Aside0 (w.heap.size ≤ gb501) := ⟨h3_⟩
                  have NB489_501 : Aside0 (gb489 ≠ gb501) := ⟨h4_⟩
                  have NB501_489 : Aside0 (gb501 ≠ gb489) := ⟨h5_⟩
                  replace BK489 : Aside0 (w70.heap[gb489]? = some (.cells #[.int .i64 a0_0, .int .i64 a0_1, .int .i64 a0_2, .int .u64 a0_3, .int .u64 a0_4, .int .u64 a0_5] 28 (0, 0))) := ⟨h0_⟩
                  replace HB : Aside0 (Below w.heap.size w w70) := ⟨h6_⟩
                  clear h0_ h1_ h2_ h3_ h4_ h5_ h6_
                  have hHeld : w70.cell? ⟨gb489, 0, none⟩ = some (.int .i64 a0_0) ∧ w70.cell? ⟨gb489, 1, none⟩ = some (.int .i64 a0_1) ∧ w70.cell? ⟨gb489, 2, none⟩ = some (.int .i64 a0_2) ∧ w70.cell? ⟨gb489, 3, none⟩ = some (.int .u64 a0_3) ∧ w70.cell? ⟨gb489, 4, none⟩ = some (.int .u64 a0_4) ∧ w70.cell? ⟨gb489, 5, none⟩ = some (.int .u64 a0_5) := hS_
                  refine norm_ (a' := ?_) ?_ ?_
                  rotate_left
                  ·simp only [putAll, Act.put, List.setIfInBounds_toArray, List.set_cons_zero, List.set_cons_succ]
                   rfl
                  refine one_ (i := 5) (N := some 38) #[true, true, true, true, true, true, false, true, true, true, true, false, false, false, false, false, true, false, false] rfl rfl (one_of HT_.out (by kernel_rfl)) (by decide) (fun K hK => ?_)
                  refine goes_ Try.func40 (by kernel_rfl) rfl #[.agg #[.int .i64 a0_0, .int .i64 a0_1, .int .i64 a0_2], .int .i64 a1] (by rfl) rfl rfl (by (try simp only [List.map_toArray, List.map_cons, List.map_nil]); first | done | rfl | (simp only [List.length_drop, List.length_take]; rfl)) ?_
                  with_reducible refine (spigotref37_tokens.calls a0_0 a0_1 a0_2 a1 t492 t493 _ A26.out).mono ?_
                  rintro e w71 ⟨rfl, hb⟩
                  refine ⟨_, rfl, ?_⟩
                  replace BK489 := bb_ BK489 hb
                  replace BK501 := bb_ BK501 hb
                  replace HB := bs_ w hb
                  (try clear hb)
                  (try clear hb2)
                  (try clear hk)
                  (try clear hi)
                  refine hK.out _ _ ⟨(blk_cell BK489.out 0).trans rfl, (blk_cell BK489.out 1).trans rfl, (blk_cell BK489.out 2).trans rfl, (blk_cell BK489.out 3).trans rfl, (blk_cell BK489.out 4).trans rfl, (blk_cell BK489.out 5).trans rfl⟩ (fun hHeld => ?_)
                  clear hK K
                  refine norm_ (a' := ?_) ?_ ?_
                  rotate_left
                  ·show Act.put _ (some 38) _ = _
                   simp only [Act.put, List.setIfInBounds_toArray, List.set_cons_zero, List.set_cons_succ, i64_w, i32_w]
                   rfl
                  exact norm_ (by first | (simp only [putAll, Act.put, List.setIfInBounds_toArray, List.set_cons_zero, List.set_cons_succ]; done) | (simp only [putAll, Act.put, List.setIfInBounds_toArray, List.set_cons_zero, List.set_cons_succ]; rfl)) (hJ5_16 (gb501) _ ⟨hHeld, (bq_ BK489), (bq_ BK501), GW501.out, GE501.out, NB489_501.out, NB501_489.out, (by repeat (first | (with_reducible first | exact HB.out | apply below_alloc | apply pw_below_drewN | apply below_drew1 | refine below_set ?_ (Aside0.out (by assumption))) | exact HB.out))⟩)
                ·skip
                 rintro _ w70 ⟨hS_, h0_, h1_⟩
                 replace BK489 : Aside0 (w70.heap[gb489]? = some (.cells #[.int .i64 a0_0, .int .i64 a0_1, .int .i64 a0_2, .int .u64 a0_3, .int .u64 a0_4, .int .u64 a0_5] 28 (0, 0))) := ⟨h0_⟩
                 replace HB : Aside0 (Below w.heap.size w w70) := ⟨h1_⟩
                 clear h0_ h1_
                 have hHeld : w70.cell? ⟨gb489, 0, none⟩ = some (.int .i64 a0_0) ∧ w70.cell? ⟨gb489, 1, none⟩ = some (.int .i64 a0_1) ∧ w70.cell? ⟨gb489, 2, none⟩ = some (.int .i64 a0_2) ∧ w70.cell? ⟨gb489, 3, none⟩ = some (.int .u64 a0_3) ∧ w70.cell? ⟨gb489, 4, none⟩ = some (.int .u64 a0_4) ∧ w70.cell? ⟨gb489, 5, none⟩ = some (.int .u64 a0_5) := hS_
                 refine norm_ (a' := ?_) ?_ ?_
                 rotate_left
                 ·simp only [putAll, Act.put, List.setIfInBounds_toArray, List.set_cons_zero, List.set_cons_succ]
                  rfl
                 refine two_ (i := 6) (j := 16) (Ni := some 39) (Nj := some 7) #[true, true, true, true, true, true, true, true, true, true, true, false, false, false, false, false, false, false, false] #[true, true, true, true, true, true, false, true, true, true, true, false, false, false, false, false, true, false, false] rfl rfl rfl rfl (two_of HT_.out (by kernel_rfl)) (by decide) (by decide) (fun K hK => ?_) (fun K hK => ?_)
                 ·skip
                  refine goes_ Try.func39 (by kernel_rfl) rfl #[.agg #[.int .u64 a0_3, .int .u64 a0_4], .agg #[.int .u64 t492, .int .u64 t493]] (by rfl) rfl rfl (by (try simp only [List.map_toArray, List.map_cons, List.map_nil]); first | done | rfl | (simp only [List.length_drop, List.length_take]; rfl)) ?_
                  with_reducible refine (spigotref37_sum.calls a0_3 a0_4 t492 t493 t494 t495 _ A27.out).mono ?_
                  rintro e w71 ⟨rfl, hb⟩
                  refine ⟨_, rfl, ?_⟩
                  replace BK489 := bb_ BK489 hb
                  replace HB := bs_ w hb
                  (try clear hb)
                  (try clear hb2)
                  (try clear hk)
                  (try clear hi)
                  refine hK.out _ _ ⟨(blk_cell BK489.out 0).trans rfl, (blk_cell BK489.out 1).trans rfl, (blk_cell BK489.out 2).trans rfl, (blk_cell BK489.out 3).trans rfl, (blk_cell BK489.out 4).trans rfl, (blk_cell BK489.out 5).trans rfl⟩ (fun hHeld => ?_)
                  clear hK K
                  refine norm_ (a' := ?_) ?_ ?_
                  rotate_left
                  ·show Act.put _ (some 39) _ = _
                   simp only [Act.put, List.setIfInBounds_toArray, List.set_cons_zero, List.set_cons_succ, i64_w, i32_w]
                   rfl
                  exact norm_ (by first | (simp only [putAll, Act.put, List.setIfInBounds_toArray, List.set_cons_zero, List.set_cons_succ]; done) | (simp only [putAll, Act.put, List.setIfInBounds_toArray, List.set_cons_zero, List.set_cons_succ]; rfl)) (hJ5_6 () _ ⟨hHeld, (bq_ BK489), (by repeat (first | (with_reducible first | exact HB.out | apply below_alloc | apply pw_below_drewN | apply below_drew1 | refine below_set ?_ (Aside0.out (by assumption))) | exact HB.out))⟩)
                 ·skip
                  refine box_step ?hg (N := 7) ?hd (cs := #[.int .u64 0, .int .u64 0]) (t := 26) ?hr ?_; (case hd => rfl); (case hg => rfl); (case hr => first | (go_simp; done) | (go_simp; rfl))
                  intro gb501 hg w71 hbox hb
                  have BK501 := Aside0.mk (hbox)
                  have GW501 := bz_ w hg
                  have GE501 := GW501
                  have NB489_501 := bn_ BK489 hg
                  have NB501_489 := bm_ BK489 hg
                  replace BK489 := bb_ BK489 hb
                  replace HB := bs_ w hb
                  clear hb hbox hg
                  refine hK.out _ _ ⟨(blk_cell BK489.out 0).trans rfl, (blk_cell BK489.out 1).trans rfl, (blk_cell BK489.out 2).trans rfl, (blk_cell BK489.out 3).trans rfl, (blk_cell BK489.out 4).trans rfl, (blk_cell BK489.out 5).trans rfl⟩ (fun hHeld => ?_)
                  clear hK K
                  refine norm_ (a' := ?_) ?_ ?_
                  rotate_left
                  ·show Act.put _ (some 7) _ = _
                   simp only [Act.put, List.setIfInBounds_toArray, List.set_cons_zero, List.set_cons_succ, i64_w, i32_w]
                   rfl
                  exact norm_ (by first | (simp only [putAll, Act.put, List.setIfInBounds_toArray, List.set_cons_zero, List.set_cons_succ]; done) | (simp only [putAll, Act.put, List.setIfInBounds_toArray, List.set_cons_zero, List.set_cons_succ]; rfl)) (hJ5_16 (gb501) _ ⟨hHeld, (bq_ BK489), (bq_ BK501), GW501.out, GE501.out, NB489_501.out, NB501_489.out, (by repeat (first | (with_reducible first | exact HB.out | apply below_alloc | apply pw_below_drewN | apply below_drew1 | refine below_set ?_ (Aside0.out (by assumption))) | exact HB.out))⟩)
               ·skip
                rintro gb501 w71 ⟨hS_, h0_, h1_, h2_, h3_, h4_, h5_, h6_⟩
                have BK501 : Aside0 (w71.heap[gb501]? = some (.cells #[.int .u64 0, .int .u64 0] 26 (0, 0))) := ⟨h1_⟩
                have GW501 : Aside0 (w.heap.size ≤ gb501) := ⟨h2_⟩
                have GE501 : Aside0 (w.heap.size ≤ gb501) := ⟨h3_⟩
                have NB489_501 : Aside0 (gb489 ≠ gb501) := ⟨h4_⟩
                have NB501_489 : Aside0 (gb501 ≠ gb489) := ⟨h5_⟩
                replace BK489 : Aside0 (w71.heap[gb489]? = some (.cells #[.int .i64 a0_0, .int .i64 a0_1, .int .i64 a0_2, .int .u64 a0_3, .int .u64 a0_4, .int .u64 a0_5] 28 (0, 0))) := ⟨h0_⟩
                replace HB : Aside0 (Below w.heap.size w w71) := ⟨h6_⟩
                clear h0_ h1_ h2_ h3_ h4_ h5_ h6_
                have hHeld : w71.cell? ⟨gb489, 0, none⟩ = some (.int .i64 a0_0) ∧ w71.cell? ⟨gb489, 1, none⟩ = some (.int .i64 a0_1) ∧ w71.cell? ⟨gb489, 2, none⟩ = some (.int .i64 a0_2) ∧ w71.cell? ⟨gb489, 3, none⟩ = some (.int .u64 a0_3) ∧ w71.cell? ⟨gb489, 4, none⟩ = some (.int .u64 a0_4) ∧ w71.cell? ⟨gb489, 5, none⟩ = some (.int .u64 a0_5) := hS_
                refine norm_ (a' := ?_) ?_ ?_
                rotate_left
                ·simp only [putAll, Act.put, List.setIfInBounds_toArray, List.set_cons_zero, List.set_cons_succ]
                 rfl
                refine one_ (i := 6) (N := some 39) #[true, true, true, true, true, true, true, true, true, true, true, false, false, false, false, false, true, false, false] rfl rfl (one_of HT_.out (by kernel_rfl)) (by decide) (fun K hK => ?_)
                refine goes_ Try.func39 (by kernel_rfl) rfl #[.agg #[.int .u64 a0_3, .int .u64 a0_4], .agg #[.int .u64 t492, .int .u64 t493]] (by rfl) rfl rfl (by (try simp only [List.map_toArray, List.map_cons, List.map_nil]); first | done | rfl | (simp only [List.length_drop, List.length_take]; rfl)) ?_
                with_reducible refine (spigotref37_sum.calls a0_3 a0_4 t492 t493 t494 t495 _ A27.out).mono ?_
                rintro e w72 ⟨rfl, hb⟩
                refine ⟨_, rfl, ?_⟩
                replace BK489 := bb_ BK489 hb
                replace BK501 := bb_ BK501 hb
                replace HB := bs_ w hb
                (try clear hb)
                (try clear hb2)
                (try clear hk)
                (try clear hi)
                refine hK.out _ _ ⟨(blk_cell BK489.out 0).trans rfl, (blk_cell BK489.out 1).trans rfl, (blk_cell BK489.out 2).trans rfl, (blk_cell BK489.out 3).trans rfl, (blk_cell BK489.out 4).trans rfl, (blk_cell BK489.out 5).trans rfl⟩ (fun hHeld => ?_)
                clear hK K
                refine norm_ (a' := ?_) ?_ ?_
                rotate_left
                ·show Act.put _ (some 39) _ = _
                 simp only [Act.put, List.setIfInBounds_toArray, List.set_cons_zero, List.set_cons_succ, i64_w, i32_w]
                 rfl
                exact norm_ (by first | (simp only [putAll, Act.put, List.setIfInBounds_toArray, List.set_cons_zero, List.set_cons_succ]; done) | (simp only [putAll, Act.put, List.setIfInBounds_toArray, List.set_cons_zero, List.set_cons_succ]; rfl)) (hJ5_6_16 (gb501) _ ⟨hHeld, (bq_ BK489), (bq_ BK501), GW501.out, GE501.out, NB489_501.out, NB501_489.out, (by repeat (first | (with_reducible first | exact HB.out | apply below_alloc | apply pw_below_drewN | apply below_drew1 | refine below_set ?_ (Aside0.out (by assumption))) | exact HB.out))⟩)
              ·skip
               rintro _ w71 ⟨hS_, h0_, h1_⟩
               replace BK489 : Aside0 (w71.heap[gb489]? = some (.cells #[.int .i64 a0_0, .int .i64 a0_1, .int .i64 a0_2, .int .u64 a0_3, .int .u64 a0_4, .int .u64 a0_5] 28 (0, 0))) := ⟨h0_⟩
               replace HB : Aside0 (Below w.heap.size w w71) := ⟨h1_⟩
               clear h0_ h1_
               have hHeld : w71.cell? ⟨gb489, 0, none⟩ = some (.int .i64 a0_0) ∧ w71.cell? ⟨gb489, 1, none⟩ = some (.int .i64 a0_1) ∧ w71.cell? ⟨gb489, 2, none⟩ = some (.int .i64 a0_2) ∧ w71.cell? ⟨gb489, 3, none⟩ = some (.int .u64 a0_3) ∧ w71.cell? ⟨gb489, 4, none⟩ = some (.int .u64 a0_4) ∧ w71.cell? ⟨gb489, 5, none⟩ = some (.int .u64 a0_5) := hS_
               refine norm_ (a' := ?_) ?_ ?_
               rotate_left
               ·simp only [putAll, Act.put, List.setIfInBounds_toArray, List.set_cons_zero, List.set_cons_succ]
                rfl
               refine two_ (i := 11) (j := 16) (Ni := some 44) (Nj := some 7) #[true, true, true, true, true, true, true, true, true, true, true, true, false, false, false, false, false, false, false] #[true, true, true, true, true, true, true, true, true, true, true, false, false, false, false, false, true, false, false] rfl rfl rfl rfl (two_of HT_.out (by kernel_rfl)) (by decide) (by decide) (fun K hK => ?_) (fun K hK => ?_)
               ·skip
                refine goes_ Try.func42 (by kernel_rfl) rfl #[.agg #[.int .i64 a0_0, .int .i64 a0_1, .int .i64 a0_2], .int .u64 a0_5] (by rfl) rfl rfl (by (try simp only [List.map_toArray, List.map_cons, List.map_nil]); first | done | rfl | (simp only [List.length_drop, List.length_take]; rfl)) ?_
                with_reducible refine (spigotref37_end.calls a0_0 a0_1 a0_2 a0_5 t496 t497 _ A28.out).mono ?_
                rintro e w72 ⟨rfl, hb⟩
                refine ⟨_, rfl, ?_⟩
                replace BK489 := bb_ BK489 hb
                replace HB := bs_ w hb
                (try clear hb)
                (try clear hb2)
                (try clear hk)
                (try clear hi)
                refine hK.out _ _ ⟨(blk_cell BK489.out 0).trans rfl, (blk_cell BK489.out 1).trans rfl, (blk_cell BK489.out 2).trans rfl, (blk_cell BK489.out 3).trans rfl, (blk_cell BK489.out 4).trans rfl, (blk_cell BK489.out 5).trans rfl⟩ (fun hHeld => ?_)
                clear hK K
                refine norm_ (a' := ?_) ?_ ?_
                rotate_left
                ·show Act.put _ (some 44) _ = _
                 simp only [Act.put, List.setIfInBounds_toArray, List.set_cons_zero, List.set_cons_succ, i64_w, i32_w]
                 rfl
                exact norm_ (by first | (simp only [putAll, Act.put, List.setIfInBounds_toArray, List.set_cons_zero, List.set_cons_succ]; done) | (simp only [putAll, Act.put, List.setIfInBounds_toArray, List.set_cons_zero, List.set_cons_succ]; rfl)) (hJ5_6_11 () _ ⟨hHeld, (bq_ BK489), (by repeat (first | (with_reducible first | exact HB.out | apply below_alloc | apply pw_below_drewN | apply below_drew1 | refine below_set ?_ (Aside0.out (by assumption))) | exact HB.out))⟩)
               ·skip
                refine box_step ?hg (N := 7) ?hd (cs := #[.int .u64 0, .int .u64 0]) (t := 26) ?hr ?_; (case hd => rfl); (case hg => rfl); (case hr => first | (go_simp; done) | (go_simp; rfl))
                intro gb501 hg w72 hbox hb
                have BK501 := Aside0.mk (hbox)
                have GW501 := bz_ w hg
                have GE501 := GW501
                have NB489_501 := bn_ BK489 hg
                have NB501_489 := bm_ BK489 hg
                replace BK489 := bb_ BK489 hb
                replace HB := bs_ w hb
                clear hb hbox hg
                refine hK.out _ _ ⟨(blk_cell BK489.out 0).trans rfl, (blk_cell BK489.out 1).trans rfl, (blk_cell BK489.out 2).trans rfl, (blk_cell BK489.out 3).trans rfl, (blk_cell BK489.out 4).trans rfl, (blk_cell BK489.out 5).trans rfl⟩ (fun hHeld => ?_)
                clear hK K
                refine norm_ (a' := ?_) ?_ ?_
                rotate_left
                ·show Act.put _ (some 7) _ = _
                 simp only [Act.put, List.setIfInBounds_toArray, List.set_cons_zero, List.set_cons_succ, i64_w, i32_w]
                 rfl
                exact norm_ (by first | (simp only [putAll, Act.put, List.setIfInBounds_toArray, List.set_cons_zero, List.set_cons_succ]; done) | (simp only [putAll, Act.put, List.setIfInBounds_toArray, List.set_cons_zero, List.set_cons_succ]; rfl)) (hJ5_6_16 (gb501) _ ⟨hHeld, (bq_ BK489), (bq_ BK501), GW501.out, GE501.out, NB489_501.out, NB501_489.out, (by repeat (first | (with_reducible first | exact HB.out | apply below_alloc | apply pw_below_drewN | apply below_drew1 | refine below_set ?_ (Aside0.out (by assumption))) | exact HB.out))⟩)
             ·skip
              rintro gb501 w72 ⟨hS_, h0_, h1_, h2_, h3_, h4_, h5_, h6_⟩
              have BK501 : Aside0 (w72.heap[gb501]? = some (.cells #[.int .u64 0, .int .u64 0] 26 (0, 0))) := ⟨h1_⟩
              have GW501 : Aside0 (w.heap.size ≤ gb501) := ⟨h2_⟩
              have GE501 : Aside0 (w.heap.size ≤ gb501) := ⟨h3_⟩
              have NB489_501 : Aside0 (gb489 ≠ gb501) := ⟨h4_⟩
              have NB501_489 : Aside0 (gb501 ≠ gb489) := ⟨h5_⟩
              replace BK489 : Aside0 (w72.heap[gb489]? = some (.cells #[.int .i64 a0_0, .int .i64 a0_1, .int .i64 a0_2, .int .u64 a0_3, .int .u64 a0_4, .int .u64 a0_5] 28 (0, 0))) := ⟨h0_⟩
              replace HB : Aside0 (Below w.heap.size w w72) := ⟨h6_⟩
              clear h0_ h1_ h2_ h3_ h4_ h5_ h6_
              have hHeld : w72.cell? ⟨gb489, 0, none⟩ = some (.int .i64 a0_0) ∧ w72.cell? ⟨gb489, 1, none⟩ = some (.int .i64 a0_1) ∧ w72.cell? ⟨gb489, 2, none⟩ = some (.int .i64 a0_2) ∧ w72.cell? ⟨gb489, 3, none⟩ = some (.int .u64 a0_3) ∧ w72.cell? ⟨gb489, 4, none⟩ = some (.int .u64 a0_4) ∧ w72.cell? ⟨gb489, 5, none⟩ = some (.int .u64 a0_5) := hS_
              refine norm_ (a' := ?_) ?_ ?_
              rotate_left
              ·simp only [putAll, Act.put, List.setIfInBounds_toArray, List.set_cons_zero, List.set_cons_succ]
               rfl
              refine one_ (i := 11) (N := some 44) #[true, true, true, true, true, true, true, true, true, true, true, true, false, false, false, false, true, false, false] rfl rfl (one_of HT_.out (by kernel_rfl)) (by decide) (fun K hK => ?_)
              refine goes_ Try.func42 (by kernel_rfl) rfl #[.agg #[.int .i64 a0_0, .int .i64 a0_1, .int .i64 a0_2], .int .u64 a0_5] (by rfl) rfl rfl (by (try simp only [List.map_toArray, List.map_cons, List.map_nil]); first | done | rfl | (simp only [List.length_drop, List.length_take]; rfl)) ?_
              with_reducible refine (spigotref37_end.calls a0_0 a0_1 a0_2 a0_5 t496 t497 _ A28.out).mono ?_
              rintro e w73 ⟨rfl, hb⟩
              refine ⟨_, rfl, ?_⟩
              replace BK489 := bb_ BK489 hb
              replace BK501 := bb_ BK501 hb
              replace HB := bs_ w hb
              (try clear hb)
              (try clear hb2)
              (try clear hk)
              (try clear hi)
              refine hK.out _ _ ⟨(blk_cell BK489.out 0).trans rfl, (blk_cell BK489.out 1).trans rfl, (blk_cell BK489.out 2).trans rfl, (blk_cell BK489.out 3).trans rfl, (blk_cell BK489.out 4).trans rfl, (blk_cell BK489.out 5).trans rfl⟩ (fun hHeld => ?_)
              clear hK K
              refine norm_ (a' := ?_) ?_ ?_
              rotate_left
              ·show Act.put _ (some 44) _ = _
               simp only [Act.put, List.setIfInBounds_toArray, List.set_cons_zero, List.set_cons_succ, i64_w, i32_w]
               rfl
              exact norm_ (by first | (simp only [putAll, Act.put, List.setIfInBounds_toArray, List.set_cons_zero, List.set_cons_succ]; done) | (simp only [putAll, Act.put, List.setIfInBounds_toArray, List.set_cons_zero, List.set_cons_succ]; rfl)) (hJ5_6_11_16 (gb501) _ ⟨hHeld, (bq_ BK489), (bq_ BK501), GW501.out, GE501.out, NB489_501.out, NB501_489.out, (by repeat (first | (with_reducible first | exact HB.out | apply below_alloc | apply pw_below_drewN | apply below_drew1 | refine below_set ?_ (Aside0.out (by assumption))) | exact HB.out))⟩)
            ·skip
             rintro _ w72 ⟨hS_, h0_, h1_⟩
             replace BK489 : Aside0 (w72.heap[gb489]? = some (.cells #[.int .i64 a0_0, .int .i64 a0_1, .int .i64 a0_2, .int .u64 a0_3, .int .u64 a0_4, .int .u64 a0_5] 28 (0, 0))) := ⟨h0_⟩
             replace HB : Aside0 (Below w.heap.size w w72) := ⟨h1_⟩
             clear h0_ h1_
             have hHeld : w72.cell? ⟨gb489, 0, none⟩ = some (.int .i64 a0_0) ∧ w72.cell? ⟨gb489, 1, none⟩ = some (.int .i64 a0_1) ∧ w72.cell? ⟨gb489, 2, none⟩ = some (.int .i64 a0_2) ∧ w72.cell? ⟨gb489, 3, none⟩ = some (.int .u64 a0_3) ∧ w72.cell? ⟨gb489, 4, none⟩ = some (.int .u64 a0_4) ∧ w72.cell? ⟨gb489, 5, none⟩ = some (.int .u64 a0_5) := hS_
             refine norm_ (a' := ?_) ?_ ?_
             rotate_left
             ·simp only [putAll, Act.put, List.setIfInBounds_toArray, List.set_cons_zero, List.set_cons_succ]
              rfl
             refine two_ (i := 12) (j := 16) (Ni := some 45) (Nj := some 7) #[true, true, true, true, true, true, true, true, true, true, true, true, true, false, false, false, false, false, false] #[true, true, true, true, true, true, true, true, true, true, true, true, false, false, false, false, true, false, false] rfl rfl rfl rfl (two_of HT_.out (by kernel_rfl)) (by decide) (by decide) (fun K hK => ?_) (fun K hK => ?_)
             ·skip
              refine goes_ Try.func41 (by kernel_rfl) rfl #[.agg #[.int .u64 t494, .int .u64 t495], .agg #[.int .u64 t496, .int .u64 t497]] (by rfl) rfl rfl (by (try simp only [List.map_toArray, List.map_cons, List.map_nil]); first | done | rfl | (simp only [List.length_drop, List.length_take]; rfl)) ?_
              with_reducible refine (spigotref01_Sub.calls kj15 t494 t495 t496 t497 t498 t499 t500 _ A29.out).mono ?_
              rintro e w73 ⟨rfl, hb⟩
              refine ⟨_, rfl, ?_⟩
              replace BK489 := bb_ BK489 hb
              replace HB := bs_ w hb
              (try clear hb)
              (try clear hb2)
              (try clear hk)
              (try clear hi)
              refine hK.out _ _ ⟨(blk_cell BK489.out 0).trans rfl, (blk_cell BK489.out 1).trans rfl, (blk_cell BK489.out 2).trans rfl, (blk_cell BK489.out 3).trans rfl, (blk_cell BK489.out 4).trans rfl, (blk_cell BK489.out 5).trans rfl⟩ (fun hHeld => ?_)
              clear hK K
              refine norm_ (a' := ?_) ?_ ?_
              rotate_left
              ·show Act.put _ (some 45) _ = _
               simp only [Act.put, List.setIfInBounds_toArray, List.set_cons_zero, List.set_cons_succ, i64_w, i32_w]
               rfl
              refine pure_ (i := 13) (N := some 32) (v := ?_) (a' := ?_) #[true, true, true, true, true, true, true, true, true, true, true, true, true, true, false, false, false, false, false] rfl rfl (any_of HT_.out (by kernel_rfl)) (fun _ _ _ h => h) (Or.inl ⟨by rfl, ?_⟩) ?_ ?_
              rotate_left
              ·intro w'
               go_simp
               with_reducible rfl
              rotate_left
              ·simp only [Act.put, List.setIfInBounds_toArray, List.set_cons_zero, List.set_cons_succ, i64_w, i32_w]
               rfl
              refine pure_ (i := 14) (N := some 46) (v := ?_) (a' := ?_) #[true, true, true, true, true, true, true, true, true, true, true, true, true, true, true, false, false, false, false] rfl rfl (any_of HT_.out (by kernel_rfl)) (fun _ _ _ h => h) (Or.inl ⟨by rfl, ?_⟩) ?_ ?_
              rotate_left
              ·intro w'
               go_simp
               with_reducible rfl
              rotate_left
              ·simp only [Act.put, List.setIfInBounds_toArray, List.set_cons_zero, List.set_cons_succ, i64_w, i32_w]
               rfl
              refine pure_ (i := 15) (N := some 47) (v := ?_) (a' := ?_) #[true, true, true, true, true, true, true, true, true, true, true, true, true, true, true, true, false, false, false] rfl rfl (any_of HT_.out (by kernel_rfl)) (fun _ _ _ h => h) (Or.inl ⟨by rfl, ?_⟩) ?_ ?_
              rotate_left
              ·intro w'
               go_simp
               with_reducible rfl
              rotate_left
              ·simp only [Act.put, List.setIfInBounds_toArray, List.set_cons_zero, List.set_cons_succ, i64_w, i32_w]
               rfl
              exact norm_ (by first | (simp only [putAll, Act.put, List.setIfInBounds_toArray, List.set_cons_zero, List.set_cons_succ]; done) | (simp only [putAll, Act.put, List.setIfInBounds_toArray, List.set_cons_zero, List.set_cons_succ]; rfl)) (hJ5_6_11_12 () _ ⟨hHeld, (bq_ BK489), (by repeat (first | (with_reducible first | exact HB.out | apply below_alloc | apply pw_below_drewN | apply below_drew1 | refine below_set ?_ (Aside0.out (by assumption))) | exact HB.out))⟩)
             ·skip
              refine box_step ?hg (N := 7) ?hd (cs := #[.int .u64 0, .int .u64 0]) (t := 26) ?hr ?_; (case hd => rfl); (case hg => rfl); (case hr => first | (go_simp; done) | (go_simp; rfl))
              intro gb501 hg w73 hbox hb
              have BK501 := Aside0.mk (hbox)
              have GW501 := bz_ w hg
              have GE501 := GW501
              have NB489_501 := bn_ BK489 hg
              have NB501_489 := bm_ BK489 hg
              replace BK489 := bb_ BK489 hb
              replace HB := bs_ w hb
              clear hb hbox hg
              refine hK.out _ _ ⟨(blk_cell BK489.out 0).trans rfl, (blk_cell BK489.out 1).trans rfl, (blk_cell BK489.out 2).trans rfl, (blk_cell BK489.out 3).trans rfl, (blk_cell BK489.out 4).trans rfl, (blk_cell BK489.out 5).trans rfl⟩ (fun hHeld => ?_)
              clear hK K
              refine norm_ (a' := ?_) ?_ ?_
              rotate_left
              ·show Act.put _ (some 7) _ = _
               simp only [Act.put, List.setIfInBounds_toArray, List.set_cons_zero, List.set_cons_succ, i64_w, i32_w]
               rfl
              exact norm_ (by first | (simp only [putAll, Act.put, List.setIfInBounds_toArray, List.set_cons_zero, List.set_cons_succ]; done) | (simp only [putAll, Act.put, List.setIfInBounds_toArray, List.set_cons_zero, List.set_cons_succ]; rfl)) (hJ5_6_11_16 (gb501) _ ⟨hHeld, (bq_ BK489), (bq_ BK501), GW501.out, GE501.out, NB489_501.out, NB501_489.out, (by repeat (first | (with_reducible first | exact HB.out | apply below_alloc | apply pw_below_drewN | apply below_drew1 | refine below_set ?_ (Aside0.out (by assumption))) | exact HB.out))⟩)
           ·skip
            rintro gb501 w73 ⟨hS_, h0_, h1_, h2_, h3_, h4_, h5_, h6_⟩
            have BK501 : Aside0 (w73.heap[gb501]? = some (.cells #[.int .u64 0, .int .u64 0] 26 (0, 0))) := ⟨h1_⟩
            have GW501 : Aside0 (w.heap.size ≤ gb501) := ⟨h2_⟩
            have GE501 : Aside0 (w.heap.size ≤ gb501) := ⟨h3_⟩
            have NB489_501 : Aside0 (gb489 ≠ gb501) := ⟨h4_⟩
            have NB501_489 : Aside0 (gb501 ≠ gb489) := ⟨h5_⟩
            replace BK489 : Aside0 (w73.heap[gb489]? = some (.cells #[.int .i64 a0_0, .int .i64 a0_1, .int .i64 a0_2, .int .u64 a0_3, .int .u64 a0_4, .int .u64 a0_5] 28 (0, 0))) := ⟨h0_⟩
            replace HB : Aside0 (Below w.heap.size w w73) := ⟨h6_⟩
            clear h0_ h1_ h2_ h3_ h4_ h5_ h6_
            have hHeld : w73.cell? ⟨gb489, 0, none⟩ = some (.int .i64 a0_0) ∧ w73.cell? ⟨gb489, 1, none⟩ = some (.int .i64 a0_1) ∧ w73.cell? ⟨gb489, 2, none⟩ = some (.int .i64 a0_2) ∧ w73.cell? ⟨gb489, 3, none⟩ = some (.int .u64 a0_3) ∧ w73.cell? ⟨gb489, 4, none⟩ = some (.int .u64 a0_4) ∧ w73.cell? ⟨gb489, 5, none⟩ = some (.int .u64 a0_5) := hS_
            refine norm_ (a' := ?_) ?_ ?_
            rotate_left
            ·simp only [putAll, Act.put, List.setIfInBounds_toArray, List.set_cons_zero, List.set_cons_succ]
             rfl
            refine one_ (i := 12) (N := some 45) #[true, true, true, true, true, true, true, true, true, true, true, true, true, false, false, false, true, false, false] rfl rfl (one_of HT_.out (by kernel_rfl)) (by decide) (fun K hK => ?_)
            refine goes_ Try.func41 (by kernel_rfl) rfl #[.agg #[.int .u64 t494, .int .u64 t495], .agg #[.int .u64 t496, .int .u64 t497]] (by rfl) rfl rfl (by (try simp only [List.map_toArray, List.map_cons, List.map_nil]); first | done | rfl | (simp only [List.length_drop, List.length_take]; rfl)) ?_
            with_reducible refine (spigotref01_Sub.calls kj15 t494 t495 t496 t497 t498 t499 t500 _ A29.out).mono ?_
            rintro e w74 ⟨rfl, hb⟩
            refine ⟨_, rfl, ?_⟩
            replace BK489 := bb_ BK489 hb
            replace BK501 := bb_ BK501 hb
            replace HB := bs_ w hb
            (try clear hb)
            (try clear hb2)
            (try clear hk)
            (try clear hi)
            refine hK.out _ _ ⟨(blk_cell BK489.out 0).trans rfl, (blk_cell BK489.out 1).trans rfl, (blk_cell BK489.out 2).trans rfl, (blk_cell BK489.out 3).trans rfl, (blk_cell BK489.out 4).trans rfl, (blk_cell BK489.out 5).trans rfl⟩ (fun hHeld => ?_)
            clear hK K
            refine norm_ (a' := ?_) ?_ ?_
            rotate_left
            ·show Act.put _ (some 45) _ = _
             simp only [Act.put, List.setIfInBounds_toArray, List.set_cons_zero, List.set_cons_succ, i64_w, i32_w]
             rfl
            refine pure_ (i := 13) (N := some 32) (v := ?_) (a' := ?_) #[true, true, true, true, true, true, true, true, true, true, true, true, true, true, false, false, true, false, false] rfl rfl (any_of HT_.out (by kernel_rfl)) (fun _ _ _ h => h) (Or.inl ⟨by rfl, ?_⟩) ?_ ?_
            rotate_left
            ·intro w'
             go_simp
             with_reducible rfl
            rotate_left
            ·simp only [Act.put, List.setIfInBounds_toArray, List.set_cons_zero, List.set_cons_succ, i64_w, i32_w]
             rfl
            refine pure_ (i := 14) (N := some 46) (v := ?_) (a' := ?_) #[true, true, true, true, true, true, true, true, true, true, true, true, true, true, true, false, true, false, false] rfl rfl (any_of HT_.out (by kernel_rfl)) (fun _ _ _ h => h) (Or.inl ⟨by rfl, ?_⟩) ?_ ?_
            rotate_left
            ·intro w'
             go_simp
             with_reducible rfl
            rotate_left
            ·simp only [Act.put, List.setIfInBounds_toArray, List.set_cons_zero, List.set_cons_succ, i64_w, i32_w]
             rfl
            refine pure_ (i := 15) (N := some 47) (v := ?_) (a' := ?_) #[true, true, true, true, true, true, true, true, true, true, true, true, true, true, true, true, true, false, false] rfl rfl (any_of HT_.out (by kernel_rfl)) (fun _ _ _ h => h) (Or.inl ⟨by rfl, ?_⟩) ?_ ?_
            rotate_left
            ·intro w'
             go_simp
             with_reducible rfl
            rotate_left
            ·simp only [Act.put, List.setIfInBounds_toArray, List.set_cons_zero, List.set_cons_succ, i64_w, i32_w]
             rfl
            exact norm_ (by first | (simp only [putAll, Act.put, List.setIfInBounds_toArray, List.set_cons_zero, List.set_cons_succ]; done) | (simp only [putAll, Act.put, List.setIfInBounds_toArray, List.set_cons_zero, List.set_cons_succ]; rfl)) (hJ5_6_11_12_16 (gb501) _ ⟨hHeld, (bq_ BK489), (bq_ BK501), GW501.out, GE501.out, NB489_501.out, NB501_489.out, (by repeat (first | (with_reducible first | exact HB.out | apply below_alloc | apply pw_below_drewN | apply below_drew1 | refine below_set ?_ (Aside0.out (by assumption))) | exact HB.out))⟩)
          ·skip
           rintro _ w73 ⟨hS_, h0_, h1_⟩
           replace BK489 : Aside0 (w73.heap[gb489]? = some (.cells #[.int .i64 a0_0, .int .i64 a0_1, .int .i64 a0_2, .int .u64 a0_3, .int .u64 a0_4, .int .u64 a0_5] 28 (0, 0))) := ⟨h0_⟩
           replace HB : Aside0 (Below w.heap.size w w73) := ⟨h1_⟩
           clear h0_ h1_
           have hHeld : w73.cell? ⟨gb489, 0, none⟩ = some (.int .i64 a0_0) ∧ w73.cell? ⟨gb489, 1, none⟩ = some (.int .i64 a0_1) ∧ w73.cell? ⟨gb489, 2, none⟩ = some (.int .i64 a0_2) ∧ w73.cell? ⟨gb489, 3, none⟩ = some (.int .u64 a0_3) ∧ w73.cell? ⟨gb489, 4, none⟩ = some (.int .u64 a0_4) ∧ w73.cell? ⟨gb489, 5, none⟩ = some (.int .u64 a0_5) := hS_
           refine norm_ (a' := ?_) ?_ ?_
           rotate_left
           ·simp only [putAll, Act.put, List.setIfInBounds_toArray, List.set_cons_zero, List.set_cons_succ]
            rfl
           refine one_ (i := 16) (N := some 7) #[true, true, true, true, true, true, true, true, true, true, true, true, true, true, true, true, true, false, false] rfl rfl (one_of HT_.out (by kernel_rfl)) (by decide) (fun K hK => ?_)
           refine box_step ?hg (N := 7) ?hd (cs := #[.int .u64 0, .int .u64 0]) (t := 26) ?hr ?_; (case hd => rfl); (case hg => rfl); (case hr => first | (go_simp; done) | (go_simp; rfl))
           intro gb501 hg w74 hbox hb
           have BK501 := Aside0.mk (hbox)
           have GW501 := bz_ w hg
           have GE501 := GW501
           have NB489_501 := bn_ BK489 hg
           have NB501_489 := bm_ BK489 hg
           replace BK489 := bb_ BK489 hb
           replace HB := bs_ w hb
           clear hb hbox hg
           refine hK.out _ _ ⟨(blk_cell BK489.out 0).trans rfl, (blk_cell BK489.out 1).trans rfl, (blk_cell BK489.out 2).trans rfl, (blk_cell BK489.out 3).trans rfl, (blk_cell BK489.out 4).trans rfl, (blk_cell BK489.out 5).trans rfl⟩ (fun hHeld => ?_)
           clear hK K
           refine norm_ (a' := ?_) ?_ ?_
           rotate_left
           ·show Act.put _ (some 7) _ = _
            simp only [Act.put, List.setIfInBounds_toArray, List.set_cons_zero, List.set_cons_succ, i64_w, i32_w]
            rfl
           exact norm_ (by first | (simp only [putAll, Act.put, List.setIfInBounds_toArray, List.set_cons_zero, List.set_cons_succ]; done) | (simp only [putAll, Act.put, List.setIfInBounds_toArray, List.set_cons_zero, List.set_cons_succ]; rfl)) (hJ5_6_11_12_16 (gb501) _ ⟨hHeld, (bq_ BK489), (bq_ BK501), GW501.out, GE501.out, NB489_501.out, NB501_489.out, (by repeat (first | (with_reducible first | exact HB.out | apply below_alloc | apply pw_below_drewN | apply below_drew1 | refine below_set ?_ (Aside0.out (by assumption))) | exact HB.out))⟩)
         rintro gb501 w74 ⟨hS_, h0_, h1_, h2_, h3_, h4_, h5_, h6_⟩
         have BK501 : Aside0 (w74.heap[gb501]? = some (.cells #[.int .u64 0, .int .u64 0] 26 (0, 0))) := ⟨h1_⟩
         have GW501 : Aside0 (w.heap.size ≤ gb501) := ⟨h2_⟩
         have GE501 : Aside0 (w.heap.size ≤ gb501) := ⟨h3_⟩
         have NB489_501 : Aside0 (gb489 ≠ gb501) := ⟨h4_⟩
         have NB501_489 : Aside0 (gb501 ≠ gb489) := ⟨h5_⟩
         replace BK489 : Aside0 (w74.heap[gb489]? = some (.cells #[.int .i64 a0_0, .int .i64 a0_1, .int .i64 a0_2, .int .u64 a0_3, .int .u64 a0_4, .int .u64 a0_5] 28 (0, 0))) := ⟨h0_⟩
         replace HB : Aside0 (Below w.heap.size w w74) := ⟨h6_⟩
         clear h0_ h1_ h2_ h3_ h4_ h5_ h6_
         have hHeld : w74.cell? ⟨gb489, 0, none⟩ = some (.int .i64 a0_0) ∧ w74.cell? ⟨gb489, 1, none⟩ = some (.int .i64 a0_1) ∧ w74.cell? ⟨gb489, 2, none⟩ = some (.int .i64 a0_2) ∧ w74.cell? ⟨gb489, 3, none⟩ = some (.int .u64 a0_3) ∧ w74.cell? ⟨gb489, 4, none⟩ = some (.int .u64 a0_4) ∧ w74.cell? ⟨gb489, 5, none⟩ = some (.int .u64 a0_5) := hS_
         refine norm_ (a' := ?_) ?_ ?_
         rotate_left
         ·simp only [putAll, Act.put, List.setIfInBounds_toArray, List.set_cons_zero, List.set_cons_succ]
          rfl
         refine one_ (i := 17) (N := none) #[true, true, true, true, true, true, true, true, true, true, true, true, true, true, true, true, true, true, false] rfl rfl (one_of HT_.out (by kernel_rfl)) (by decide) (fun K hK => ?_)
         have hs75 : w74.cell? ⟨gb501, 0, none⟩ = some (.int .u64 0) := (blk_cell BK501.out 0).trans rfl
         have hfs75 := blk_frozen BK501.out 0
         have hns75_0 := NB489_501.out
         have hms75_0 := NB501_489.out
         have hs76 : w74.cell? ⟨gb501, 1, none⟩ = some (.int .u64 0) := (blk_cell BK501.out 1).trans rfl
         have hfs76 := blk_frozen BK501.out 1
         have hns76_0 := NB489_501.out
         have hms76_0 := NB501_489.out
         refine skip_ (w1 := ?_) (by rfl) rfl ?_ ?_
         rotate_left
         ·go_simp
          rfl
         refine hK.out _ _ ⟨((cell_far (p := ⟨gb501, _, none⟩) NB489_501.out _).trans (((cell_far (p := ⟨gb501, _, none⟩) NB489_501.out _).trans (hHeld.1)))), ((cell_far (p := ⟨gb501, _, none⟩) NB489_501.out _).trans (((cell_far (p := ⟨gb501, _, none⟩) NB489_501.out _).trans (hHeld.2.1)))), ((cell_far (p := ⟨gb501, _, none⟩) NB489_501.out _).trans (((cell_far (p := ⟨gb501, _, none⟩) NB489_501.out _).trans (hHeld.2.2.1)))), ((cell_far (p := ⟨gb501, _, none⟩) NB489_501.out _).trans (((cell_far (p := ⟨gb501, _, none⟩) NB489_501.out _).trans (hHeld.2.2.2.1)))), ((cell_far (p := ⟨gb501, _, none⟩) NB489_501.out _).trans (((cell_far (p := ⟨gb501, _, none⟩) NB489_501.out _).trans (hHeld.2.2.2.2.1)))), ((cell_far (p := ⟨gb501, _, none⟩) NB489_501.out _).trans (((cell_far (p := ⟨gb501, _, none⟩) NB489_501.out _).trans (hHeld.2.2.2.2.2))))⟩ (fun hHeld => ?_)
         clear hK K
         refine pure_ (i := 18) (N := some 8) (v := ?_) (a' := ?_) #[true, true, true, true, true, true, true, true, true, true, true, true, true, true, true, true, true, true, true] rfl rfl (any_of HT_.out (by kernel_rfl)) (fun _ _ _ h => h) (Or.inl ⟨by rfl, ?_⟩) ?_ ?_
         rotate_left
         ·intro w'
          go_simp
          with_reducible rfl
         rotate_left
         ·simp only [Act.put, List.setIfInBounds_toArray, List.set_cons_zero, List.set_cons_succ, i64_w, i32_w]
          rfl
         refine done_ (done_of HT_.out (by kernel_rfl)) ?_
         have hnb77 := NB501_489.out
         have hnc77 := NB489_501.out
         obtain ⟨hcz78_0, hcz78_1, hfz78_0, hfz78_1⟩ := ce2_ BK501
         obtain ⟨hcz79_0, hcz79_1, hcz79_2, hcz79_3, hcz79_4, hcz79_5, hfz79_0, hfz79_1, hfz79_2, hfz79_3, hfz79_4, hfz79_5⟩ := ce6_ BK489
         try go_wp2_with (first | ((with_reducible refine gate_callee (f := 52) rfl ?_); refine goesA_ (some 54) Try.func52 #[.agg #[.int .u64 t498, .int .u64 t499], .int .u64 (IntKind.u64.wrap (a0_1))] ?_; (with_reducible refine (spigotref01_Up.calls kj15 t498 t499 (IntKind.u64.wrap (a0_1)) t502 t503 t504 _ A30.out).mono ?_); rintro e w80 ⟨rfl, hb⟩; refine ⟨_, rfl, ?_⟩; replace BK489 := bf_ BK489 hb; replace BK501 := Aside0.mk (blk_below (g := gb501) (o := .cells #[.int .u64 t498, .int .u64 t499] 26 (0, 0)) (blk_put (cs := #[.int .u64 t498, .int .u64 0]) (blk_put (cs := #[.int .u64 0, .int .u64 0]) (bq_ BK501) 0 _ rfl) 1 _ rfl) hb); replace HB := bs_ w hb; (try clear hb); (try clear hb2); (try clear hk); (try clear hi)) | ((with_reducible refine gate_dst (N := 9) rfl ?_); refine box_event ?hg (N := 9) ?hd (cs := #[.int .u64 0, .int .u64 0]) (t := 26) ?hr ?_; (case hd => rfl); (case hg => rfl); (case hr => first | (go_simp; done) | (go_simp; rfl)); intro gb505 hg w81 hbox hb; have BK505 := Aside0.mk (hbox); have GW505 := bz_ w hg; have GE505 := GW505; have NB489_505 := bn_ BK489 hg; have NB505_489 := bm_ BK489 hg; have NB501_505 := bn_ BK501 hg; have NB505_501 := bm_ BK501 hg; replace BK489 := bb_ BK489 hb; replace BK501 := bb_ BK501 hb; replace HB := bs_ w hb; clear hb hbox hg; have hnb82 := NB505_489.out; have hnc82 := NB489_505.out; have hnb83 := NB505_501.out; have hnc83 := NB501_505.out; obtain ⟨hcz84_0, hcz84_1, hfz84_0, hfz84_1⟩ := ce2_ BK505; obtain ⟨hcz85_0, hcz85_1, hcz85_2, hcz85_3, hcz85_4, hcz85_5, hfz85_0, hfz85_1, hfz85_2, hfz85_3, hfz85_4, hfz85_5⟩ := ce6_ BK489))
         go_ret2
         exact ⟨by first | rfl | (simp [errW_none, errW_some] <;> rfl) | (simp [*, errW_none, errW_some] <;> rfl), by repeat (first | (with_reducible first | exact HB.out | apply below_alloc | apply pw_below_drewN | apply below_drew1 | refine below_set ?_ GE489.out | refine below_set ?_ GE501.out | refine below_set ?_ GE505.out) | exact HB.out)⟩
 ·rw [if_neg c4] at H
  have c4b0 : (t490 == 0) = false := beq_eq_false_iff_ne.mpr c4
  have c4b1 : (t490 != 0) = true := bne_iff_ne.mpr c4
  simp only [Option.some.injEq, Prod.mk.injEq] at H
  obtain ⟨rfl, rfl⟩ := H
  go_enter Try.func22, Try.ntmps22
  go_wp2_with (first | ((with_reducible refine gate_dst (N := 2) rfl ?_); refine box_event ?hg (N := 2) ?hd (cs := #[.int .i64 a0_0, .int .i64 a0_1, .int .i64 a0_2, .int .u64 a0_3, .int .u64 a0_4, .int .u64 a0_5]) (t := 28) ?hr ?_; (case hd => rfl); (case hg => rfl); (case hr => first | (go_simp; done) | (go_simp; rfl)); intro gb489 hg w86 hbox hb; have BK489 := Aside0.mk (hbox); have GW489 := bz_ w hg; have GE489 := GW489; replace HB := bs_ w hb; clear hb hbox hg; obtain ⟨hcz87_0, hcz87_1, hcz87_2, hcz87_3, hcz87_4, hcz87_5, hfz87_0, hfz87_1, hfz87_2, hfz87_3, hfz87_4, hfz87_5⟩ := ce6_ BK489) | ((with_reducible refine gate_callee (f := 16) rfl ?_); refine goesA_ (some 12) Try.func16 #[.agg #[.int .i64 a0_0, .int .i64 a0_1, .int .i64 a0_2, .int .u64 a0_3, .int .u64 a0_4, .int .u64 a0_5]] ?_; (with_reducible refine (spigotref37_Check.calls k a0_0 a0_1 a0_2 a0_3 a0_4 a0_5 t490 _ A3.out).mono ?_); rintro e w88 ⟨rfl, hb⟩; refine ⟨_, rfl, ?_⟩; replace BK489 := bb_ BK489 hb; replace HB := bs_ w hb; (try clear hb); (try clear hb2); (try clear hk); (try clear hi)))
  go_ret2
  exact ⟨by first | rfl | (simp [errW_none, errW_some] <;> rfl) | (simp [*, errW_none, errW_some] <;> rfl), by repeat (first | (with_reducible first | exact HB.out | apply below_alloc | apply pw_below_drewN | apply below_drew1 | refine below_set ?_ GE489.out) | exact HB.out)⟩

end Go.Proofs.Ytnijohomnajngaa.X
