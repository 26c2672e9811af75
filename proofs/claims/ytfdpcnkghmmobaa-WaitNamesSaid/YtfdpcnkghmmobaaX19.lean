-- written by xprint.py, a program of this session over the kit's print
import Derived.Test.YtfdpcnkghmmobaaX0
import Derived.Test.YtfdpcnkghmmobaaX14
import Derived.Test.YtfdpcnkghmmobaaX16
import Derived.Test.YtfdpcnkghmmobaaX17
import Derived.Test.YtfdpcnkghmmobaaX18
namespace Go.Proofs.Ytfdpcnkghmmobaa.X
open Go.RowKit Go.Proofs.YtfdpcnkghmmobaaW.PrintWords Go.Proofs.YtfdpcnkghmmobaaW.PrintLast Go.Proofs.YtfdpcnkghmmobaaW.PrintMore
attribute [local go_sem] max2_int min2_int max_two min_two max_three min_three max_four min_four   -- for this text's walks alone
set_option linter.unusedVariables false
set_option linter.unusedSimpArgs false

/-! ### wait_Fits: function 11 -/
def wait_Fits.j0 : Nat → List (S63) → List Int → List Int → Bool → Option (Bool × Int)
  | 0, _, _, _, _ => none
  | k + 1, x0, x2, x3, x35 => if x35 = true then (some (false, 0)) else ((levels_Run.f k x0 x3 x2).bind fun bt217 => (if bt217.2.2 = 0 then ((slices_Contains_bool.f k bt217.2.1 false).bind fun t224 => (some (!t224, bt217.2.2))) else (some (false, bt217.2.2))))
def wait_Fits.f (k : Nat) (l0 : List (S63)) (a1 : Int) (l2 : List Int) (l3 : List Int) : Option (Bool × Int) := (wait_both.f k l0 l2).bind fun t209 => (if t209 = 0 then (if (l3.length : Int) > 60 then (some (false, 4)) else (if (l3.length : Int) = (l2.length : Int) then ((some (([a1] : List Int) : List Int)).bind fun y210 => (if y210.length + l3.length < 17592186044416 then ((slices_IsSorted_uint64.f k (y210 ++ l3)).bind fun t216 => (wait_Fits.j0 k l0 l2 l3 (!t216))) else (none))) else (wait_Fits.j0 k l0 l2 l3 true))) else (some (false, t209)))
theorem wait_Fits.mono_l : ∀ k, (∀ y0 y1 y2 y3, LeO (wait_Fits.j0 k y0 y1 y2 y3) (wait_Fits.j0 (k + 1) y0 y1 y2 y3))
  | 0 => fun _ _ _ _ r h => by simp [wait_Fits.j0] at h
  | k + 1 => by
    have ih0 := wait_Fits.mono_l k
    · intro y0 y1 y2 y3
      unfold wait_Fits.j0
      repeat' first
      | (with_reducible exact ih0 _ _ _ _)
      | (with_reducible exact levels_Run.mono _ _ _ _)
      | (with_reducible exact slices_Contains_bool.mono _ _ _)
      | (with_reducible exact slices_IsSorted_uint64.mono _ _)
      | (with_reducible exact wait_both.mono _ _ _)
      | (with_reducible exact LeO.refl _)
      | (with_reducible exact LeO.none _)
      | (with_reducible refine LeO.ite ?_ ?_)
      | (with_reducible refine LeO.bind ?_ (fun _ => ?_))
      | exact ih0 _ _ _ _
      | exact levels_Run.mono _ _ _ _
      | exact slices_Contains_bool.mono _ _ _
      | exact slices_IsSorted_uint64.mono _ _
      | exact wait_both.mono _ _ _
      | exact LeO.none _
      | refine LeO.ite ?_ ?_
      | refine LeO.bind ?_ (fun _ => ?_)
theorem wait_Fits.mono : ∀ a0 a1 a2 a3 k, LeO (wait_Fits.f k a0 a1 a2 a3) (wait_Fits.f (k + 1) a0 a1 a2 a3) := by
  intro a0 a1 a2 a3 k
  have ih0 := wait_Fits.mono_l k
  unfold wait_Fits.f
  repeat' first
      | (with_reducible exact ih0 _ _ _ _)
      | (with_reducible exact levels_Run.mono _ _ _ _)
      | (with_reducible exact slices_Contains_bool.mono _ _ _)
      | (with_reducible exact slices_IsSorted_uint64.mono _ _)
      | (with_reducible exact wait_both.mono _ _ _)
      | (with_reducible exact LeO.refl _)
      | (with_reducible exact LeO.none _)
      | (with_reducible refine LeO.ite ?_ ?_)
      | (with_reducible refine LeO.bind ?_ (fun _ => ?_))
      | exact ih0 _ _ _ _
      | exact levels_Run.mono _ _ _ _
      | exact slices_Contains_bool.mono _ _ _
      | exact slices_IsSorted_uint64.mono _ _
      | exact wait_both.mono _ _ _
      | exact LeO.none _
      | refine LeO.ite ?_ ?_
      | refine LeO.bind ?_ (fun _ => ?_)
set_option maxHeartbeats 8000000 in
set_option maxRecDepth 100000 in
theorem wait_Fits.calls (k : Nat) (A0 : Option Addr) (c0 : Nat) (l0 : List (S63)) (a1 : Int) (A2 : Option Addr) (c2 : Nat) (l2 : List Int) (A3 : Option Addr) (c3 : Nat) (l3 : List Int) (r1 : Bool) (r2 : Int) (w : World) (hr0 : Kd.C k63 w A0 l0.length l0) (hc0 : l0.length ≤ c0) (hr2 : Kd.C (Kd.int .i64) w A2 l2.length l2) (hc2 : l2.length ≤ c2) (hr3 : Kd.C (Kd.int .u64) w A3 l3.length l3) (hc3 : l3.length ≤ c3) (h : wait_Fits.f k l0 a1 l2 l3 = some (r1, r2)) :
  Calls Try.prog 11 #[.slice A0 l0.length c0, .int .u64 a1, .slice A2 l2.length c2, .slice A3 l3.length c3] w fun e w' => e = .returned (.tuple #[.bool r1, .int .i64 r2]) ∧ Below w.heap.size w w' := by
 have HR0 := Aside0.mk hr0
 have HC0 := Aside0.mk hc0
 clear hr0 hc0
 have HR2 := Aside0.mk hr2
 have HC2 := Aside0.mk hc2
 clear hr2 hc2
 have HR3 := Aside0.mk hr3
 have HC3 := Aside0.mk hc3
 clear hr3 hc3
 have HB := Aside0.mk (Below.refl w.heap.size w)
 have H : ((wait_both.f k l0 l2).bind fun t209 => (if t209 = 0 then (if (l3.length : Int) > 60 then (some (false, 4)) else (if (l3.length : Int) = (l2.length : Int) then ((some (([a1] : List Int) : List Int)).bind fun y210 => (if y210.length + l3.length < 17592186044416 then ((slices_IsSorted_uint64.f k (y210 ++ l3)).bind fun t216 => (wait_Fits.j0 k l0 l2 l3 (!t216))) else (none))) else (wait_Fits.j0 k l0 l2 l3 true))) else (some (false, t209)))) = some (r1, r2) := h
 clear h
 have H0_ := bo_ H; clear H; obtain ⟨t209, A5, H⟩ := H0_
 try dsimp only at H
 by_cases c6 : t209 = 0
 ·rw [if_pos c6] at H
  have c6b0 : (t209 == 0) = true := beq_iff_eq.mpr c6
  have c6b1 : (t209 != 0) = false := bne_eq_false_iff_eq.mpr c6
  clear c6
  by_cases c7 : (l3.length : Int) > 60
  ·rw [if_pos c7] at H
   have c7b0 : decide (60 < (l3.length : Int)) = true := decide_eq_true c7
   have c7b1 : decide (60 < l3.length) = true := decide_eq_true (by omega)
   clear c7
   simp only [Option.some.injEq, Prod.mk.injEq] at H
   obtain ⟨rfl, rfl⟩ := H
   go_enter Try.func11, Try.ntmps11
   go_wp2_with (first | ((with_reducible refine gate_callee (f := 30) rfl ?_); (try refine ug_ (by rfl) ?_); refine goesA_ (some 16) Try.func30 #[.slice A0 l0.length c0, .slice A2 l2.length c2] ?_; (with_reducible refine (wait_both.calls k _ _ l0 _ _ l2 t209 _ ?side1 ?side2 ?side3 ?side4 A5.out).mono ?_); (case side1 => exact ch_ HR0); (case side2 => exact HC0.out); (case side3 => exact ch_ HR2); (case side4 => exact HC2.out); rintro e w8 ⟨rfl, hb⟩; refine ⟨_, rfl, ?_⟩; replace HB := bs_ w hb; clear hb))
   go_ret2
   exact fi_
  ·rw [if_neg c7] at H
   have c7b0 : decide (60 < (l3.length : Int)) = false := decide_eq_false c7
   have c7b1 : decide (60 < l3.length) = false := decide_eq_false (by omega)
   clear c7
   have HC9 := Aside0.mk H
   clear H
   go_enter Try.func11, Try.ntmps11
   go_upto_region 6 with (first | ((with_reducible refine gate_callee (f := 30) rfl ?_); (try refine ug_ (by rfl) ?_); refine goesA_ (some 16) Try.func30 #[.slice A0 l0.length c0, .slice A2 l2.length c2] ?_; (with_reducible refine (wait_both.calls k _ _ l0 _ _ l2 t209 _ ?side1 ?side2 ?side3 ?side4 A5.out).mono ?_); (case side1 => exact ch_ HR0); (case side2 => exact HC0.out); (case side3 => exact ch_ HR2); (case side4 => exact HC2.out); rintro e w10 ⟨rfl, hb⟩; refine ⟨_, rfl, ?_⟩; replace HB := bs_ w hb; clear hb))
   (try simp only [Act.put, List.setIfInBounds_toArray, List.set_cons_zero, List.set_cons_succ])
   go_cut [35] (fun v35 wc => ∃ (kq : Nat) (x35_8 : Bool), v35 = .bool x35_8 ∧ Aside0 (wait_Fits.j0 kq l0 l2 l3 x35_8 = some (r1, r2)) ∧ Aside0 (kq ≤ k) ∧ Aside0 (Below w.heap.size w wc))
   case first =>
    have H := HC9.out
    clear HC9
    by_cases c11 : (l3.length : Int) = (l2.length : Int)
    ·rw [if_pos c11] at H
     have c11b0 : ((l3.length : Int) == (l2.length : Int)) = true := beq_iff_eq.mpr c11
     have c11b1 : ((l3.length : Int) != (l2.length : Int)) = false := bne_eq_false_iff_eq.mpr c11
     have c11b2 : (l3.length == l2.length) = true := by first | simpa using c11 | (simp at c11 ⊢; omega)
     clear c11
     (first | rw [c11b0] | (simp only [i64_w, i32_w]; rw [c11b0]) | skip)
     obtain ⟨y210, hy210⟩ : ∃ y_ : List Int, y_ = (([a1] : List Int)) := ⟨_, rfl⟩
     replace H : (if y210.length + l3.length < 17592186044416 then ((slices_IsSorted_uint64.f k (y210 ++ l3)).bind fun t216 => (wait_Fits.j0 k l0 l2 l3 (!t216))) else (none)) = some (r1, r2) := by first | (rw [hy210]; with_reducible exact H) | (have H2_ := (Option.bind_some _ _).symm.trans H; rw [hy210]; with_reducible exact H2_) | (have H2_ := (Option.bind_some _ _).symm.trans H; with_reducible exact H2_) | with_reducible exact H | (rw [hy210]; exact H) | exact H
     have Ny210 := Aside0.mk hy210
     clear hy210
     by_cases c12 : y210.length + l3.length < 17592186044416
     rotate_left
     ·rw [if_neg c12] at H; exact absurd H (by simp)
     rw [if_pos c12] at H
     have LMc12 := Aside0.mk c12
     clear c12
     obtain ⟨y213, hy213⟩ : ∃ y_ : List Int, y_ = (y210 ++ l3) := ⟨_, rfl⟩
     replace H : ((slices_IsSorted_uint64.f k y213).bind fun t216 => (wait_Fits.j0 k l0 l2 l3 (!t216))) = some (r1, r2) := by first | (rw [hy213]; with_reducible exact H) | (have H2_ := (Option.bind_some _ _).symm.trans H; rw [hy213]; with_reducible exact H2_) | (have H2_ := (Option.bind_some _ _).symm.trans H; with_reducible exact H2_) | with_reducible exact H | (rw [hy213]; exact H) | exact H
     have Ny213 := Aside0.mk hy213
     clear hy213
     have H0_ := bo_ H; clear H; obtain ⟨t216, A13, H⟩ := H0_
     replace H : (wait_Fits.j0 k l0 l2 l3 (!t216)) = some (r1, r2) := H
     have H' := Aside0.mk H
     clear H
     go_wp2_with (first | ((with_reducible refine gate_dst (N := 30) rfl ?_); (try refine ug_ (by rfl) ?_); refine Kd.R_lit (Kd.int .u64) _ 23 ?hg (N := 30) ?hd (xs := ([a1] : List Int)) (inner := [.int .u64 a1]) (ok := fun _ => True) (okp := fun _ => True) ?hr ?hp (fun _ hk => hk) trivial (Below.refl _ _) (Nat.le_refl _) (by simp) ?_; (case hd => rfl); (case hg => rfl); (case hr => first | (go_simp; done) | (go_simp; rfl)); (case hp => exact (Reps.one (show Kd.M (Kd.int .u64) _ _ _ a1 [.int .u64 a1] from rfl) (Reps.none _ _))); intro v211 w14 ho15 hb hg_ hnew_; clear hg_ hnew_; (first | rw [← Ny210.out] at ho15 | (simp only [Int.reduceToNat] at ho15; rw [← Ny210.out] at ho15)); have HO212 := Aside0.mk (Kd.R_lower ho15 (below_size (hq_ HB))); replace HB := bs_ w hb; clear hb ho15) | ((with_reducible refine gate_builtin (b := .append) (xs := #[.tmp 30, .tmp 31]) rfl ?_); (try refine ug_ (by rfl) ?_); at_builtin; refine Kd.R_append_rows (Kd.int .u64) (w0 := w) w.heap.size rfl (.tmp 30) (.tmp 31) 25 23 (.int .u64 0) 8 rfl Try.underlying25 info23 rfl (by decide) (by omega) v211 y210 l3 _ _ _ (fun _ => True) (fun _ => False) rfl rfl ?aO ?aR (fun _ _ h => h) (fun _ h => h.elim) ?aF ?aB ?aS ?aL ?_; (case aR => exact cs_ HR3 HB); (case aB => exact (hq_ HB)); (case aF => exact (fun _ _ => trivial)); (case aO => exact (rs_ HO212)); (case aS => exact (below_size (hq_ HB))); (case aL => have := LMc12.out; omega); intro v214 w16 ho hb hg hat; rw [← Ny213.out] at ho; have HO215 := Aside0.mk (ho); replace HB := Aside0.mk (hb); clear HO212; clear ho hb hg hat; obtain ⟨Ao17, co17, eo17⟩ := Kd.R_slice HO215.out; subst eo17) | (go_at_call 31; (with_reducible refine (slices_IsSorted_uint64.calls k _ _ y213 t216 _ ?side1 ?side2 A13.out).mono ?_); (case side1 => exact cr_ HO215); (case side2 => exact (Kd.R_reads' HO215.out).2.1); rintro e w' ⟨rfl, ⟨nd, rfl⟩⟩))
     go_meet
     case rel => exact ⟨_, (!t216), rf_, H', al_, bw_⟩
    ·rw [if_neg c11] at H
     have c11b0 : ((l3.length : Int) == (l2.length : Int)) = false := beq_eq_false_iff_ne.mpr c11
     have c11b1 : ((l3.length : Int) != (l2.length : Int)) = true := bne_iff_ne.mpr c11
     have c11b2 : (l3.length == l2.length) = false := by first | simpa using c11 | (simp at c11 ⊢; omega)
     (first | rw [c11b0] | (simp only [i64_w, i32_w]; rw [c11b0]) | skip)
     have H' := Aside0.mk H
     clear H
     go_wp2
     go_meet
     case rel => exact ⟨_, (true), rf_, H', al_, bw_⟩
   case rest =>
    clear HC9
    try clear c2
    try clear c3
    try clear c6
    try clear c6b0
    try clear c6b1
    try clear c7
    try clear c7b0
    try clear c7b1
    obtain ⟨kq, x35_8, rfl, HA, HJ8, HB⟩ := hcut
    cases kq with
    | zero => exact absurd HA.out (by simp [wait_Fits.j0])
    | succ kj8 =>
     have H := HA.out
     clear HA
     simp only [wait_Fits.j0] at H
     by_cases c18 : x35_8 = true
     ·subst c18
      replace H : (some (false, 0)) = some (r1, r2) := by rw [if_pos rfl] at H; exact H
      simp only [Option.some.injEq, Prod.mk.injEq] at H
      obtain ⟨rfl, rfl⟩ := H
      go_wp2
      go_ret2
      exact fi_
     ·replace c18 := Bool.eq_false_iff.mpr c18
      subst c18
      rw [if_neg (show ¬ (false = true) by decide)] at H
      try dsimp only at H
      have H0_ := bo_ H; clear H; obtain ⟨⟨t217, t218, t219⟩, A19, H⟩ := H0_
      replace H : (if t219 = 0 then ((slices_Contains_bool.f kj8 t218 false).bind fun t224 => (some (!t224, t219))) else (some (false, t219))) = some (r1, r2) := H
      by_cases c20 : t219 = 0
      ·rw [if_pos c20] at H
       have c20b0 : (t219 == 0) = true := beq_iff_eq.mpr c20
       have c20b1 : (t219 != 0) = false := bne_eq_false_iff_eq.mpr c20
       clear c20
       have H0_ := bo_ H; clear H; obtain ⟨t224, A21, H⟩ := H0_
       replace H : (some (!t224, t219)) = some (r1, r2) := H
       simp only [Option.some.injEq, Prod.mk.injEq] at H
       obtain ⟨rfl, rfl⟩ := H
       go_wp2_with (first | ((with_reducible refine gate_callee (f := 27) rfl ?_); (try refine ug_ (by rfl) ?_); refine goesA_ (some 40) Try.func27 #[.slice A0 l0.length c0, .slice A3 l3.length c3, .slice A2 l2.length c2] ?_; (with_reducible refine (levels_Run.calls kj8 _ _ l0 _ _ l3 _ _ l2 t217 t218 t219 _ ?side1 ?side2 ?side3 ?side4 ?side5 ?side6 A19.out).mono ?_); (case side1 => exact cs_ HR0 HB); (case side2 => exact HC0.out); (case side3 => exact cs_ HR3 HB); (case side4 => exact HC3.out); (case side5 => exact cs_ HR2 HB); (case side6 => exact HC2.out); rintro e w22 ⟨v220, v222, rfl, ho0, ho1, hb⟩; refine ⟨_, rfl, ?_⟩; have HO221 := Aside0.mk (Kd.R_lower ho0 (below_size (hq_ HB))); have HO223 := Aside0.mk (Kd.R_lower ho1 (below_size (hq_ HB))); replace HB := bs_ w hb; clear hb; (try clear ho0); (try clear ho1); obtain ⟨Ao23, co23, eo23⟩ := Kd.R_slice HO223.out; subst eo23) | (go_at_call 32; (with_reducible refine (slices_Contains_bool.calls kj8 _ _ t218 false t224 _ ?side1 ?side2 A21.out).mono ?_); (case side1 => exact cr_ HO223); (case side2 => exact (Kd.R_reads' HO223.out).2.1); rintro e w' ⟨rfl, ⟨nd, rfl⟩⟩))
       go_ret2
       exact fi_
      ·rw [if_neg c20] at H
       have c20b0 : (t219 == 0) = false := beq_eq_false_iff_ne.mpr c20
       have c20b1 : (t219 != 0) = true := bne_iff_ne.mpr c20
       simp only [Option.some.injEq, Prod.mk.injEq] at H
       obtain ⟨rfl, rfl⟩ := H
       go_wp2_with (first | ((with_reducible refine gate_callee (f := 27) rfl ?_); (try refine ug_ (by rfl) ?_); refine goesA_ (some 40) Try.func27 #[.slice A0 l0.length c0, .slice A3 l3.length c3, .slice A2 l2.length c2] ?_; (with_reducible refine (levels_Run.calls kj8 _ _ l0 _ _ l3 _ _ l2 t217 t218 t219 _ ?side1 ?side2 ?side3 ?side4 ?side5 ?side6 A19.out).mono ?_); (case side1 => exact cs_ HR0 HB); (case side2 => exact HC0.out); (case side3 => exact cs_ HR3 HB); (case side4 => exact HC3.out); (case side5 => exact cs_ HR2 HB); (case side6 => exact HC2.out); rintro e w24 ⟨v220, v222, rfl, ho0, ho1, hb⟩; refine ⟨_, rfl, ?_⟩; have HO221 := Aside0.mk (Kd.R_lower ho0 (below_size (hq_ HB))); have HO223 := Aside0.mk (Kd.R_lower ho1 (below_size (hq_ HB))); replace HB := bs_ w hb; clear hb; (try clear ho0); (try clear ho1)))
       go_ret2
       exact fi_
 ·rw [if_neg c6] at H
  have c6b0 : (t209 == 0) = false := beq_eq_false_iff_ne.mpr c6
  have c6b1 : (t209 != 0) = true := bne_iff_ne.mpr c6
  simp only [Option.some.injEq, Prod.mk.injEq] at H
  obtain ⟨rfl, rfl⟩ := H
  go_enter Try.func11, Try.ntmps11
  go_wp2_with (first | ((with_reducible refine gate_callee (f := 30) rfl ?_); (try refine ug_ (by rfl) ?_); refine goesA_ (some 16) Try.func30 #[.slice A0 l0.length c0, .slice A2 l2.length c2] ?_; (with_reducible refine (wait_both.calls k _ _ l0 _ _ l2 t209 _ ?side1 ?side2 ?side3 ?side4 A5.out).mono ?_); (case side1 => exact ch_ HR0); (case side2 => exact HC0.out); (case side3 => exact ch_ HR2); (case side4 => exact HC2.out); rintro e w25 ⟨rfl, hb⟩; refine ⟨_, rfl, ?_⟩; replace HB := bs_ w hb; clear hb))
  go_ret2
  exact fi_

end Go.Proofs.Ytfdpcnkghmmobaa.X
