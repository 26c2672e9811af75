-- written by xprint.py, a program of this session over the kit's print
import Derived.Test.YtimhghmfhfggoaaX0
import Derived.Test.YtimhghmfhfggoaaX26
import Derived.Test.YtimhghmfhfggoaaX27
namespace Go.Proofs.Ytimhghmfhfggoaa.X
open Go.RowKit Go.Proofs.YtimhghmfhfggoaaW.PrintWords Go.Proofs.YtimhghmfhfggoaaW.PrintLast Go.Proofs.YtimhghmfhfggoaaW.PrintMore
attribute [local go_sem] max2_int min2_int max_two min_two max_three min_three max_four min_four   -- for this text's walks alone
set_option linter.unusedVariables false
set_option linter.unusedSimpArgs false

def levels_check.l0 : Nat → List (S51) → List Int → Int → Int → Option (Int)
  | 0, _, _, _, _ => none
  | k + 1, x0, x1, x11, x12 => if x12 < x11 then (if 0 ≤ x12 then (if x12 < (x0.length : Int) then ((bucket_Check.f ((rd_T51 x0 x12).f0.f0) ((rd_T51 x0 x12).f0.f1) ((rd_T51 x0 x12).f0.f2) ((rd_T51 x0 x12).f1) ((rd_T51 x0 x12).f2) ((rd_T51 x0 x12).f3)).bind fun t226 => (if t226 = 0 then (levels_check.l0 k x0 x1 x11 (wrap64 (x12 + 1))) else (some t226))) else (none)) else (none)) else ((slices_ContainsFunc_int64_c70.f k x1 0).bind fun t227 => (if t227 = true then (some 2) else (some 0)))
def levels_check.f (k : Nat) (l0 : List (S51)) (l1 : List Int) : Option (Int) := if (l0.length : Int) > 8 then (some 4) else (levels_check.l0 k l0 l1 (l0.length : Int) 0)
set_option maxHeartbeats 8000000 in
set_option maxRecDepth 100000 in
theorem levels_check.calls (k : Nat) (A0 : Option Addr) (c0 : Nat) (l0 : List (S51)) (A1 : Option Addr) (c1 : Nat) (l1 : List Int) (r : Int) (w : World) (hr0 : Kd.C k51 w A0 l0.length l0) (hc0 : l0.length ≤ c0) (hr1 : Kd.C (Kd.int .i64) w A1 l1.length l1) (hc1 : l1.length ≤ c1) (h : levels_check.f k l0 l1 = some r) :
  Calls Try.prog 55 #[.slice A0 l0.length c0, .slice A1 l1.length c1] w fun e w' => e = .returned (.int .i64 r) ∧ Below w.heap.size w w' := by
 have hu51 := Try.underlying51
 have HR0 := Aside0.mk hr0
 have HC0 := Aside0.mk hc0
 clear hr0 hc0
 have HR1 := Aside0.mk hr1
 have HC1 := Aside0.mk hc1
 clear hr1 hc1
 have HB := Aside0.mk (Below.refl w.heap.size w)
 have H : (if (l0.length : Int) > 8 then (some 4) else (levels_check.l0 k l0 l1 (l0.length : Int) 0)) = some r := h
 clear h
 by_cases c3 : (l0.length : Int) > 8
 ·rw [if_pos c3] at H
  have c3b0 : decide (8 < (l0.length : Int)) = true := decide_eq_true c3
  have c3b1 : decide (8 < l0.length) = true := decide_eq_true (by omega)
  clear c3
  obtain rfl := Option.some.inj H
  go_enter Try.func55, Try.ntmps55
  go_wp2
  go_ret
  exact fi_
 ·rw [if_neg c3] at H
  have c3b0 : decide (8 < (l0.length : Int)) = false := decide_eq_false c3
  have c3b1 : decide (8 < l0.length) = false := decide_eq_false (by omega)
  clear c3
  have H' := Aside0.mk H
  clear H
  go_enter Try.func55, Try.ntmps55
  go_wp2
  go_loopg [12] k (fun kq v12 w' => ∃ (x12_1 : Int), v12 = .int .i64 x12_1 ∧ Aside0 (levels_check.l0 kq l0 l1 (l0.length : Int) x12_1 = some r) ∧ Aside0 (kq ≤ k) ∧ Aside0 (Below w.heap.size w w'))
  case atStart => exact ⟨(0), rf_, H', ⟨Nat.le_refl _⟩, bw_⟩
  case round =>
   clear H'
   try clear c1
   try clear c3
   try clear c3b0
   try clear c3b1
   obtain ⟨x12_1, rfl, HA, HK1, HB⟩ := hrel
   cases gk with
   | zero => exact absurd HA.out (by simp [levels_check.l0])
   | succ k1 =>
    have H := HA.out
    clear HA
    simp only [levels_check.l0] at H
    by_cases c4 : x12_1 < (l0.length : Int)
    ·rw [if_pos c4] at H
     have c4b0 : decide (x12_1 < (l0.length : Int)) = true := decide_eq_true c4
     clear c4
     by_cases c5 : 0 ≤ x12_1
     rotate_left
     ·rw [if_neg c5] at H; exact absurd H (by simp)
     rw [if_pos c5] at H
     have c5b0 : decide (0 ≤ x12_1) = true := decide_eq_true c5
     clear c5
     by_cases c6 : x12_1 < (l0.length : Int)
     rotate_left
     ·rw [if_neg c6] at H; exact absurd H (by simp)
     rw [if_pos c6] at H
     have c6b0 : decide (x12_1 < (l0.length : Int)) = true := decide_eq_true c6
     clear c6
     have H0_ := bo_ H; clear H; obtain ⟨t226, A7, H⟩ := H0_
     replace H : (if t226 = 0 then (levels_check.l0 k1 l0 l1 (l0.length : Int) (wrap64 (x12_1 + 1))) else (some t226)) = some r := H
     by_cases c8 : t226 = 0
     ·rw [if_pos c8] at H
      have c8b0 : (t226 == 0) = true := beq_iff_eq.mpr c8
      have c8b1 : (t226 != 0) = false := bne_eq_false_iff_eq.mpr c8
      clear c8
      have H' := Aside0.mk H
      clear H
      have p225 : 0 ≤ (x12_1 : Int) := of_decide_eq_true (by first | (with_reducible assumption) | assumption)
      have q225 : x12_1 < (l0.length : Int) := of_decide_eq_true (by first | (with_reducible assumption) | assumption)
      obtain ⟨ad225, e225, hx225_0, hx225_1, hx225_2, hx225_3, hx225_4, hx225_5⟩ := at_T51 HR0.out x12_1 p225 q225
      cases e225
      replace hx225_0 := (HB.out.cell (World.block_lt_of_cell? w _ hx225_0)).trans hx225_0
      replace hx225_1 := (HB.out.cell (World.block_lt_of_cell? w _ hx225_1)).trans hx225_1
      replace hx225_2 := (HB.out.cell (World.block_lt_of_cell? w _ hx225_2)).trans hx225_2
      replace hx225_3 := (HB.out.cell (World.block_lt_of_cell? w _ hx225_3)).trans hx225_3
      replace hx225_4 := (HB.out.cell (World.block_lt_of_cell? w _ hx225_4)).trans hx225_4
      replace hx225_5 := (HB.out.cell (World.block_lt_of_cell? w _ hx225_5)).trans hx225_5
      replace p225 := eq_true p225
      replace q225 := eq_true q225
      go_wp2_with (first | ((with_reducible refine gate_callee (f := 41) rfl ?_); refine goesA_ (some 19) Try.func41 #[.agg #[.int .i64 ((rd_T51 l0 x12_1).f0.f0), .int .i64 ((rd_T51 l0 x12_1).f0.f1), .int .i64 ((rd_T51 l0 x12_1).f0.f2), .int .i64 ((rd_T51 l0 x12_1).f1), .int .i64 ((rd_T51 l0 x12_1).f2), .int .u64 ((rd_T51 l0 x12_1).f3)]] ?_; (with_reducible refine (bucket_Check.calls ((rd_T51 l0 x12_1).f0.f0) ((rd_T51 l0 x12_1).f0.f1) ((rd_T51 l0 x12_1).f0.f2) ((rd_T51 l0 x12_1).f1) ((rd_T51 l0 x12_1).f2) ((rd_T51 l0 x12_1).f3) t226 _ A7.out).mono ?_); rintro e w9 ⟨rfl, hb⟩; refine ⟨_, rfl, ?_⟩; replace HB := bs_ w hb; clear hb))
      go_roundg k1
      case measure => have := HK1.out; omega
      case rel => exact ⟨(wrap64 (x12_1 + 1)), rf_, H', ⟨by have := HK1.out; omega⟩, bw_⟩
     ·rw [if_neg c8] at H
      have c8b0 : (t226 == 0) = false := beq_eq_false_iff_ne.mpr c8
      have c8b1 : (t226 != 0) = true := bne_iff_ne.mpr c8
      obtain rfl := Option.some.inj H
      have p225 : 0 ≤ (x12_1 : Int) := of_decide_eq_true (by first | (with_reducible assumption) | assumption)
      have q225 : x12_1 < (l0.length : Int) := of_decide_eq_true (by first | (with_reducible assumption) | assumption)
      obtain ⟨ad225, e225, hx225_0, hx225_1, hx225_2, hx225_3, hx225_4, hx225_5⟩ := at_T51 HR0.out x12_1 p225 q225
      cases e225
      replace hx225_0 := (HB.out.cell (World.block_lt_of_cell? w _ hx225_0)).trans hx225_0
      replace hx225_1 := (HB.out.cell (World.block_lt_of_cell? w _ hx225_1)).trans hx225_1
      replace hx225_2 := (HB.out.cell (World.block_lt_of_cell? w _ hx225_2)).trans hx225_2
      replace hx225_3 := (HB.out.cell (World.block_lt_of_cell? w _ hx225_3)).trans hx225_3
      replace hx225_4 := (HB.out.cell (World.block_lt_of_cell? w _ hx225_4)).trans hx225_4
      replace hx225_5 := (HB.out.cell (World.block_lt_of_cell? w _ hx225_5)).trans hx225_5
      replace p225 := eq_true p225
      replace q225 := eq_true q225
      go_wp2_with (first | ((with_reducible refine gate_callee (f := 41) rfl ?_); refine goesA_ (some 19) Try.func41 #[.agg #[.int .i64 ((rd_T51 l0 x12_1).f0.f0), .int .i64 ((rd_T51 l0 x12_1).f0.f1), .int .i64 ((rd_T51 l0 x12_1).f0.f2), .int .i64 ((rd_T51 l0 x12_1).f1), .int .i64 ((rd_T51 l0 x12_1).f2), .int .u64 ((rd_T51 l0 x12_1).f3)]] ?_; (with_reducible refine (bucket_Check.calls ((rd_T51 l0 x12_1).f0.f0) ((rd_T51 l0 x12_1).f0.f1) ((rd_T51 l0 x12_1).f0.f2) ((rd_T51 l0 x12_1).f1) ((rd_T51 l0 x12_1).f2) ((rd_T51 l0 x12_1).f3) t226 _ A7.out).mono ?_); rintro e w10 ⟨rfl, hb⟩; refine ⟨_, rfl, ?_⟩; replace HB := bs_ w hb; clear hb))
      go_ret
      exact fi_
    ·rw [if_neg c4] at H
     have c4b0 : decide (x12_1 < (l0.length : Int)) = false := decide_eq_false c4
     clear c4
     have H0_ := bo_ H; clear H; obtain ⟨t227, A11, H⟩ := H0_
     replace H : (if t227 = true then (some 2) else (some 0)) = some r := H
     by_cases c12 : t227 = true
     ·subst c12
      replace H : (some 2) = some r := by rw [if_pos rfl] at H; exact H
      obtain rfl := Option.some.inj H
      go_wp2_with (first | ((with_reducible refine gate_callee (f := 69) rfl ?_); refine goesA_ (some 25) Try.func69 #[.slice A1 l1.length c1, .func (.func 70) #[] #[]] ?_; (with_reducible refine (slices_ContainsFunc_int64_c70.calls k1 _ _ l1 0 true _ ?side1 ?side2 A11.out).mono ?_); (case side1 => exact cs_ HR1 HB); (case side2 => exact HC1.out); rintro e w' ⟨rfl, ⟨nd, rfl⟩⟩; refine ⟨_, rfl, ?_⟩))
      go_ret
      exact fi_
     ·replace c12 := Bool.eq_false_iff.mpr c12
      subst c12
      replace H : (some 0) = some r := by rw [if_neg (show ¬ (false = true) by decide)] at H; exact H
      obtain rfl := Option.some.inj H
      go_wp2_with (first | ((with_reducible refine gate_callee (f := 69) rfl ?_); refine goesA_ (some 25) Try.func69 #[.slice A1 l1.length c1, .func (.func 70) #[] #[]] ?_; (with_reducible refine (slices_ContainsFunc_int64_c70.calls k1 _ _ l1 0 false _ ?side1 ?side2 A11.out).mono ?_); (case side1 => exact cs_ HR1 HB); (case side2 => exact HC1.out); rintro e w' ⟨rfl, ⟨nd, rfl⟩⟩; refine ⟨_, rfl, ?_⟩))
      go_ret
      exact fi_

def bits_Add64.f (a0 : Int) (a1 : Int) (a2 : Int) : Option (Int × Int) := if 0 ≤ a0 ∧ 0 ≤ a1 ∧ 0 ≤ a2 ∧ a2 ≤ 1 then some ((a0 + a1 + a2) % 18446744073709551616, (a0 + a1 + a2) / 18446744073709551616) else none
theorem bits_Add64.calls (a0 : Int) (a1 : Int) (a2 : Int) (r1 : Int) (r2 : Int) (w : World) (h : bits_Add64.f a0 a1 a2 = some (r1, r2)) :
    CallsX Try.prog 73 #[.int .u64 a0, .int .u64 a1, .int .u64 a2] w fun e w' => e = .returned (.tuple #[.int .u64 r1, .int .u64 r2]) ∧ Drawn0 w w' := by
  unfold bits_Add64.f at h
  split at h
  case isFalse => cases h
  rename_i hu
  obtain ⟨h0, h1, h2, h3⟩ := hu
  simp only [Option.some.injEq, Prod.mk.injEq] at h
  obtain ⟨rfl, rfl⟩ := h
  refine ⟨_, w, ?_, rfl, Drawn0.refl _⟩
  rw [run_callFunc_extern Try.func73 (by kernel_rfl) (by kernel_rfl) (by kernel_rfl) (e := add64Entry) (by kernel_rfl), run_add64 a0 a1 a2 h0 h1 h2 h3]
  rfl

def wide_Add.f (a0_0 : Int) (a0_1 : Int) (a1_0 : Int) (a1_1 : Int) : Option (Int × Int × Int) := (bits_Add64.f a0_1 a1_1 0).bind fun bt231 => ((bits_Add64.f a0_0 a1_0 bt231.2).bind fun bt233 => (if bt233.2 = 0 then (some (bt233.1, bt231.1, 0)) else (some (0, 0, 16))))
set_option maxHeartbeats 8000000 in
set_option maxRecDepth 100000 in
theorem wide_Add.calls (a0_0 : Int) (a0_1 : Int) (a1_0 : Int) (a1_1 : Int) (r1 : Int) (r2 : Int) (r3 : Int) (w : World) (h : wide_Add.f a0_0 a0_1 a1_0 a1_1 = some (r1, r2, r3)) :
  Calls Try.prog 57 #[.agg #[.int .u64 a0_0, .int .u64 a0_1], .agg #[.int .u64 a1_0, .int .u64 a1_1]] w fun e w' => e = .returned (.tuple #[.agg #[.int .u64 r1, .int .u64 r2], .int .i64 r3]) ∧ Below w.heap.size w w' := by
 have hu92 := Try.underlying92
 have HB := Aside0.mk (Below.refl w.heap.size w)
 have H : ((bits_Add64.f a0_1 a1_1 0).bind fun bt231 => ((bits_Add64.f a0_0 a1_0 bt231.2).bind fun bt233 => (if bt233.2 = 0 then (some (bt233.1, bt231.1, 0)) else (some (0, 0, 16))))) = some (r1, r2, r3) := h
 clear h
 have H0_ := bo_ H; clear H; obtain ⟨⟨t231, t232⟩, A3, H⟩ := H0_
 replace H : ((bits_Add64.f a0_0 a1_0 t232).bind fun bt233 => (if bt233.2 = 0 then (some (bt233.1, t231, 0)) else (some (0, 0, 16)))) = some (r1, r2, r3) := H
 have H0_ := bo_ H; clear H; obtain ⟨⟨t233, t234⟩, A4, H⟩ := H0_
 replace H : (if t234 = 0 then (some (t233, t231, 0)) else (some (0, 0, 16))) = some (r1, r2, r3) := H
 by_cases c5 : t234 = 0
 ·rw [if_pos c5] at H
  have c5b0 : (t234 == 0) = true := beq_iff_eq.mpr c5
  have c5b1 : (t234 != 0) = false := bne_eq_false_iff_eq.mpr c5
  clear c5
  simp only [Option.some.injEq, Prod.mk.injEq] at H
  obtain ⟨rfl, rfl, rfl⟩ := H
  go_enter Try.func57, Try.ntmps57
  go_wp2_with (first | ((with_reducible refine gate_dst (N := 2) rfl ?_); refine bx_ #[.int .u64 a0_0, .int .u64 a0_1] 92 ?_; intro gb228 hg w6 BK228 hb; have GW228 := bz_ w hg; have GE228 := GW228; replace HB := bs_ w hb; clear hb hg) | ((with_reducible refine gate_dst (N := 3) rfl ?_); refine bx_ #[.int .u64 a1_0, .int .u64 a1_1] 92 ?_; intro gb229 hg w7 BK229 hb; have GW229 := bz_ w hg; have GE229 := GW229; have NB228_229 := bn_ BK228 hg; have NB229_228 := bm_ BK228 hg; replace BK228 := bb_ BK228 hb; replace HB := bs_ w hb; clear hb hg) | ((with_reducible refine gate_dst (N := 4) rfl ?_); refine bx_ #[.int .u64 0, .int .u64 0] 92 ?_; intro gb230 hg w8 BK230 hb; have GW230 := bz_ w hg; have GE230 := GW230; have NB228_230 := bn_ BK228 hg; have NB230_228 := bm_ BK228 hg; have NB229_230 := bn_ BK229 hg; have NB230_229 := bm_ BK229 hg; replace BK228 := bb_ BK228 hb; replace BK229 := bb_ BK229 hb; replace HB := bs_ w hb; clear hb hg; replace hn228_229 := NB228_229.out; replace hn229_228 := NB229_228.out; replace hn228_230 := NB228_230.out; replace hn230_228 := NB230_228.out; replace hc228 := ce2_ BK228; replace hn229_230 := NB229_230.out; replace hn230_229 := NB230_229.out; replace hc229 := ce2_ BK229) | ((with_reducible refine gate_callee (f := 73) rfl ?_); refine goesXL_ (some 15) rfl rfl #[.int .u64 a0_1, .int .u64 a1_1, .int .u64 0] rfl (by (try simp only [List.map_toArray, List.map_cons, List.map_nil]); first | done | rfl | (simp only [List.length_drop, List.length_take]; rfl)) ?_; (with_reducible refine (bits_Add64.calls a0_1 a1_1 0 t231 t232 _ A3.out).mono ?_); rintro e w' ⟨rfl, ⟨nd, rfl⟩⟩; refine ⟨_, rfl, ?_⟩; (try ((first | generalize hq_ : World.drewN w8 _ = w8 | (rw [drewN_self w8]; generalize hq_ : World.drewN w8 _ = w8)); replace BK228 : Aside0 (w8.heap[gb228]? = some (.cells #[.int .u64 a0_0, .int .u64 a0_1] 92 (0, 0))) := ⟨by rw [← hq_]; exact (bq_ BK228)⟩; replace BK229 : Aside0 (w8.heap[gb229]? = some (.cells #[.int .u64 a1_0, .int .u64 a1_1] 92 (0, 0))) := ⟨by rw [← hq_]; exact (bq_ BK229)⟩; replace BK230 : Aside0 (w8.heap[gb230]? = some (.cells #[.int .u64 0, .int .u64 0] 92 (0, 0))) := ⟨by rw [← hq_]; exact (bq_ BK230)⟩; replace HB : Aside0 (Below w.heap.size w w8) := ⟨by rw [← hq_]; exact bh_⟩; clear hq_)); replace hc228 := ce2_ BK228; replace hc229 := ce2_ BK229) | ((with_reducible refine gate_callee (f := 73) rfl ?_); refine goesXL_ (some 24) rfl rfl #[.int .u64 a0_0, .int .u64 a1_0, .int .u64 t232] rfl (by (try simp only [List.map_toArray, List.map_cons, List.map_nil]); first | done | rfl | (simp only [List.length_drop, List.length_take]; rfl)) ?_; (with_reducible refine (bits_Add64.calls a0_0 a1_0 t232 t233 t234 _ A4.out).mono ?_); rintro e w' ⟨rfl, ⟨nd, rfl⟩⟩; refine ⟨_, rfl, ?_⟩; (try ((first | generalize hq_ : World.drewN w8 _ = w8 | (rw [drewN_self w8]; generalize hq_ : World.drewN w8 _ = w8)); replace BK228 : Aside0 (w8.heap[gb228]? = some (.cells #[.int .u64 a0_0, .int .u64 a0_1] 92 (0, 0))) := ⟨by rw [← hq_]; exact (bq_ BK228)⟩; replace BK229 : Aside0 (w8.heap[gb229]? = some (.cells #[.int .u64 a1_0, .int .u64 a1_1] 92 (0, 0))) := ⟨by rw [← hq_]; exact (bq_ BK229)⟩; replace BK230 : Aside0 (w8.heap[gb230]? = some (.cells #[.int .u64 0, .int .u64 0] 92 (0, 0))) := ⟨by rw [← hq_]; exact (bq_ BK230)⟩; replace HB : Aside0 (Below w.heap.size w w8) := ⟨by rw [← hq_]; exact bh_⟩; clear hq_)); replace hc230 := ce2_ BK230))
  refine bodyPost_ret (results_ct rfl _ _ gb230 92 #[.int .u64 t233, .int .u64 t231] (0, 0) _ rfl (bp2_ (bq_ BK230)) Try.underlying92 rfl (by kernel_rfl)) rfl ?_
  exact fi_
 ·rw [if_neg c5] at H
  have c5b0 : (t234 == 0) = false := beq_eq_false_iff_ne.mpr c5
  have c5b1 : (t234 != 0) = true := bne_iff_ne.mpr c5
  simp only [Option.some.injEq, Prod.mk.injEq] at H
  obtain ⟨rfl, rfl, rfl⟩ := H
  go_enter Try.func57, Try.ntmps57
  go_wp2_with (first | ((with_reducible refine gate_dst (N := 2) rfl ?_); refine bx_ #[.int .u64 a0_0, .int .u64 a0_1] 92 ?_; intro gb228 hg w17 BK228 hb; have GW228 := bz_ w hg; have GE228 := GW228; replace HB := bs_ w hb; clear hb hg) | ((with_reducible refine gate_dst (N := 3) rfl ?_); refine bx_ #[.int .u64 a1_0, .int .u64 a1_1] 92 ?_; intro gb229 hg w18 BK229 hb; have GW229 := bz_ w hg; have GE229 := GW229; have NB228_229 := bn_ BK228 hg; have NB229_228 := bm_ BK228 hg; replace BK228 := bb_ BK228 hb; replace HB := bs_ w hb; clear hb hg) | ((with_reducible refine gate_dst (N := 4) rfl ?_); refine bx_ #[.int .u64 0, .int .u64 0] 92 ?_; intro gb230 hg w19 BK230 hb; have GW230 := bz_ w hg; have GE230 := GW230; have NB228_230 := bn_ BK228 hg; have NB230_228 := bm_ BK228 hg; have NB229_230 := bn_ BK229 hg; have NB230_229 := bm_ BK229 hg; replace BK228 := bb_ BK228 hb; replace BK229 := bb_ BK229 hb; replace HB := bs_ w hb; clear hb hg; replace hn228_229 := NB228_229.out; replace hn229_228 := NB229_228.out; replace hn228_230 := NB228_230.out; replace hn230_228 := NB230_228.out; replace hc228 := ce2_ BK228; replace hn229_230 := NB229_230.out; replace hn230_229 := NB230_229.out; replace hc229 := ce2_ BK229) | ((with_reducible refine gate_callee (f := 73) rfl ?_); refine goesXL_ (some 15) rfl rfl #[.int .u64 a0_1, .int .u64 a1_1, .int .u64 0] rfl (by (try simp only [List.map_toArray, List.map_cons, List.map_nil]); first | done | rfl | (simp only [List.length_drop, List.length_take]; rfl)) ?_; (with_reducible refine (bits_Add64.calls a0_1 a1_1 0 t231 t232 _ A3.out).mono ?_); rintro e w' ⟨rfl, ⟨nd, rfl⟩⟩; refine ⟨_, rfl, ?_⟩; (try ((first | generalize hq_ : World.drewN w19 _ = w19 | (rw [drewN_self w19]; generalize hq_ : World.drewN w19 _ = w19)); replace BK228 : Aside0 (w19.heap[gb228]? = some (.cells #[.int .u64 a0_0, .int .u64 a0_1] 92 (0, 0))) := ⟨by rw [← hq_]; exact (bq_ BK228)⟩; replace BK229 : Aside0 (w19.heap[gb229]? = some (.cells #[.int .u64 a1_0, .int .u64 a1_1] 92 (0, 0))) := ⟨by rw [← hq_]; exact (bq_ BK229)⟩; replace BK230 : Aside0 (w19.heap[gb230]? = some (.cells #[.int .u64 0, .int .u64 0] 92 (0, 0))) := ⟨by rw [← hq_]; exact (bq_ BK230)⟩; replace HB : Aside0 (Below w.heap.size w w19) := ⟨by rw [← hq_]; exact bh_⟩; clear hq_)); replace hc228 := ce2_ BK228; replace hc229 := ce2_ BK229) | ((with_reducible refine gate_callee (f := 73) rfl ?_); refine goesXL_ (some 24) rfl rfl #[.int .u64 a0_0, .int .u64 a1_0, .int .u64 t232] rfl (by (try simp only [List.map_toArray, List.map_cons, List.map_nil]); first | done | rfl | (simp only [List.length_drop, List.length_take]; rfl)) ?_; (with_reducible refine (bits_Add64.calls a0_0 a1_0 t232 t233 t234 _ A4.out).mono ?_); rintro e w' ⟨rfl, ⟨nd, rfl⟩⟩; refine ⟨_, rfl, ?_⟩; (try ((first | generalize hq_ : World.drewN w19 _ = w19 | (rw [drewN_self w19]; generalize hq_ : World.drewN w19 _ = w19)); replace BK228 : Aside0 (w19.heap[gb228]? = some (.cells #[.int .u64 a0_0, .int .u64 a0_1] 92 (0, 0))) := ⟨by rw [← hq_]; exact (bq_ BK228)⟩; replace BK229 : Aside0 (w19.heap[gb229]? = some (.cells #[.int .u64 a1_0, .int .u64 a1_1] 92 (0, 0))) := ⟨by rw [← hq_]; exact (bq_ BK229)⟩; replace BK230 : Aside0 (w19.heap[gb230]? = some (.cells #[.int .u64 0, .int .u64 0] 92 (0, 0))) := ⟨by rw [← hq_]; exact (bq_ BK230)⟩; replace HB : Aside0 (Below w.heap.size w w19) := ⟨by rw [← hq_]; exact bh_⟩; clear hq_)); replace hc230 := ce2_ BK230))
  refine bodyPost_ret (results_ct rfl _ _ gb230 92 #[.int .u64 0, .int .u64 0] (0, 0) _ rfl (bp2_ (bq_ BK230)) Try.underlying92 rfl (by kernel_rfl)) rfl ?_
  exact fi_

def wide_Small.f (a0_0 : Int) (a0_1 : Int) : Option (Int × Int) := if a0_0 = 0 then (some (a0_1, 0)) else (some (0, 16))
set_option maxHeartbeats 8000000 in
set_option maxRecDepth 100000 in
theorem wide_Small.calls (a0_0 : Int) (a0_1 : Int) (r1 : Int) (r2 : Int) (w : World) (h : wide_Small.f a0_0 a0_1 = some (r1, r2)) :
  Calls Try.prog 58 #[.agg #[.int .u64 a0_0, .int .u64 a0_1]] w fun e w' => e = .returned (.tuple #[.int .u64 r1, .int .i64 r2]) ∧ Below w.heap.size w w' := by
 have hu92 := Try.underlying92
 have HB := Aside0.mk (Below.refl w.heap.size w)
 have H : (if a0_0 = 0 then (some (a0_1, 0)) else (some (0, 16))) = some (r1, r2) := h
 clear h
 by_cases c2 : a0_0 = 0
 ·rw [if_pos c2] at H
  have c2b0 : (a0_0 == 0) = true := beq_iff_eq.mpr c2
  have c2b1 : (a0_0 != 0) = false := bne_eq_false_iff_eq.mpr c2
  clear c2
  simp only [Option.some.injEq, Prod.mk.injEq] at H
  obtain ⟨rfl, rfl⟩ := H
  go_enter Try.func58, Try.ntmps58
  go_wp2_with (first | ((with_reducible refine gate_dst (N := 1) rfl ?_); refine bx_ #[.int .u64 a0_0, .int .u64 a0_1] 92 ?_; intro gb235 hg w3 BK235 hb; have GW235 := bz_ w hg; have GE235 := GW235; replace HB := bs_ w hb; clear hb hg; replace hc235 := ce2_ BK235))
  go_ret2
  exact fi_
 ·rw [if_neg c2] at H
  have c2b0 : (a0_0 == 0) = false := beq_eq_false_iff_ne.mpr c2
  have c2b1 : (a0_0 != 0) = true := bne_iff_ne.mpr c2
  simp only [Option.some.injEq, Prod.mk.injEq] at H
  obtain ⟨rfl, rfl⟩ := H
  go_enter Try.func58, Try.ntmps58
  go_wp2_with (first | ((with_reducible refine gate_dst (N := 1) rfl ?_); refine bx_ #[.int .u64 a0_0, .int .u64 a0_1] 92 ?_; intro gb235 hg w5 BK235 hb; have GW235 := bz_ w hg; have GE235 := GW235; replace HB := bs_ w hb; clear hb hg; replace hc235 := ce2_ BK235))
  go_ret2
  exact fi_

end Go.Proofs.Ytimhghmfhfggoaa.X
