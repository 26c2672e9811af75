-- written by xprint.py, a program of this session over the kit's print
import Derived.Test.YtiifhbaabnpkeaaX0
import Derived.Test.YtiifhbaabnpkeaaX10
import Derived.Test.YtiifhbaabnpkeaaX11
namespace Go.Proofs.Ytiifhbaabnpkeaa.X
open Go.RowKit Go.Proofs.YtiifhbaabnpkeaaW.PrintWords Go.Proofs.YtiifhbaabnpkeaaW.PrintLast Go.Proofs.YtiifhbaabnpkeaaW.PrintMore
attribute [local go_sem] max2_int min2_int max_two min_two max_three min_three max_four min_four   -- for this text's walks alone
set_option linter.unusedVariables false
set_option linter.unusedSimpArgs false

/-! ### levels_take: function 19 -/
def levels_take.l0 : Nat → Int → List (S32) → Int → Int → Option ((List (S32)) × Bool)
  | 0, _, _, _, _ => none
  | k + 1, x2, x8, x19, x20 => if x20 < x19 then (if 0 ≤ x20 then (if x20 < (x8.length : Int) then (levels_take.l0 k x2 (x8.set (x20 : Int).toNat (⟨(⟨(rd_T32 x8 x20).f0.f0, (rd_T32 x8 x20).f0.f1, (rd_T32 x8 x20).f0.f2⟩ : S30), wrap64 (((rd_T32 x8 x20).f1) - x2), (rd_T32 x8 x20).f2, (rd_T32 x8 x20).f3⟩ : S32)) x19 (wrap64 (x20 + 1))) else (none)) else (none)) else (some (x8, true))
def levels_take.f (k : Nat) (l0 : List (S32)) (a1 : Int) (a2 : Int) : Option ((List (S32)) × Bool) := (levels_fill.f k l0 a1).bind fun t178 => ((levels_holds.f t178 a2).bind fun t181 => (if t181 = true then (levels_take.l0 k a2 t178 (t178.length : Int) 0) else (some (t178, false))))
theorem levels_take.mono_l : ∀ k, (∀ y0 y1 y2 y3, LeO (levels_take.l0 k y0 y1 y2 y3) (levels_take.l0 (k + 1) y0 y1 y2 y3))
  | 0 => fun _ _ _ _ r h => by simp [levels_take.l0] at h
  | k + 1 => by
    have ih0 := levels_take.mono_l k
    · intro y0 y1 y2 y3
      unfold levels_take.l0
      repeat' first
      | (with_reducible exact ih0 _ _ _ _)
      | (with_reducible exact levels_fill.mono _ _ _)
      | (with_reducible exact LeO.refl _)
      | (with_reducible exact LeO.none _)
      | (with_reducible refine LeO.ite ?_ ?_)
      | (with_reducible refine LeO.bind ?_ (fun _ => ?_))
      | exact ih0 _ _ _ _
      | exact levels_fill.mono _ _ _
      | exact LeO.none _
      | refine LeO.ite ?_ ?_
      | refine LeO.bind ?_ (fun _ => ?_)
theorem levels_take.mono : ∀ a0 a1 a2 k, LeO (levels_take.f k a0 a1 a2) (levels_take.f (k + 1) a0 a1 a2) := by
  intro a0 a1 a2 k
  have ih0 := levels_take.mono_l k
  unfold levels_take.f
  repeat' first
      | (with_reducible exact ih0 _ _ _ _)
      | (with_reducible exact levels_fill.mono _ _ _)
      | (with_reducible exact LeO.refl _)
      | (with_reducible exact LeO.none _)
      | (with_reducible refine LeO.ite ?_ ?_)
      | (with_reducible refine LeO.bind ?_ (fun _ => ?_))
      | exact ih0 _ _ _ _
      | exact levels_fill.mono _ _ _
      | exact LeO.none _
      | refine LeO.ite ?_ ?_
      | refine LeO.bind ?_ (fun _ => ?_)
set_option maxHeartbeats 8000000 in
set_option maxRecDepth 100000 in
theorem levels_take.calls (k : Nat) (A0 : Option Addr) (c0 : Nat) (l0 : List (S32)) (a1 : Int) (a2 : Int) (r1 : List (S32)) (r2 : Bool) (w : World) (hr0 : Kd.C k32 w A0 l0.length l0) (hc0 : l0.length ≤ c0) (h : levels_take.f k l0 a1 a2 = some (r1, r2)) :
  Calls Try.prog 19 #[.slice A0 l0.length c0, .int .u64 a1, .int .i64 a2] w fun e w' => ∃ v0_ : Value, e = .returned (.tuple #[v0_, .bool r2]) ∧ Kd.R k32 32 w' w.heap.size (fun _ => True) v0_ r1 ∧ Below w.heap.size w w' := by
 have HR0 := Aside0.mk hr0
 have HC0 := Aside0.mk hc0
 clear hr0 hc0
 have HB := Aside0.mk (Below.refl w.heap.size w)
 have H : ((levels_fill.f k l0 a1).bind fun t178 => ((levels_holds.f t178 a2).bind fun t181 => (if t181 = true then (levels_take.l0 k a2 t178 (t178.length : Int) 0) else (some (t178, false))))) = some (r1, r2) := h
 clear h
 have H0_ := bo_ H; clear H; obtain ⟨t178, A4, H⟩ := H0_
 replace H : ((levels_holds.f t178 a2).bind fun t181 => (if t181 = true then (levels_take.l0 k a2 t178 (t178.length : Int) 0) else (some (t178, false)))) = some (r1, r2) := H
 have H0_ := bo_ H; clear H; obtain ⟨t181, A5, H⟩ := H0_
 replace H : (if t181 = true then (levels_take.l0 k a2 t178 (t178.length : Int) 0) else (some (t178, false))) = some (r1, r2) := H
 by_cases c6 : t181 = true
 ·subst c6
  rw [if_pos rfl] at H
  try dsimp only at H
  have H' := Aside0.mk H
  clear H
  go_enter Try.func19, Try.ntmps19
  go_wp2_with (first | ((with_reducible refine gate_callee (f := 34) rfl ?_); refine goesA_ (some 12) Try.func34 #[.slice A0 l0.length c0, .int .u64 a1] ?_; (with_reducible refine (levels_fill.calls k _ _ l0 a1 t178 _ ?side1 ?side2 A4.out).mono ?_); (case side1 => exact ch_ HR0); (case side2 => exact HC0.out); rintro e w7 ⟨v179, rfl, ho0, hb⟩; refine ⟨_, rfl, ?_⟩; have HO180 := Aside0.mk (Kd.R_lower ho0 (below_size (hq_ HB))); replace HB := bs_ w hb; clear hb; (try clear ho0); obtain ⟨Ao8, co8, eo8⟩ := Kd.R_slice HO180.out; subst eo8) | ((with_reducible refine gate_callee (f := 35) rfl ?_); refine goesA_ (some 15) Try.func35 #[.slice Ao8 t178.length co8, .int .i64 a2] ?_; (with_reducible refine (levels_holds.calls _ _ t178 a2 true _ ?side1 ?side2 A5.out).mono ?_); (case side1 => exact cr_ HO180); (case side2 => exact (Kd.R_reads' HO180.out).2.1); rintro e w9 ⟨rfl, hb⟩; refine ⟨_, rfl, ?_⟩; replace HO180 := rb_ HO180 hb; replace HB := bs_ w hb; clear hb))
  go_loopg [20] k (fun kq v20 w' => ∃ (x8_1 : List (S32)) (x20_1 : Int), v20 = .int .i64 x20_1 ∧ Aside0 (levels_take.l0 kq a2 x8_1 (t178.length : Int) x20_1 = some (r1, r2)) ∧ Aside0 (kq ≤ k) ∧ Aside0 (Kd.R k32 32 w' w.heap.size (fun _ => True) (.slice Ao8 t178.length co8) x8_1) ∧ Aside0 (Below w.heap.size w w'))
  case atStart => exact ⟨(t178), (0), rf_, H', ⟨Nat.le_refl _⟩, ⟨rs_ HO180⟩, bw_⟩
  case round =>
   clear H'
   try clear c6
   obtain ⟨x8_1, x20_1, rfl, HA, HK1, HO_8, HB⟩ := hrel
   have hl8_1 := (Kd.R_reads' HO_8.out).1
   rw [hl8_1] at HO_8
   (try simp only [hl8_1])
   cases gk with
   | zero => exact absurd HA.out (by simp [levels_take.l0])
   | succ k1 =>
    have H := HA.out
    clear HA
    simp only [levels_take.l0] at H
    by_cases c10 : x20_1 < (t178.length : Int)
    ·rw [if_pos c10] at H
     have c10b0 : decide (x20_1 < (t178.length : Int)) = true := decide_eq_true c10
     clear c10
     by_cases c11 : 0 ≤ x20_1
     rotate_left
     ·rw [if_neg c11] at H; exact absurd H (by simp)
     rw [if_pos c11] at H
     have c11b0 : decide (0 ≤ x20_1) = true := decide_eq_true c11
     clear c11
     by_cases c12 : x20_1 < (x8_1.length : Int)
     rotate_left
     ·rw [if_neg c12] at H; exact absurd H (by simp)
     rw [if_pos c12] at H
     have c12b0 : decide (x20_1 < (x8_1.length : Int)) = true := decide_eq_true c12
     clear c12
     obtain ⟨y183, hy183⟩ : ∃ y_ : List (S32), y_ = (x8_1.set (x20_1 : Int).toNat (⟨(⟨(rd_T32 x8_1 x20_1).f0.f0, (rd_T32 x8_1 x20_1).f0.f1, (rd_T32 x8_1 x20_1).f0.f2⟩ : S30), wrap64 (((rd_T32 x8_1 x20_1).f1) - a2), (rd_T32 x8_1 x20_1).f2, (rd_T32 x8_1 x20_1).f3⟩ : S32)) := ⟨_, rfl⟩
     replace H : (levels_take.l0 k1 a2 y183 (t178.length : Int) (wrap64 (x20_1 + 1))) = some (r1, r2) := by first | (rw [hy183]; with_reducible exact H) | (have H2_ := (Option.bind_some _ _).symm.trans H; rw [hy183]; with_reducible exact H2_) | (have H2_ := (Option.bind_some _ _).symm.trans H; with_reducible exact H2_) | with_reducible exact H | (rw [hy183]; exact H) | exact H
     have Ny183 := Aside0.mk hy183
     clear hy183
     have H' := Aside0.mk H
     clear H
     have p182 : 0 ≤ (x20_1 : Int) := of_decide_eq_true (by first | (with_reducible assumption) | assumption)
     have q182 : x20_1 < (x8_1.length : Int) := of_decide_eq_true (by first | (with_reducible assumption) | assumption)
     obtain ⟨ad182, e182, hx182_0, hx182_1, hx182_2, hx182_3, hx182_4, hx182_5⟩ := at_T32 (Kd.R_reads' HO_8.out).2.2 x20_1 p182 q182
     cases e182
     replace p182 := eq_true p182
     replace q182 := eq_true q182
     have p13 : 0 ≤ (x20_1 : Int) := of_decide_eq_true (by first | (with_reducible assumption) | assumption)
     have q13 : (x20_1 : Int) < ((x8_1.length : Int) : Int) := of_decide_eq_true (by first | (with_reducible assumption) | assumption)
     obtain ⟨go13, co13, eo13, gb13, gl13, cl13, HG13⟩ := Kd.R_form HO_8.out (by omega)
     (first | cases eo13 | (injection eo13 with ea_ en_ ec_; (first | subst ea_ | (injection ea_ with ea_; subst ea_)); subst ec_; clear en_))
     have GB13 := Aside0.mk gb13
     have GG13 := Aside0.mk HG13
     clear gb13 gl13 HG13
     (first | simp only [add_plain] at hx182_0 | skip)
     (first | simp only [add_plain] at hx182_1 | skip)
     (first | simp only [add_plain] at hx182_2 | skip)
     (first | simp only [add_plain] at hx182_3 | skip)
     (first | simp only [add_plain] at hx182_4 | skip)
     (first | simp only [add_plain] at hx182_5 | skip)
     obtain ⟨ce13, hcl13, hM13, hcc13, hfr13⟩ := Kd.R_elem HO_8.out z32 (x20_1 : Int) p13 q13
     obtain rfl := k32_openM hM13
     have hx13_0 : wr.cell? ⟨go13, (x20_1 : Int).toNat * 6, none⟩ = some (.int .i64 ((rd_T32 x8_1 x20_1).f0.f0)) := hcc13 0 _ rfl
     have hx13_1 : wr.cell? ⟨go13, (x20_1 : Int).toNat * 6 + 1, none⟩ = some (.int .i64 ((rd_T32 x8_1 x20_1).f0.f1)) := hcc13 1 _ rfl
     have hx13_2 : wr.cell? ⟨go13, (x20_1 : Int).toNat * 6 + 2, none⟩ = some (.int .i64 ((rd_T32 x8_1 x20_1).f0.f2)) := hcc13 2 _ rfl
     have hx13_3 : wr.cell? ⟨go13, (x20_1 : Int).toNat * 6 + 3, none⟩ = some (.int .i64 ((rd_T32 x8_1 x20_1).f1)) := hcc13 3 _ rfl
     have hx13_4 : wr.cell? ⟨go13, (x20_1 : Int).toNat * 6 + 4, none⟩ = some (.int .i64 ((rd_T32 x8_1 x20_1).f2)) := hcc13 4 _ rfl
     have hx13_5 : wr.cell? ⟨go13, (x20_1 : Int).toNat * 6 + 5, none⟩ = some (.int .u64 ((rd_T32 x8_1 x20_1).f3)) := hcc13 5 _ rfl
     have hf13_0 : wr.frozen? ⟨go13, (x20_1 : Int).toNat * 6, none⟩ = false := hfr13 0
     have hf13_1 : wr.frozen? ⟨go13, (x20_1 : Int).toNat * 6 + 1, none⟩ = false := hfr13 1
     have hf13_2 : wr.frozen? ⟨go13, (x20_1 : Int).toNat * 6 + 2, none⟩ = false := hfr13 2
     have hf13_3 : wr.frozen? ⟨go13, (x20_1 : Int).toNat * 6 + 3, none⟩ = false := hfr13 3
     have hf13_4 : wr.frozen? ⟨go13, (x20_1 : Int).toNat * 6 + 4, none⟩ = false := hfr13 4
     have hf13_5 : wr.frozen? ⟨go13, (x20_1 : Int).toNat * 6 + 5, none⟩ = false := hfr13 5
     clear hcl13 hcc13 hfr13 hM13
     replace p13 := eq_true p13
     replace q13 := eq_true q13
     have HX14 := Aside0.mk (show Kd.R k32 32 wr w.heap.size (fun _ => True) (.slice (some ⟨go13, 0, none⟩) x8_1.length co8) x8_1 from (rs_ HO_8))
     obtain ⟨ce14, hcl14, hM14, hcc14, hfr14⟩ := Kd.R_elem HX14.out z32 (x20_1 : Int) (of_decide_eq_true (by first | (with_reducible assumption) | assumption)) (by have h_ : (x20_1 : Int) < ((x8_1.length : Int) : Int) := of_decide_eq_true (by first | (with_reducible assumption) | assumption); first | exact h_ | (have e_ := (Kd.R_reads' HO_8.out).1; omega) | simpa using h_)
     obtain rfl := k32_openM hM14
     have HP14 := Kd.R_seg HX14.out (x20_1 : Int) (of_decide_eq_true (by first | (with_reducible assumption) | assumption)) (by have h_ : (x20_1 : Int) < ((x8_1.length : Int) : Int) := of_decide_eq_true (by first | (with_reducible assumption) | assumption); first | exact h_ | (have e_ := (Kd.R_reads' HO_8.out).1; omega) | simpa using h_) (seg := [.int .i64 (wrap64 (((rd_T32 x8_1 x20_1).f1) - a2))]) (j := 3) hcl14 hcc14 (show 4 ≤ 6 from by decide) (x' := (⟨(⟨(rd_T32 x8_1 x20_1).f0.f0, (rd_T32 x8_1 x20_1).f0.f1, (rd_T32 x8_1 x20_1).f0.f2⟩ : S30), wrap64 (((rd_T32 x8_1 x20_1).f1) - a2), (rd_T32 x8_1 x20_1).f2, (rd_T32 x8_1 x20_1).f3⟩ : S32)) (k32_mkM _ _ _ (⟨(⟨(rd_T32 x8_1 x20_1).f0.f0, (rd_T32 x8_1 x20_1).f0.f1, (rd_T32 x8_1 x20_1).f0.f2⟩ : S30), wrap64 (((rd_T32 x8_1 x20_1).f1) - a2), (rd_T32 x8_1 x20_1).f2, (rd_T32 x8_1 x20_1).f3⟩ : S32) ) (fun _ hk => hk)
     have hx14_3 := hcc14 3 _ rfl
     (try simp only [show (k32).sz = 6 from rfl, Nat.mul_one, Nat.add_zero] at hx14_3)
     have hf14_3 := hfr14 3
     (try simp only [show (k32).sz = 6 from rfl, Nat.mul_one, Nat.add_zero] at hf14_3)
     clear hcl14 hcc14 hfr14 hM14
     go_wp2_with (first | ((with_reducible refine gate_store (t := 2) (p := 31) rfl ?_); refine store_event (t := 2) (p := 31) (v := ?vo_w15) (w1 := (wr.setCell ⟨go13, (x20_1 : Int).toNat * 6 + 3, none⟩ (.int .i64 (wrap64 (((rd_T32 x8_1 x20_1).f1) - a2))))) ?hg ?ho ?hn ?hr ?_; (case ho => rfl); (case hg => rfl); (case hn => rfl); (case hr => first | (go_simp; done) | (go_simp; rfl)); intro w15 hw; have hg : wr.grownBy w15 (some go13) := (by rw [hw]; exact HP14.2); have hp_ : Kd.R k32 32 w15 w.heap.size (fun _ => True) (.slice (some ⟨go13, 0, none⟩) x8_1.length co8) y183 := (by rw [hw, Ny183.out]; exact HP14.1); clear HP14; replace HO_8 := Aside0.mk (hp_); replace HB := Aside0.mk ((by rw [hw]; exact below_set (HB.out) GB13.out : Below w.heap.size w w15)); clear hg hw hp_))
     (try simp only [← hl8_1])
     go_roundg k1
     case measure => have := HK1.out; omega
     case rel => exact ⟨(y183), (wrap64 (x20_1 + 1)), rf_, H', ⟨by have := HK1.out; omega⟩, ⟨by (try simp only [hl8_1]); (with_reducible repeat (first | apply Kd.R_alloc | apply Kd.R_drewN | apply Kd.R_drew)); exact HO_8.out⟩, bw_⟩
    ·rw [if_neg c10] at H
     have c10b0 : decide (x20_1 < (t178.length : Int)) = false := decide_eq_false c10
     (try rw [hl8_1] at c10b0)
     clear c10
     simp only [Option.some.injEq, Prod.mk.injEq] at H
     obtain ⟨rfl, rfl⟩ := H
     go_wp2
     go_ret2
     exact ⟨_, by first | rfl | (simp [errW_none, errW_some] <;> rfl) | (simp [*, errW_none, errW_some] <;> rfl), by (with_reducible repeat (first | apply Kd.R_alloc | apply Kd.R_drewN | apply Kd.R_drew)); exact HO_8.out, by repeat (first | (with_reducible first | exact HB.out | apply below_alloc | apply pw_below_drewN | apply below_drew1) | exact HB.out)⟩
 ·replace c6 := Bool.eq_false_iff.mpr c6
  subst c6
  replace H : (some (t178, false)) = some (r1, r2) := by rw [if_neg (show ¬ (false = true) by decide)] at H; exact H
  simp only [Option.some.injEq, Prod.mk.injEq] at H
  obtain ⟨rfl, rfl⟩ := H
  go_enter Try.func19, Try.ntmps19
  go_wp2_with (first | ((with_reducible refine gate_callee (f := 34) rfl ?_); refine goesA_ (some 12) Try.func34 #[.slice A0 l0.length c0, .int .u64 a1] ?_; (with_reducible refine (levels_fill.calls k _ _ l0 a1 t178 _ ?side1 ?side2 A4.out).mono ?_); (case side1 => exact ch_ HR0); (case side2 => exact HC0.out); rintro e w16 ⟨v179, rfl, ho0, hb⟩; refine ⟨_, rfl, ?_⟩; have HO180 := Aside0.mk (Kd.R_lower ho0 (below_size (hq_ HB))); replace HB := bs_ w hb; clear hb; (try clear ho0); obtain ⟨Ao17, co17, eo17⟩ := Kd.R_slice HO180.out; subst eo17) | ((with_reducible refine gate_callee (f := 35) rfl ?_); refine goesA_ (some 15) Try.func35 #[.slice Ao17 t178.length co17, .int .i64 a2] ?_; (with_reducible refine (levels_holds.calls _ _ t178 a2 false _ ?side1 ?side2 A5.out).mono ?_); (case side1 => exact cr_ HO180); (case side2 => exact (Kd.R_reads' HO180.out).2.1); rintro e w18 ⟨rfl, hb⟩; refine ⟨_, rfl, ?_⟩; replace HO180 := rb_ HO180 hb; replace HB := bs_ w hb; clear hb))
  go_ret2
  exact ⟨_, by first | rfl | (simp [errW_none, errW_some] <;> rfl) | (simp [*, errW_none, errW_some] <;> rfl), by (with_reducible repeat (first | apply Kd.R_alloc | apply Kd.R_drewN | apply Kd.R_drew)); exact HO180.out, by repeat (first | (with_reducible first | exact HB.out | apply below_alloc | apply pw_below_drewN | apply below_drew1) | exact HB.out)⟩

end Go.Proofs.Ytiifhbaabnpkeaa.X
