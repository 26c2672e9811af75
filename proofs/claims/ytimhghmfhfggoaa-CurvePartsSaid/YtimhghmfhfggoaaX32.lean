-- written by xprint.py, a program of this session over the kit's print
import Derived.Test.YtimhghmfhfggoaaX0
import Derived.Test.YtimhghmfhfggoaaX28
import Derived.Test.YtimhghmfhfggoaaX30
import Derived.Test.YtimhghmfhfggoaaX31
namespace Go.Proofs.Ytimhghmfhfggoaa.X
open Go.RowKit Go.Proofs.YtimhghmfhfggoaaW.PrintWords Go.Proofs.YtimhghmfhfggoaaW.PrintLast Go.Proofs.YtimhghmfhfggoaaW.PrintMore
attribute [local go_sem] max2_int min2_int max_two min_two max_three min_three max_four min_four   -- for this text's walks alone
set_option linter.unusedVariables false
set_option linter.unusedSimpArgs false

def levels_take.l0 : Nat → Int → List (S51) → Int → Int → Option ((List (S51)) × Bool)
  | 0, _, _, _, _ => none
  | k + 1, x2, x8, x19, x20 => if x20 < x19 then (if 0 ≤ x20 then (if x20 < (x8.length : Int) then (levels_take.l0 k x2 (x8.set (x20 : Int).toNat (⟨(⟨(rd_T51 x8 x20).f0.f0, (rd_T51 x8 x20).f0.f1, (rd_T51 x8 x20).f0.f2⟩ : S49), wrap64 (((rd_T51 x8 x20).f1) - x2), (rd_T51 x8 x20).f2, (rd_T51 x8 x20).f3⟩ : S51)) x19 (wrap64 (x20 + 1))) else (none)) else (none)) else (some (x8, true))
def levels_take.f (k : Nat) (l0 : List (S51)) (a1 : Int) (a2 : Int) : Option ((List (S51)) × Bool) := (levels_fill.f k l0 a1).bind fun t280 => ((levels_holds.f t280 a2).bind fun t283 => (if t283 = true then (levels_take.l0 k a2 t280 (t280.length : Int) 0) else (some (t280, false))))
set_option maxHeartbeats 8000000 in
set_option maxRecDepth 100000 in
theorem levels_take.calls (k : Nat) (A0 : Option Addr) (c0 : Nat) (l0 : List (S51)) (a1 : Int) (a2 : Int) (r1 : List (S51)) (r2 : Bool) (w : World) (hr0 : Kd.C k51 w A0 l0.length l0) (hc0 : l0.length ≤ c0) (h : levels_take.f k l0 a1 a2 = some (r1, r2)) :
  Calls Try.prog 56 #[.slice A0 l0.length c0, .int .u64 a1, .int .i64 a2] w fun e w' => ∃ v0_ : Value, e = .returned (.tuple #[v0_, .bool r2]) ∧ Kd.R k51 51 w' w.heap.size (fun _ => True) v0_ r1 ∧ Below w.heap.size w w' := by
 have HR0 := Aside0.mk hr0
 have HC0 := Aside0.mk hc0
 clear hr0 hc0
 have HB := Aside0.mk (Below.refl w.heap.size w)
 have H : ((levels_fill.f k l0 a1).bind fun t280 => ((levels_holds.f t280 a2).bind fun t283 => (if t283 = true then (levels_take.l0 k a2 t280 (t280.length : Int) 0) else (some (t280, false))))) = some (r1, r2) := h
 clear h
 have H0_ := bo_ H; clear H; obtain ⟨t280, A4, H⟩ := H0_
 replace H : ((levels_holds.f t280 a2).bind fun t283 => (if t283 = true then (levels_take.l0 k a2 t280 (t280.length : Int) 0) else (some (t280, false)))) = some (r1, r2) := H
 have H0_ := bo_ H; clear H; obtain ⟨t283, A5, H⟩ := H0_
 replace H : (if t283 = true then (levels_take.l0 k a2 t280 (t280.length : Int) 0) else (some (t280, false))) = some (r1, r2) := H
 by_cases c6 : t283 = true
 ·subst c6
  rw [if_pos rfl] at H
  try dsimp only at H
  have H' := Aside0.mk H
  clear H
  go_enter Try.func56, Try.ntmps56
  go_wp2_with (first | ((with_reducible refine gate_callee (f := 71) rfl ?_); refine goesA_ (some 12) Try.func71 #[.slice A0 l0.length c0, .int .u64 a1] ?_; (with_reducible refine (levels_fill.calls k _ _ l0 a1 t280 _ ?side1 ?side2 A4.out).mono ?_); (case side1 => exact ch_ HR0); (case side2 => exact HC0.out); rintro e w7 ⟨v281, rfl, ho0, hb⟩; refine ⟨_, rfl, ?_⟩; have HO282 := Aside0.mk (Kd.R_lower ho0 (below_size (hq_ HB))); replace HB := bs_ w hb; clear hb; (try clear ho0); obtain ⟨Ao8, co8, eo8⟩ := Kd.R_slice HO282.out; subst eo8) | ((with_reducible refine gate_callee (f := 72) rfl ?_); refine goesA_ (some 15) Try.func72 #[.slice Ao8 t280.length co8, .int .i64 a2] ?_; (with_reducible refine (levels_holds.calls _ _ t280 a2 true _ ?side1 ?side2 A5.out).mono ?_); (case side1 => exact cr_ HO282); (case side2 => exact (Kd.R_reads' HO282.out).2.1); rintro e w9 ⟨rfl, hb⟩; refine ⟨_, rfl, ?_⟩; replace HO282 := rb_ HO282 hb; replace HB := bs_ w hb; clear hb))
  (try simp only [Act.put, List.setIfInBounds_toArray, List.set_cons_zero, List.set_cons_succ])
  go_loopg [20] k (fun kq v20 w' => ∃ (x8_1 : List (S51)) (x20_1 : Int), v20 = .int .i64 x20_1 ∧ Aside0 (levels_take.l0 kq a2 x8_1 (t280.length : Int) x20_1 = some (r1, r2)) ∧ Aside0 (kq ≤ k) ∧ Aside0 (Kd.R k51 51 w' w.heap.size (fun _ => True) (.slice Ao8 t280.length co8) x8_1) ∧ Aside0 (Below w.heap.size w w'))
  case atStart => exact ⟨(t280), (0), rf_, H', ⟨Nat.le_refl _⟩, ⟨rs_ HO282⟩, bw_⟩
  case round =>
   clear H'
   try clear c6
   obtain ⟨x8_1, x20_1, rfl, HA, HK1, HO_8, HB⟩ := hrel
   have hl8_1 := (Kd.R_reads' HO_8.out).1
   rw [hl8_1] at HO_8
   (try simp only [hl8_1])
   cases gk with
   | zero => exact absurd HA.out (by simp [levels_take.l0])
   | succ k1 =>
    have H := HA.out
    clear HA
    simp only [levels_take.l0] at H
    by_cases c10 : x20_1 < (t280.length : Int)
    ·rw [if_pos c10] at H
     have c10b0 : decide (x20_1 < (t280.length : Int)) = true := decide_eq_true c10
     clear c10
     by_cases c11 : 0 ≤ x20_1
     rotate_left
     ·rw [if_neg c11] at H; exact absurd H (by simp)
     rw [if_pos c11] at H
     have c11b0 : decide (0 ≤ x20_1) = true := decide_eq_true c11
     clear c11
     by_cases c12 : x20_1 < (x8_1.length : Int)
     rotate_left
     ·rw [if_neg c12] at H; exact absurd H (by simp)
     rw [if_pos c12] at H
     have c12b0 : decide (x20_1 < (x8_1.length : Int)) = true := decide_eq_true c12
     clear c12
     obtain ⟨y285, hy285⟩ : ∃ y_ : List (S51), y_ = (x8_1.set (x20_1 : Int).toNat (⟨(⟨(rd_T51 x8_1 x20_1).f0.f0, (rd_T51 x8_1 x20_1).f0.f1, (rd_T51 x8_1 x20_1).f0.f2⟩ : S49), wrap64 (((rd_T51 x8_1 x20_1).f1) - a2), (rd_T51 x8_1 x20_1).f2, (rd_T51 x8_1 x20_1).f3⟩ : S51)) := ⟨_, rfl⟩
     replace H : (levels_take.l0 k1 a2 y285 (t280.length : Int) (wrap64 (x20_1 + 1))) = some (r1, r2) := by first | (rw [hy285]; with_reducible exact H) | (have H2_ := (Option.bind_some _ _).symm.trans H; rw [hy285]; with_reducible exact H2_) | (have H2_ := (Option.bind_some _ _).symm.trans H; with_reducible exact H2_) | with_reducible exact H | (rw [hy285]; exact H) | exact H
     have Ny285 := Aside0.mk hy285
     clear hy285
     have H' := Aside0.mk H
     clear H
     have p284 : 0 ≤ (x20_1 : Int) := of_decide_eq_true (by first | (with_reducible assumption) | assumption)
     have q284 : x20_1 < (x8_1.length : Int) := of_decide_eq_true (by first | (with_reducible assumption) | assumption)
     obtain ⟨ad284, e284, hx284_0, hx284_1, hx284_2, hx284_3, hx284_4, hx284_5⟩ := at_T51 (Kd.R_reads' HO_8.out).2.2 x20_1 p284 q284
     cases e284
     replace p284 := eq_true p284
     replace q284 := eq_true q284
     have p13 : 0 ≤ (x20_1 : Int) := of_decide_eq_true (by first | (with_reducible assumption) | assumption)
     have q13 : (x20_1 : Int) < ((x8_1.length : Int) : Int) := of_decide_eq_true (by first | (with_reducible assumption) | assumption)
     obtain ⟨go13, co13, eo13, gb13, gl13, cl13, HG13⟩ := Kd.R_form HO_8.out (by omega)
     (first | cases eo13 | (injection eo13 with ea_ en_ ec_; (first | subst ea_ | (injection ea_ with ea_; subst ea_)); subst ec_; clear en_))
     have GB13 := Aside0.mk gb13
     have GG13 := Aside0.mk HG13
     clear gb13 gl13 HG13
     (first | simp only [add_plain] at hx284_0 | skip)
     (first | simp only [add_plain] at hx284_1 | skip)
     (first | simp only [add_plain] at hx284_2 | skip)
     (first | simp only [add_plain] at hx284_3 | skip)
     (first | simp only [add_plain] at hx284_4 | skip)
     (first | simp only [add_plain] at hx284_5 | skip)
     obtain ⟨ce13, hcl13, hM13, hcc13, hfr13⟩ := Kd.R_elem HO_8.out z51 (x20_1 : Int) p13 q13
     obtain rfl := k51_openM hM13
     have hx13_0 : wr.cell? ⟨go13, (x20_1 : Int).toNat * 6, none⟩ = some (.int .i64 ((rd_T51 x8_1 x20_1).f0.f0)) := hcc13 0 _ rfl
     have hx13_1 : wr.cell? ⟨go13, (x20_1 : Int).toNat * 6 + 1, none⟩ = some (.int .i64 ((rd_T51 x8_1 x20_1).f0.f1)) := hcc13 1 _ rfl
     have hx13_2 : wr.cell? ⟨go13, (x20_1 : Int).toNat * 6 + 2, none⟩ = some (.int .i64 ((rd_T51 x8_1 x20_1).f0.f2)) := hcc13 2 _ rfl
     have hx13_3 : wr.cell? ⟨go13, (x20_1 : Int).toNat * 6 + 3, none⟩ = some (.int .i64 ((rd_T51 x8_1 x20_1).f1)) := hcc13 3 _ rfl
     have hx13_4 : wr.cell? ⟨go13, (x20_1 : Int).toNat * 6 + 4, none⟩ = some (.int .i64 ((rd_T51 x8_1 x20_1).f2)) := hcc13 4 _ rfl
     have hx13_5 : wr.cell? ⟨go13, (x20_1 : Int).toNat * 6 + 5, none⟩ = some (.int .u64 ((rd_T51 x8_1 x20_1).f3)) := hcc13 5 _ rfl
     have hf13_0 : wr.frozen? ⟨go13, (x20_1 : Int).toNat * 6, none⟩ = false := hfr13 0
     have hf13_1 : wr.frozen? ⟨go13, (x20_1 : Int).toNat * 6 + 1, none⟩ = false := hfr13 1
     have hf13_2 : wr.frozen? ⟨go13, (x20_1 : Int).toNat * 6 + 2, none⟩ = false := hfr13 2
     have hf13_3 : wr.frozen? ⟨go13, (x20_1 : Int).toNat * 6 + 3, none⟩ = false := hfr13 3
     have hf13_4 : wr.frozen? ⟨go13, (x20_1 : Int).toNat * 6 + 4, none⟩ = false := hfr13 4
     have hf13_5 : wr.frozen? ⟨go13, (x20_1 : Int).toNat * 6 + 5, none⟩ = false := hfr13 5
     clear hcl13 hcc13 hfr13 hM13
     replace p13 := eq_true p13
     replace q13 := eq_true q13
     have HX14 := Aside0.mk (show Kd.R k51 51 wr w.heap.size (fun _ => True) (.slice (some ⟨go13, 0, none⟩) x8_1.length co8) x8_1 from (rs_ HO_8))
     obtain ⟨ce14, hcl14, hM14, hcc14, hfr14⟩ := Kd.R_elem HX14.out z51 (x20_1 : Int) (of_decide_eq_true (by first | (with_reducible assumption) | assumption)) (by have h_ : (x20_1 : Int) < ((x8_1.length : Int) : Int) := of_decide_eq_true (by first | (with_reducible assumption) | assumption); first | exact h_ | (have e_ := (Kd.R_reads' HO_8.out).1; omega) | simpa using h_)
     obtain rfl := k51_openM hM14
     have HP14 := Kd.R_seg HX14.out (x20_1 : Int) (of_decide_eq_true (by first | (with_reducible assumption) | assumption)) (by have h_ : (x20_1 : Int) < ((x8_1.length : Int) : Int) := of_decide_eq_true (by first | (with_reducible assumption) | assumption); first | exact h_ | (have e_ := (Kd.R_reads' HO_8.out).1; omega) | simpa using h_) (seg := [.int .i64 (wrap64 (((rd_T51 x8_1 x20_1).f1) - a2))]) (j := 3) hcl14 hcc14 (show 4 ≤ 6 from by decide) (x' := (⟨(⟨(rd_T51 x8_1 x20_1).f0.f0, (rd_T51 x8_1 x20_1).f0.f1, (rd_T51 x8_1 x20_1).f0.f2⟩ : S49), wrap64 (((rd_T51 x8_1 x20_1).f1) - a2), (rd_T51 x8_1 x20_1).f2, (rd_T51 x8_1 x20_1).f3⟩ : S51)) (k51_mkM _ _ _ (⟨(⟨(rd_T51 x8_1 x20_1).f0.f0, (rd_T51 x8_1 x20_1).f0.f1, (rd_T51 x8_1 x20_1).f0.f2⟩ : S49), wrap64 (((rd_T51 x8_1 x20_1).f1) - a2), (rd_T51 x8_1 x20_1).f2, (rd_T51 x8_1 x20_1).f3⟩ : S51) ) (fun _ hk => hk)
     have hx14_3 := hcc14 3 _ rfl
     (try simp only [show (k51).sz = 6 from rfl, Nat.mul_one, Nat.add_zero] at hx14_3)
     have hf14_3 := hfr14 3
     (try simp only [show (k51).sz = 6 from rfl, Nat.mul_one, Nat.add_zero] at hf14_3)
     clear hcl14 hcc14 hfr14 hM14
     go_wp2_with (first | ((with_reducible refine gate_store (t := 2) (p := 31) rfl ?_); refine store_event (t := 2) (p := 31) (v := ?vo_w15) (w1 := (wr.setCell ⟨go13, (x20_1 : Int).toNat * 6 + 3, none⟩ (.int .i64 (wrap64 (((rd_T51 x8_1 x20_1).f1) - a2))))) ?hg ?ho ?hn ?hr ?_; (case ho => rfl); (case hg => rfl); (case hn => rfl); (case hr => first | (go_simp; done) | (go_simp; rfl)); intro w15 hw; have hg : wr.grownBy w15 (some go13) := (by rw [hw]; exact HP14.2); have hp_ : Kd.R k51 51 w15 w.heap.size (fun _ => True) (.slice (some ⟨go13, 0, none⟩) x8_1.length co8) y285 := (by rw [hw, Ny285.out]; exact HP14.1); clear HP14; replace HO_8 := Aside0.mk (hp_); replace HB := Aside0.mk ((by rw [hw]; exact below_set (HB.out) GB13.out : Below w.heap.size w w15)); clear hg hw hp_))
     (try simp only [← hl8_1])
     go_roundg k1
     case measure => have := HK1.out; omega
     case rel => exact ⟨(y285), (wrap64 (x20_1 + 1)), rf_, H', ⟨by have := HK1.out; omega⟩, ⟨by (try simp only [hl8_1]); (with_reducible repeat (first | apply Kd.R_alloc | apply Kd.R_drewN | apply Kd.R_drew)); exact HO_8.out⟩, bw_⟩
    ·rw [if_neg c10] at H
     have c10b0 : decide (x20_1 < (t280.length : Int)) = false := decide_eq_false c10
     (try rw [hl8_1] at c10b0)
     clear c10
     simp only [Option.some.injEq, Prod.mk.injEq] at H
     obtain ⟨rfl, rfl⟩ := H
     go_wp2
     go_ret2
     exact ⟨_, by first | rfl | (simp [errW_none, errW_some] <;> rfl) | (simp [*, errW_none, errW_some] <;> rfl), by (with_reducible repeat (first | apply Kd.R_alloc | apply Kd.R_drewN | apply Kd.R_drew)); exact HO_8.out, by repeat (first | (with_reducible first | exact HB.out | apply below_alloc | apply pw_below_drewN | apply below_drew1) | exact HB.out)⟩
 ·replace c6 := Bool.eq_false_iff.mpr c6
  subst c6
  replace H : (some (t280, false)) = some (r1, r2) := by rw [if_neg (show ¬ (false = true) by decide)] at H; exact H
  simp only [Option.some.injEq, Prod.mk.injEq] at H
  obtain ⟨rfl, rfl⟩ := H
  go_enter Try.func56, Try.ntmps56
  go_wp2_with (first | ((with_reducible refine gate_callee (f := 71) rfl ?_); refine goesA_ (some 12) Try.func71 #[.slice A0 l0.length c0, .int .u64 a1] ?_; (with_reducible refine (levels_fill.calls k _ _ l0 a1 t280 _ ?side1 ?side2 A4.out).mono ?_); (case side1 => exact ch_ HR0); (case side2 => exact HC0.out); rintro e w16 ⟨v281, rfl, ho0, hb⟩; refine ⟨_, rfl, ?_⟩; have HO282 := Aside0.mk (Kd.R_lower ho0 (below_size (hq_ HB))); replace HB := bs_ w hb; clear hb; (try clear ho0); obtain ⟨Ao17, co17, eo17⟩ := Kd.R_slice HO282.out; subst eo17) | ((with_reducible refine gate_callee (f := 72) rfl ?_); refine goesA_ (some 15) Try.func72 #[.slice Ao17 t280.length co17, .int .i64 a2] ?_; (with_reducible refine (levels_holds.calls _ _ t280 a2 false _ ?side1 ?side2 A5.out).mono ?_); (case side1 => exact cr_ HO282); (case side2 => exact (Kd.R_reads' HO282.out).2.1); rintro e w18 ⟨rfl, hb⟩; refine ⟨_, rfl, ?_⟩; replace HO282 := rb_ HO282 hb; replace HB := bs_ w hb; clear hb))
  go_ret2
  exact ⟨_, by first | rfl | (simp [errW_none, errW_some] <;> rfl) | (simp [*, errW_none, errW_some] <;> rfl), by (with_reducible repeat (first | apply Kd.R_alloc | apply Kd.R_drewN | apply Kd.R_drew)); exact HO282.out, by repeat (first | (with_reducible first | exact HB.out | apply below_alloc | apply pw_below_drewN | apply below_drew1) | exact HB.out)⟩

def levels_Take.f (k : Nat) (l0 : List (S51)) (a1 : Int) (a2 : Int) : Option ((List (S51)) × Bool × Int) := (levels_check.f k l0 (([a2] : List Int))).bind fun t289 => (if t289 = 0 then ((levels_take.f k l0 a1 a2).bind fun bt290 => (some (bt290.1, bt290.2, 0))) else (some (([] : List (S51)), false, t289)))
set_option maxHeartbeats 8000000 in
set_option maxRecDepth 100000 in
theorem levels_Take.calls (k : Nat) (A0 : Option Addr) (c0 : Nat) (l0 : List (S51)) (a1 : Int) (a2 : Int) (r1 : List (S51)) (r2 : Bool) (r3 : Int) (w : World) (hr0 : Kd.C k51 w A0 l0.length l0) (hc0 : l0.length ≤ c0) (h : levels_Take.f k l0 a1 a2 = some (r1, r2, r3)) :
  Calls Try.prog 40 #[.slice A0 l0.length c0, .int .u64 a1, .int .i64 a2] w fun e w' => ∃ v0_ : Value, e = .returned (.tuple #[v0_, .bool r2, .int .i64 r3]) ∧ Kd.R k51 51 w' w.heap.size (fun _ => True) v0_ r1 ∧ Below w.heap.size w w' := by
 have HR0 := Aside0.mk hr0
 have HC0 := Aside0.mk hc0
 clear hr0 hc0
 have HB := Aside0.mk (Below.refl w.heap.size w)
 have H : ((levels_check.f k l0 (([a2] : List Int))).bind fun t289 => (if t289 = 0 then ((levels_take.f k l0 a1 a2).bind fun bt290 => (some (bt290.1, bt290.2, 0))) else (some (([] : List (S51)), false, t289)))) = some (r1, r2, r3) := h
 clear h
 obtain ⟨y286, hy286⟩ : ∃ y_ : List Int, y_ = (([a2] : List Int)) := ⟨_, rfl⟩
 replace H : ((levels_check.f k l0 y286).bind fun t289 => (if t289 = 0 then ((levels_take.f k l0 a1 a2).bind fun bt290 => (some (bt290.1, bt290.2, 0))) else (some (([] : List (S51)), false, t289)))) = some (r1, r2, r3) := by first | (rw [hy286]; with_reducible exact H) | (have H2_ := (Option.bind_some _ _).symm.trans H; rw [hy286]; with_reducible exact H2_) | (have H2_ := (Option.bind_some _ _).symm.trans H; with_reducible exact H2_) | with_reducible exact H | (rw [hy286]; exact H) | exact H
 have Ny286 := Aside0.mk hy286
 clear hy286
 have H0_ := bo_ H; clear H; obtain ⟨t289, A4, H⟩ := H0_
 replace H : (if t289 = 0 then ((levels_take.f k l0 a1 a2).bind fun bt290 => (some (bt290.1, bt290.2, 0))) else (some (([] : List (S51)), false, t289))) = some (r1, r2, r3) := H
 by_cases c5 : t289 = 0
 ·rw [if_pos c5] at H
  have c5b0 : (t289 == 0) = true := beq_iff_eq.mpr c5
  have c5b1 : (t289 != 0) = false := bne_eq_false_iff_eq.mpr c5
  clear c5
  have H0_ := bo_ H; clear H; obtain ⟨⟨t290, t291⟩, A6, H⟩ := H0_
  replace H : (some (t290, t291, 0)) = some (r1, r2, r3) := H
  simp only [Option.some.injEq, Prod.mk.injEq] at H
  obtain ⟨rfl, rfl, rfl⟩ := H
  go_enter Try.func40, Try.ntmps40
  go_wp2_with (first | ((with_reducible refine gate_dst (N := 14) rfl ?_); refine Kd.R_lit (Kd.int .i64) _ 2 ?hg (N := 14) ?hd (xs := ([a2] : List Int)) (inner := [.int .i64 a2]) (ok := fun _ => True) (okp := fun _ => True) ?hr ?hp (fun _ hk => hk) trivial (Below.refl _ _) (Nat.le_refl _) (by simp) ?_; (case hd => rfl); (case hg => rfl); (case hr => first | (go_simp; done) | (go_simp; rfl)); (case hp => exact (Reps.one (show Kd.M (Kd.int .i64) _ _ _ a2 [.int .i64 a2] from rfl) (Reps.none _ _))); intro v287 w7 ho8 hb hg_ hnew_; clear hg_ hnew_; (first | rw [← Ny286.out] at ho8 | (simp only [Int.reduceToNat] at ho8; rw [← Ny286.out] at ho8)); have HO288 := Aside0.mk (Kd.R_lower ho8 (below_size (hq_ HB))); replace HB := bs_ w hb; clear hb ho8; obtain ⟨Ao9, co9, eo9⟩ := Kd.R_slice HO288.out; subst eo9) | ((with_reducible refine gate_callee (f := 55) rfl ?_); refine goesA_ (some 15) Try.func55 #[.slice A0 l0.length c0, .slice Ao9 y286.length co9] ?_; (with_reducible refine (levels_check.calls k _ _ l0 _ _ y286 t289 _ ?side1 ?side2 ?side3 ?side4 A4.out).mono ?_); (case side1 => exact cs_ HR0 HB); (case side2 => exact HC0.out); (case side3 => exact cr_ HO288); (case side4 => exact (Kd.R_reads' HO288.out).2.1); rintro e w10 ⟨rfl, hb⟩; refine ⟨_, rfl, ?_⟩; replace HO288 := rb_ HO288 hb; replace HB := bs_ w hb; clear hb) | ((with_reducible refine gate_callee (f := 56) rfl ?_); refine goesA_ (some 23) Try.func56 #[.slice A0 l0.length c0, .int .u64 a1, .int .i64 a2] ?_; (with_reducible refine (levels_take.calls k _ _ l0 a1 a2 t290 t291 _ ?side1 ?side2 A6.out).mono ?_); (case side1 => exact cs_ HR0 HB); (case side2 => exact HC0.out); rintro e w11 ⟨v292, rfl, ho0, hb⟩; refine ⟨_, rfl, ?_⟩; have HO293 := Aside0.mk (Kd.R_lower ho0 (below_size (hq_ HB))); replace HO288 := rb_ HO288 hb; replace HB := bs_ w hb; (try clear hb); (try clear hb2); (try clear hk); (try clear hi); (try clear ho0)))
  go_ret3
  exact ⟨_, by first | rfl | (simp [errW_none, errW_some] <;> rfl) | (simp [*, errW_none, errW_some] <;> rfl), by (with_reducible repeat (first | apply Kd.R_alloc | apply Kd.R_drewN | apply Kd.R_drew)); exact HO293.out, by repeat (first | (with_reducible first | exact HB.out | apply below_alloc | apply pw_below_drewN | apply below_drew1) | exact HB.out)⟩
 ·rw [if_neg c5] at H
  have c5b0 : (t289 == 0) = false := beq_eq_false_iff_ne.mpr c5
  have c5b1 : (t289 != 0) = true := bne_iff_ne.mpr c5
  simp only [Option.some.injEq, Prod.mk.injEq] at H
  obtain ⟨rfl, rfl, rfl⟩ := H
  go_enter Try.func40, Try.ntmps40
  go_wp2_with (first | ((with_reducible refine gate_dst (N := 14) rfl ?_); refine Kd.R_lit (Kd.int .i64) _ 2 ?hg (N := 14) ?hd (xs := ([a2] : List Int)) (inner := [.int .i64 a2]) (ok := fun _ => True) (okp := fun _ => True) ?hr ?hp (fun _ hk => hk) trivial (Below.refl _ _) (Nat.le_refl _) (by simp) ?_; (case hd => rfl); (case hg => rfl); (case hr => first | (go_simp; done) | (go_simp; rfl)); (case hp => exact (Reps.one (show Kd.M (Kd.int .i64) _ _ _ a2 [.int .i64 a2] from rfl) (Reps.none _ _))); intro v287 w12 ho13 hb hg_ hnew_; clear hg_ hnew_; (first | rw [← Ny286.out] at ho13 | (simp only [Int.reduceToNat] at ho13; rw [← Ny286.out] at ho13)); have HO288 := Aside0.mk (Kd.R_lower ho13 (below_size (hq_ HB))); replace HB := bs_ w hb; clear hb ho13; obtain ⟨Ao14, co14, eo14⟩ := Kd.R_slice HO288.out; subst eo14) | ((with_reducible refine gate_callee (f := 55) rfl ?_); refine goesA_ (some 15) Try.func55 #[.slice A0 l0.length c0, .slice Ao14 y286.length co14] ?_; (with_reducible refine (levels_check.calls k _ _ l0 _ _ y286 t289 _ ?side1 ?side2 ?side3 ?side4 A4.out).mono ?_); (case side1 => exact cs_ HR0 HB); (case side2 => exact HC0.out); (case side3 => exact cr_ HO288); (case side4 => exact (Kd.R_reads' HO288.out).2.1); rintro e w15 ⟨rfl, hb⟩; refine ⟨_, rfl, ?_⟩; replace HO288 := rb_ HO288 hb; replace HB := bs_ w hb; clear hb))
  go_ret3
  exact ⟨_, by first | rfl | (simp [errW_none, errW_some] <;> rfl) | (simp [*, errW_none, errW_some] <;> rfl), by first | exact Kd.R_nil _ _ _ _ _ | exact Kd.N_nil _ _ _ _ _ | exact Kd.V_nil _ _ _ _ _ | exact Kd.Q_nil _ _ _ _ _ | exact Kd.S_nil _ _ _ _ _, by repeat (first | (with_reducible first | exact HB.out | apply below_alloc | apply pw_below_drewN | apply below_drew1) | exact HB.out)⟩

end Go.Proofs.Ytimhghmfhfggoaa.X
