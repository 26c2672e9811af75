-- written by xprint.py, a program of this session over the kit's print
import Derived.Test.YtfdpcnkghmmobaaX0
import Derived.Test.YtfdpcnkghmmobaaX22
import Derived.Test.YtfdpcnkghmmobaaX26
namespace Go.Proofs.Ytfdpcnkghmmobaa.X
open Go.RowKit Go.Proofs.YtfdpcnkghmmobaaW.PrintWords Go.Proofs.YtfdpcnkghmmobaaW.PrintLast Go.Proofs.YtfdpcnkghmmobaaW.PrintMore
attribute [local go_sem] max2_int min2_int max_two min_two max_three min_three max_four min_four   -- for this text's walks alone
set_option linter.unusedVariables false
set_option linter.unusedSimpArgs false

/-! ### spigotref04_taken: function 52 -/
def spigotref04_taken.l0 : Nat → Int → List (S63) → Int → Option ((List (S63)) × Bool)
  | 0, _, _, _ => none
  | k + 1, x2, x8, x9 => if x9 < (x8.length : Int) then (if 0 ≤ x9 then (spigotref04_taken.l0 k x2 (x8.set (x9 : Int).toNat (⟨(⟨(rd_T63 x8 x9).f0.f0, (rd_T63 x8 x9).f0.f1, (rd_T63 x8 x9).f0.f2⟩ : S61), wrap64 (((rd_T63 x8 x9).f1) - x2), (rd_T63 x8 x9).f2, (rd_T63 x8 x9).f3⟩ : S63)) (wrap64 (x9 + 1))) else (none)) else (some (x8, true))
def spigotref04_taken.f (k : Nat) (l0 : List (S63)) (a1 : Int) (a2 : Int) : Option ((List (S63)) × Bool) := (spigotref04_Filled.f k l0 a1).bind fun t277 => ((spigotref04_Least.f k t277).bind fun t280 => (if t280 < a2 then (some (t277, false)) else (spigotref04_taken.l0 k a2 t277 0)))
theorem spigotref04_taken.mono_l : ∀ k, (∀ y0 y1 y2, LeO (spigotref04_taken.l0 k y0 y1 y2) (spigotref04_taken.l0 (k + 1) y0 y1 y2))
  | 0 => fun _ _ _ r h => by simp [spigotref04_taken.l0] at h
  | k + 1 => by
    have ih0 := spigotref04_taken.mono_l k
    · intro y0 y1 y2
      unfold spigotref04_taken.l0
      repeat' first
      | (with_reducible exact ih0 _ _ _)
      | (with_reducible exact spigotref04_Filled.mono _ _ _)
      | (with_reducible exact spigotref04_Least.mono _ _)
      | (with_reducible exact LeO.refl _)
      | (with_reducible exact LeO.none _)
      | (with_reducible refine LeO.ite ?_ ?_)
      | (with_reducible refine LeO.bind ?_ (fun _ => ?_))
      | exact ih0 _ _ _
      | exact spigotref04_Filled.mono _ _ _
      | exact spigotref04_Least.mono _ _
      | exact LeO.none _
      | refine LeO.ite ?_ ?_
      | refine LeO.bind ?_ (fun _ => ?_)
theorem spigotref04_taken.mono : ∀ a0 a1 a2 k, LeO (spigotref04_taken.f k a0 a1 a2) (spigotref04_taken.f (k + 1) a0 a1 a2) := by
  intro a0 a1 a2 k
  have ih0 := spigotref04_taken.mono_l k
  unfold spigotref04_taken.f
  repeat' first
      | (with_reducible exact ih0 _ _ _)
      | (with_reducible exact spigotref04_Filled.mono _ _ _)
      | (with_reducible exact spigotref04_Least.mono _ _)
      | (with_reducible exact LeO.refl _)
      | (with_reducible exact LeO.none _)
      | (with_reducible refine LeO.ite ?_ ?_)
      | (with_reducible refine LeO.bind ?_ (fun _ => ?_))
      | exact ih0 _ _ _
      | exact spigotref04_Filled.mono _ _ _
      | exact spigotref04_Least.mono _ _
      | exact LeO.none _
      | refine LeO.ite ?_ ?_
      | refine LeO.bind ?_ (fun _ => ?_)
set_option maxHeartbeats 8000000 in
set_option maxRecDepth 100000 in
theorem spigotref04_taken.calls (k : Nat) (A0 : Option Addr) (c0 : Nat) (l0 : List (S63)) (a1 : Int) (a2 : Int) (r1 : List (S63)) (r2 : Bool) (w : World) (hr0 : Kd.C k63 w A0 l0.length l0) (hc0 : l0.length ≤ c0) (h : spigotref04_taken.f k l0 a1 a2 = some (r1, r2)) :
  Calls Try.prog 52 #[.slice A0 l0.length c0, .int .u64 a1, .int .i64 a2] w fun e w' => ∃ v0_ : Value, e = .returned (.tuple #[v0_, .bool r2]) ∧ Kd.R k63 63 w' w.heap.size (fun _ => True) v0_ r1 ∧ Below w.heap.size w w' := by
 have HR0 := Aside0.mk hr0
 have HC0 := Aside0.mk hc0
 clear hr0 hc0
 have HB := Aside0.mk (Below.refl w.heap.size w)
 have H : ((spigotref04_Filled.f k l0 a1).bind fun t277 => ((spigotref04_Least.f k t277).bind fun t280 => (if t280 < a2 then (some (t277, false)) else (spigotref04_taken.l0 k a2 t277 0)))) = some (r1, r2) := h
 clear h
 have H0_ := bo_ H; clear H; obtain ⟨t277, A4, H⟩ := H0_
 replace H : ((spigotref04_Least.f k t277).bind fun t280 => (if t280 < a2 then (some (t277, false)) else (spigotref04_taken.l0 k a2 t277 0))) = some (r1, r2) := H
 have H0_ := bo_ H; clear H; obtain ⟨t280, A5, H⟩ := H0_
 replace H : (if t280 < a2 then (some (t277, false)) else (spigotref04_taken.l0 k a2 t277 0)) = some (r1, r2) := H
 by_cases c6 : t280 < a2
 ·rw [if_pos c6] at H
  have c6b0 : decide (t280 < a2) = true := decide_eq_true c6
  clear c6
  simp only [Option.some.injEq, Prod.mk.injEq] at H
  obtain ⟨rfl, rfl⟩ := H
  go_enter Try.func52, Try.ntmps52
  go_wp2_with (first | ((with_reducible refine gate_callee (f := 69) rfl ?_); refine goesA_ (some 12) Try.func69 #[.slice A0 l0.length c0, .int .u64 a1] ?_; (with_reducible refine (spigotref04_Filled.calls k _ _ l0 a1 t277 _ ?side1 ?side2 A4.out).mono ?_); (case side1 => exact ch_ HR0); (case side2 => exact HC0.out); rintro e w7 ⟨v278, rfl, ho0, hb⟩; refine ⟨_, rfl, ?_⟩; have HO279 := Aside0.mk (Kd.R_lower ho0 (below_size (hq_ HB))); replace HB := bs_ w hb; clear hb; (try clear ho0); obtain ⟨Ao8, co8, eo8⟩ := Kd.R_slice HO279.out; subst eo8) | ((with_reducible refine gate_callee (f := 70) rfl ?_); refine goesA_ (some 14) Try.func70 #[.slice Ao8 t277.length co8] ?_; (with_reducible refine (spigotref04_Least.calls k _ _ t277 t280 _ ?side1 ?side2 A5.out).mono ?_); (case side1 => exact cr_ HO279); (case side2 => exact (Kd.R_reads' HO279.out).2.1); rintro e w9 ⟨rfl, hb⟩; refine ⟨_, rfl, ?_⟩; replace HO279 := rb_ HO279 hb; replace HB := bs_ w hb; clear hb))
  go_ret2
  exact ⟨_, by first | rfl | (simp [errW_none, errW_some] <;> rfl) | (simp [*, errW_none, errW_some] <;> rfl), by (with_reducible repeat (first | apply Kd.R_alloc | apply Kd.R_drewN | apply Kd.R_drew)); exact HO279.out, by repeat (first | (with_reducible first | exact HB.out | apply below_alloc | apply pw_below_drewN | apply below_drew1) | exact HB.out)⟩
 ·rw [if_neg c6] at H
  have c6b0 : decide (t280 < a2) = false := decide_eq_false c6
  clear c6
  have H' := Aside0.mk H
  clear H
  go_enter Try.func52, Try.ntmps52
  go_wp2_with (first | ((with_reducible refine gate_callee (f := 69) rfl ?_); refine goesA_ (some 12) Try.func69 #[.slice A0 l0.length c0, .int .u64 a1] ?_; (with_reducible refine (spigotref04_Filled.calls k _ _ l0 a1 t277 _ ?side1 ?side2 A4.out).mono ?_); (case side1 => exact ch_ HR0); (case side2 => exact HC0.out); rintro e w10 ⟨v278, rfl, ho0, hb⟩; refine ⟨_, rfl, ?_⟩; have HO279 := Aside0.mk (Kd.R_lower ho0 (below_size (hq_ HB))); replace HB := bs_ w hb; clear hb; (try clear ho0); obtain ⟨Ao11, co11, eo11⟩ := Kd.R_slice HO279.out; subst eo11) | ((with_reducible refine gate_callee (f := 70) rfl ?_); refine goesA_ (some 14) Try.func70 #[.slice Ao11 t277.length co11] ?_; (with_reducible refine (spigotref04_Least.calls k _ _ t277 t280 _ ?side1 ?side2 A5.out).mono ?_); (case side1 => exact cr_ HO279); (case side2 => exact (Kd.R_reads' HO279.out).2.1); rintro e w12 ⟨rfl, hb⟩; refine ⟨_, rfl, ?_⟩; replace HO279 := rb_ HO279 hb; replace HB := bs_ w hb; clear hb))
  go_loopg [9] k (fun kq v9 w' => ∃ (x8_1 : List (S63)) (x9_1 : Int), v9 = .int .i64 x9_1 ∧ Aside0 (spigotref04_taken.l0 kq a2 x8_1 x9_1 = some (r1, r2)) ∧ Aside0 (kq ≤ k) ∧ Aside0 (Kd.R k63 63 w' w.heap.size (fun _ => True) (.slice Ao11 t277.length co11) x8_1) ∧ Aside0 (Below w.heap.size w w'))
  case atStart => exact ⟨(t277), (0), rf_, H', ⟨Nat.le_refl _⟩, ⟨rs_ HO279⟩, bw_⟩
  case round =>
   clear H'
   try clear c6
   try clear c6b0
   obtain ⟨x8_1, x9_1, rfl, HA, HK1, HO_8, HB⟩ := hrel
   have hl8_1 := (Kd.R_reads' HO_8.out).1
   rw [hl8_1] at HO_8
   (try simp only [hl8_1])
   cases gk with
   | zero => exact absurd HA.out (by simp [spigotref04_taken.l0])
   | succ k1 =>
    have H := HA.out
    clear HA
    simp only [spigotref04_taken.l0] at H
    by_cases c13 : x9_1 < (x8_1.length : Int)
    ·rw [if_pos c13] at H
     have c13b0 : decide (x9_1 < (x8_1.length : Int)) = true := decide_eq_true c13
     clear c13
     by_cases c14 : 0 ≤ x9_1
     rotate_left
     ·rw [if_neg c14] at H; exact absurd H (by simp)
     rw [if_pos c14] at H
     have c14b0 : decide (0 ≤ x9_1) = true := decide_eq_true c14
     clear c14
     obtain ⟨y282, hy282⟩ : ∃ y_ : List (S63), y_ = (x8_1.set (x9_1 : Int).toNat (⟨(⟨(rd_T63 x8_1 x9_1).f0.f0, (rd_T63 x8_1 x9_1).f0.f1, (rd_T63 x8_1 x9_1).f0.f2⟩ : S61), wrap64 (((rd_T63 x8_1 x9_1).f1) - a2), (rd_T63 x8_1 x9_1).f2, (rd_T63 x8_1 x9_1).f3⟩ : S63)) := ⟨_, rfl⟩
     replace H : (spigotref04_taken.l0 k1 a2 y282 (wrap64 (x9_1 + 1))) = some (r1, r2) := by first | (rw [hy282]; with_reducible exact H) | (have H2_ := (Option.bind_some _ _).symm.trans H; rw [hy282]; with_reducible exact H2_) | (have H2_ := (Option.bind_some _ _).symm.trans H; with_reducible exact H2_) | with_reducible exact H | (rw [hy282]; exact H) | exact H
     have Ny282 := Aside0.mk hy282
     clear hy282
     have H' := Aside0.mk H
     clear H
     have p281 : 0 ≤ (x9_1 : Int) := of_decide_eq_true (by first | (with_reducible assumption) | assumption)
     have q281 : x9_1 < (x8_1.length : Int) := of_decide_eq_true (by first | (with_reducible assumption) | assumption)
     obtain ⟨ad281, e281, hx281_0, hx281_1, hx281_2, hx281_3, hx281_4, hx281_5⟩ := at_T63 (Kd.R_reads' HO_8.out).2.2 x9_1 p281 q281
     cases e281
     replace p281 := eq_true p281
     replace q281 := eq_true q281
     have p15 : 0 ≤ (x9_1 : Int) := of_decide_eq_true (by first | (with_reducible assumption) | assumption)
     have q15 : (x9_1 : Int) < ((x8_1.length : Int) : Int) := of_decide_eq_true (by first | (with_reducible assumption) | assumption)
     obtain ⟨go15, co15, eo15, gb15, gl15, cl15, HG15⟩ := Kd.R_form HO_8.out (by omega)
     (first | cases eo15 | (injection eo15 with ea_ en_ ec_; (first | subst ea_ | (injection ea_ with ea_; subst ea_)); subst ec_; clear en_))
     have GB15 := Aside0.mk gb15
     have GG15 := Aside0.mk HG15
     clear gb15 gl15 HG15
     (first | simp only [add_plain] at hx281_0 | skip)
     (first | simp only [add_plain] at hx281_1 | skip)
     (first | simp only [add_plain] at hx281_2 | skip)
     (first | simp only [add_plain] at hx281_3 | skip)
     (first | simp only [add_plain] at hx281_4 | skip)
     (first | simp only [add_plain] at hx281_5 | skip)
     obtain ⟨ce15, hcl15, hM15, hcc15, hfr15⟩ := Kd.R_elem HO_8.out z63 (x9_1 : Int) p15 q15
     obtain rfl := k63_openM hM15
     have hx15_0 : wr.cell? ⟨go15, (x9_1 : Int).toNat * 6, none⟩ = some (.int .i64 ((rd_T63 x8_1 x9_1).f0.f0)) := hcc15 0 _ rfl
     have hx15_1 : wr.cell? ⟨go15, (x9_1 : Int).toNat * 6 + 1, none⟩ = some (.int .i64 ((rd_T63 x8_1 x9_1).f0.f1)) := hcc15 1 _ rfl
     have hx15_2 : wr.cell? ⟨go15, (x9_1 : Int).toNat * 6 + 2, none⟩ = some (.int .i64 ((rd_T63 x8_1 x9_1).f0.f2)) := hcc15 2 _ rfl
     have hx15_3 : wr.cell? ⟨go15, (x9_1 : Int).toNat * 6 + 3, none⟩ = some (.int .i64 ((rd_T63 x8_1 x9_1).f1)) := hcc15 3 _ rfl
     have hx15_4 : wr.cell? ⟨go15, (x9_1 : Int).toNat * 6 + 4, none⟩ = some (.int .i64 ((rd_T63 x8_1 x9_1).f2)) := hcc15 4 _ rfl
     have hx15_5 : wr.cell? ⟨go15, (x9_1 : Int).toNat * 6 + 5, none⟩ = some (.int .u64 ((rd_T63 x8_1 x9_1).f3)) := hcc15 5 _ rfl
     have hf15_0 : wr.frozen? ⟨go15, (x9_1 : Int).toNat * 6, none⟩ = false := hfr15 0
     have hf15_1 : wr.frozen? ⟨go15, (x9_1 : Int).toNat * 6 + 1, none⟩ = false := hfr15 1
     have hf15_2 : wr.frozen? ⟨go15, (x9_1 : Int).toNat * 6 + 2, none⟩ = false := hfr15 2
     have hf15_3 : wr.frozen? ⟨go15, (x9_1 : Int).toNat * 6 + 3, none⟩ = false := hfr15 3
     have hf15_4 : wr.frozen? ⟨go15, (x9_1 : Int).toNat * 6 + 4, none⟩ = false := hfr15 4
     have hf15_5 : wr.frozen? ⟨go15, (x9_1 : Int).toNat * 6 + 5, none⟩ = false := hfr15 5
     clear hcl15 hcc15 hfr15 hM15
     replace p15 := eq_true p15
     replace q15 := eq_true q15
     have HX16 := Aside0.mk (show Kd.R k63 63 wr w.heap.size (fun _ => True) (.slice (some ⟨go15, 0, none⟩) x8_1.length co11) x8_1 from (rs_ HO_8))
     obtain ⟨ce16, hcl16, hM16, hcc16, hfr16⟩ := Kd.R_elem HX16.out z63 (x9_1 : Int) (of_decide_eq_true (by first | (with_reducible assumption) | assumption)) (by have h_ : (x9_1 : Int) < ((x8_1.length : Int) : Int) := of_decide_eq_true (by first | (with_reducible assumption) | assumption); first | exact h_ | (have e_ := (Kd.R_reads' HO_8.out).1; omega) | simpa using h_)
     obtain rfl := k63_openM hM16
     have HP16 := Kd.R_seg HX16.out (x9_1 : Int) (of_decide_eq_true (by first | (with_reducible assumption) | assumption)) (by have h_ : (x9_1 : Int) < ((x8_1.length : Int) : Int) := of_decide_eq_true (by first | (with_reducible assumption) | assumption); first | exact h_ | (have e_ := (Kd.R_reads' HO_8.out).1; omega) | simpa using h_) (seg := [.int .i64 (wrap64 (((rd_T63 x8_1 x9_1).f1) - a2))]) (j := 3) hcl16 hcc16 (show 4 ≤ 6 from by decide) (x' := (⟨(⟨(rd_T63 x8_1 x9_1).f0.f0, (rd_T63 x8_1 x9_1).f0.f1, (rd_T63 x8_1 x9_1).f0.f2⟩ : S61), wrap64 (((rd_T63 x8_1 x9_1).f1) - a2), (rd_T63 x8_1 x9_1).f2, (rd_T63 x8_1 x9_1).f3⟩ : S63)) (k63_mkM _ _ _ (⟨(⟨(rd_T63 x8_1 x9_1).f0.f0, (rd_T63 x8_1 x9_1).f0.f1, (rd_T63 x8_1 x9_1).f0.f2⟩ : S61), wrap64 (((rd_T63 x8_1 x9_1).f1) - a2), (rd_T63 x8_1 x9_1).f2, (rd_T63 x8_1 x9_1).f3⟩ : S63) ) (fun _ hk => hk)
     have hx16_3 := hcc16 3 _ rfl
     (try simp only [show (k63).sz = 6 from rfl, Nat.mul_one, Nat.add_zero] at hx16_3)
     have hf16_3 := hfr16 3
     (try simp only [show (k63).sz = 6 from rfl, Nat.mul_one, Nat.add_zero] at hf16_3)
     clear hcl16 hcc16 hfr16 hM16
     go_wp2_with (first | ((with_reducible refine gate_store (t := 2) (p := 32) rfl ?_); refine store_event (t := 2) (p := 32) (v := ?vo_w17) (w1 := (wr.setCell ⟨go15, (x9_1 : Int).toNat * 6 + 3, none⟩ (.int .i64 (wrap64 (((rd_T63 x8_1 x9_1).f1) - a2))))) ?hg ?ho ?hn ?hr ?_; (case ho => rfl); (case hg => rfl); (case hn => rfl); (case hr => first | (go_simp; done) | (go_simp; rfl)); intro w17 hw; have hg : wr.grownBy w17 (some go15) := (by rw [hw]; exact HP16.2); have hp_ : Kd.R k63 63 w17 w.heap.size (fun _ => True) (.slice (some ⟨go15, 0, none⟩) x8_1.length co11) y282 := (by rw [hw, Ny282.out]; exact HP16.1); clear HP16; replace HO_8 := Aside0.mk (hp_); replace HB := Aside0.mk ((by rw [hw]; exact below_set (HB.out) GB15.out : Below w.heap.size w w17)); clear hg hw hp_))
     (try simp only [← hl8_1])
     go_roundg k1
     case measure => have := HK1.out; omega
     case rel => exact ⟨(y282), (wrap64 (x9_1 + 1)), rf_, H', ⟨by have := HK1.out; omega⟩, ⟨by (try simp only [hl8_1]); (with_reducible repeat (first | apply Kd.R_alloc | apply Kd.R_drewN | apply Kd.R_drew)); exact HO_8.out⟩, bw_⟩
    ·rw [if_neg c13] at H
     have c13b0 : decide (x9_1 < (x8_1.length : Int)) = false := decide_eq_false c13
     (try rw [hl8_1] at c13b0)
     clear c13
     simp only [Option.some.injEq, Prod.mk.injEq] at H
     obtain ⟨rfl, rfl⟩ := H
     go_wp2
     go_ret2
     exact ⟨_, by first | rfl | (simp [errW_none, errW_some] <;> rfl) | (simp [*, errW_none, errW_some] <;> rfl), by (with_reducible repeat (first | apply Kd.R_alloc | apply Kd.R_drewN | apply Kd.R_drew)); exact HO_8.out, by repeat (first | (with_reducible first | exact HB.out | apply below_alloc | apply pw_below_drewN | apply below_drew1) | exact HB.out)⟩

/-! ### spigotref04_Take: function 34 -/
def spigotref04_Take.f (k : Nat) (l0 : List (S63)) (a1 : Int) (a2 : Int) : Option ((List (S63)) × Bool × Int) := (spigotref04_asked.f k l0 a2).bind fun t283 => (if t283 = 0 then ((spigotref04_taken.f k l0 a1 a2).bind fun bt284 => (some (bt284.1, bt284.2, 0))) else ((spigotref04_asked.f k l0 a2).bind fun t288 => (some (([] : List (S63)), false, t288))))
theorem spigotref04_Take.mono : ∀ a0 a1 a2 k, LeO (spigotref04_Take.f k a0 a1 a2) (spigotref04_Take.f (k + 1) a0 a1 a2) := by
  intro a0 a1 a2 k
  unfold spigotref04_Take.f
  repeat' first
      | (with_reducible exact spigotref04_asked.mono _ _ _)
      | (with_reducible exact spigotref04_taken.mono _ _ _ _)
      | (with_reducible exact LeO.refl _)
      | (with_reducible exact LeO.none _)
      | (with_reducible refine LeO.ite ?_ ?_)
      | (with_reducible refine LeO.bind ?_ (fun _ => ?_))
      | exact spigotref04_asked.mono _ _ _
      | exact spigotref04_taken.mono _ _ _ _
      | exact LeO.none _
      | refine LeO.ite ?_ ?_
      | refine LeO.bind ?_ (fun _ => ?_)
set_option maxHeartbeats 8000000 in
set_option maxRecDepth 100000 in
theorem spigotref04_Take.calls (k : Nat) (A0 : Option Addr) (c0 : Nat) (l0 : List (S63)) (a1 : Int) (a2 : Int) (r1 : List (S63)) (r2 : Bool) (r3 : Int) (w : World) (hr0 : Kd.C k63 w A0 l0.length l0) (hc0 : l0.length ≤ c0) (h : spigotref04_Take.f k l0 a1 a2 = some (r1, r2, r3)) :
  Calls Try.prog 34 #[.slice A0 l0.length c0, .int .u64 a1, .int .i64 a2] w fun e w' => ∃ v0_ : Value, e = .returned (.tuple #[v0_, .bool r2, .int .i64 r3]) ∧ Kd.R k63 63 w' w.heap.size (fun _ => True) v0_ r1 ∧ Below w.heap.size w w' := by
 have HR0 := Aside0.mk hr0
 have HC0 := Aside0.mk hc0
 clear hr0 hc0
 have HB := Aside0.mk (Below.refl w.heap.size w)
 have H : ((spigotref04_asked.f k l0 a2).bind fun t283 => (if t283 = 0 then ((spigotref04_taken.f k l0 a1 a2).bind fun bt284 => (some (bt284.1, bt284.2, 0))) else ((spigotref04_asked.f k l0 a2).bind fun t288 => (some (([] : List (S63)), false, t288))))) = some (r1, r2, r3) := h
 clear h
 have H0_ := bo_ H; clear H; obtain ⟨t283, A4, H⟩ := H0_
 try dsimp only at H
 by_cases c5 : t283 = 0
 ·rw [if_pos c5] at H
  have c5b0 : (t283 == 0) = true := beq_iff_eq.mpr c5
  have c5b1 : (t283 != 0) = false := bne_eq_false_iff_eq.mpr c5
  clear c5
  have H0_ := bo_ H; clear H; obtain ⟨⟨t284, t285⟩, A6, H⟩ := H0_
  replace H : (some (t284, t285, 0)) = some (r1, r2, r3) := H
  simp only [Option.some.injEq, Prod.mk.injEq] at H
  obtain ⟨rfl, rfl, rfl⟩ := H
  go_enter Try.func34, Try.ntmps34
  go_wp2_with (first | ((with_reducible refine gate_callee (f := 51) rfl ?_); refine goesA_ (some 13) Try.func51 #[.slice A0 l0.length c0, .int .i64 a2] ?_; (with_reducible refine (spigotref04_asked.calls k _ _ l0 a2 t283 _ ?side1 ?side2 A4.out).mono ?_); (case side1 => exact ch_ HR0); (case side2 => exact HC0.out); rintro e w7 ⟨rfl, hb⟩; refine ⟨_, rfl, ?_⟩; replace HB := bs_ w hb; clear hb) | ((with_reducible refine gate_callee (f := 52) rfl ?_); refine goesA_ (some 22) Try.func52 #[.slice A0 l0.length c0, .int .u64 a1, .int .i64 a2] ?_; (with_reducible refine (spigotref04_taken.calls k _ _ l0 a1 a2 t284 t285 _ ?side1 ?side2 A6.out).mono ?_); (case side1 => exact cs_ HR0 HB); (case side2 => exact HC0.out); rintro e w8 ⟨v286, rfl, ho0, hb⟩; refine ⟨_, rfl, ?_⟩; have HO287 := Aside0.mk (Kd.R_lower ho0 (below_size (hq_ HB))); replace HB := bs_ w hb; clear hb; (try clear ho0)))
  go_ret3
  exact ⟨_, by first | rfl | (simp [errW_none, errW_some] <;> rfl) | (simp [*, errW_none, errW_some] <;> rfl), by (with_reducible repeat (first | apply Kd.R_alloc | apply Kd.R_drewN | apply Kd.R_drew)); exact HO287.out, by repeat (first | (with_reducible first | exact HB.out | apply below_alloc | apply pw_below_drewN | apply below_drew1) | exact HB.out)⟩
 ·rw [if_neg c5] at H
  have c5b0 : (t283 == 0) = false := beq_eq_false_iff_ne.mpr c5
  have c5b1 : (t283 != 0) = true := bne_iff_ne.mpr c5
  have H0_ := bo_ H; clear H; obtain ⟨t288, A9, H⟩ := H0_
  replace H : (some (([] : List (S63)), false, t288)) = some (r1, r2, r3) := H
  simp only [Option.some.injEq, Prod.mk.injEq] at H
  obtain ⟨rfl, rfl, rfl⟩ := H
  go_enter Try.func34, Try.ntmps34
  go_wp2_with (first | ((with_reducible refine gate_callee (f := 51) rfl ?_); refine goesA_ (some 13) Try.func51 #[.slice A0 l0.length c0, .int .i64 a2] ?_; (with_reducible refine (spigotref04_asked.calls k _ _ l0 a2 t283 _ ?side1 ?side2 A4.out).mono ?_); (case side1 => exact ch_ HR0); (case side2 => exact HC0.out); rintro e w10 ⟨rfl, hb⟩; refine ⟨_, rfl, ?_⟩; replace HB := bs_ w hb; clear hb) | ((with_reducible refine gate_callee (f := 51) rfl ?_); refine goesA_ (some 17) Try.func51 #[.slice A0 l0.length c0, .int .i64 a2] ?_; (with_reducible refine (spigotref04_asked.calls k _ _ l0 a2 t288 _ ?side1 ?side2 A9.out).mono ?_); (case side1 => exact cs_ HR0 HB); (case side2 => exact HC0.out); rintro e w11 ⟨rfl, hb⟩; refine ⟨_, rfl, ?_⟩; replace HB := bs_ w hb; clear hb))
  go_ret3
  exact ⟨_, by first | rfl | (simp [errW_none, errW_some] <;> rfl) | (simp [*, errW_none, errW_some] <;> rfl), by first | exact Kd.R_nil _ _ _ _ _ | exact Kd.N_nil _ _ _ _ _ | exact Kd.V_nil _ _ _ _ _ | exact Kd.Q_nil _ _ _ _ _ | exact Kd.S_nil _ _ _ _ _, by repeat (first | (with_reducible first | exact HB.out | apply below_alloc | apply pw_below_drewN | apply below_drew1) | exact HB.out)⟩

end Go.Proofs.Ytfdpcnkghmmobaa.X
