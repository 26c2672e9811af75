-- written by xprint.py, a program of this session over the kit's print
import Derived.Test.YtimhghmfhfggoaaX0
import Derived.Test.YtimhghmfhfggoaaX39
import Derived.Test.YtimhghmfhfggoaaX42
namespace Go.Proofs.Ytimhghmfhfggoaa.X
open Go.RowKit Go.Proofs.YtimhghmfhfggoaaW.PrintWords Go.Proofs.YtimhghmfhfggoaaW.PrintLast Go.Proofs.YtimhghmfhfggoaaW.PrintMore
attribute [local go_sem] max2_int min2_int max_two min_two max_three min_three max_four min_four   -- for this text's walks alone
set_option linter.unusedVariables false
set_option linter.unusedSimpArgs false

def spigotref04_taken.l0 : Nat → Int → List (S51) → Int → Option ((List (S51)) × Bool)
  | 0, _, _, _ => none
  | k + 1, x2, x8, x9 => if x9 < (x8.length : Int) then (if 0 ≤ x9 then (spigotref04_taken.l0 k x2 (x8.set (x9 : Int).toNat (⟨(⟨(rd_T51 x8 x9).f0.f0, (rd_T51 x8 x9).f0.f1, (rd_T51 x8 x9).f0.f2⟩ : S49), wrap64 (((rd_T51 x8 x9).f1) - x2), (rd_T51 x8 x9).f2, (rd_T51 x8 x9).f3⟩ : S51)) (wrap64 (x9 + 1))) else (none)) else (some (x8, true))
def spigotref04_taken.f (k : Nat) (l0 : List (S51)) (a1 : Int) (a2 : Int) : Option ((List (S51)) × Bool) := (spigotref04_Filled.f k l0 a1).bind fun t470 => ((spigotref04_Least.f k t470).bind fun t473 => (if t473 < a2 then (some (t470, false)) else (spigotref04_taken.l0 k a2 t470 0)))
set_option maxHeartbeats 8000000 in
set_option maxRecDepth 100000 in
theorem spigotref04_taken.calls (k : Nat) (A0 : Option Addr) (c0 : Nat) (l0 : List (S51)) (a1 : Int) (a2 : Int) (r1 : List (S51)) (r2 : Bool) (w : World) (hr0 : Kd.C k51 w A0 l0.length l0) (hc0 : l0.length ≤ c0) (h : spigotref04_taken.f k l0 a1 a2 = some (r1, r2)) :
  Calls Try.prog 60 #[.slice A0 l0.length c0, .int .u64 a1, .int .i64 a2] w fun e w' => ∃ v0_ : Value, e = .returned (.tuple #[v0_, .bool r2]) ∧ Kd.R k51 51 w' w.heap.size (fun _ => True) v0_ r1 ∧ Below w.heap.size w w' := by
 have HR0 := Aside0.mk hr0
 have HC0 := Aside0.mk hc0
 clear hr0 hc0
 have HB := Aside0.mk (Below.refl w.heap.size w)
 have H : ((spigotref04_Filled.f k l0 a1).bind fun t470 => ((spigotref04_Least.f k t470).bind fun t473 => (if t473 < a2 then (some (t470, false)) else (spigotref04_taken.l0 k a2 t470 0)))) = some (r1, r2) := h
 clear h
 have H0_ := bo_ H; clear H; obtain ⟨t470, A4, H⟩ := H0_
 replace H : ((spigotref04_Least.f k t470).bind fun t473 => (if t473 < a2 then (some (t470, false)) else (spigotref04_taken.l0 k a2 t470 0))) = some (r1, r2) := H
 have H0_ := bo_ H; clear H; obtain ⟨t473, A5, H⟩ := H0_
 replace H : (if t473 < a2 then (some (t470, false)) else (spigotref04_taken.l0 k a2 t470 0)) = some (r1, r2) := H
 by_cases c6 : t473 < a2
 ·rw [if_pos c6] at H
  have c6b0 : decide (t473 < a2) = true := decide_eq_true c6
  clear c6
  simp only [Option.some.injEq, Prod.mk.injEq] at H
  obtain ⟨rfl, rfl⟩ := H
  go_enter Try.func60, Try.ntmps60
  go_wp2_with (first | ((with_reducible refine gate_callee (f := 75) rfl ?_); refine goesA_ (some 12) Try.func75 #[.slice A0 l0.length c0, .int .u64 a1] ?_; (with_reducible refine (spigotref04_Filled.calls k _ _ l0 a1 t470 _ ?side1 ?side2 A4.out).mono ?_); (case side1 => exact ch_ HR0); (case side2 => exact HC0.out); rintro e w7 ⟨v471, rfl, ho0, hb⟩; refine ⟨_, rfl, ?_⟩; have HO472 := Aside0.mk (Kd.R_lower ho0 (below_size (hq_ HB))); replace HB := bs_ w hb; clear hb; (try clear ho0); obtain ⟨Ao8, co8, eo8⟩ := Kd.R_slice HO472.out; subst eo8) | ((with_reducible refine gate_callee (f := 76) rfl ?_); refine goesA_ (some 14) Try.func76 #[.slice Ao8 t470.length co8] ?_; (with_reducible refine (spigotref04_Least.calls k _ _ t470 t473 _ ?side1 ?side2 A5.out).mono ?_); (case side1 => exact cr_ HO472); (case side2 => exact (Kd.R_reads' HO472.out).2.1); rintro e w9 ⟨rfl, hb⟩; refine ⟨_, rfl, ?_⟩; replace HO472 := rb_ HO472 hb; replace HB := bs_ w hb; clear hb))
  go_ret2
  exact ⟨_, by first | rfl | (simp [errW_none, errW_some] <;> rfl) | (simp [*, errW_none, errW_some] <;> rfl), by (with_reducible repeat (first | apply Kd.R_alloc | apply Kd.R_drewN | apply Kd.R_drew)); exact HO472.out, by repeat (first | (with_reducible first | exact HB.out | apply below_alloc | apply pw_below_drewN | apply below_drew1) | exact HB.out)⟩
 ·rw [if_neg c6] at H
  have c6b0 : decide (t473 < a2) = false := decide_eq_false c6
  clear c6
  have H' := Aside0.mk H
  clear H
  go_enter Try.func60, Try.ntmps60
  go_wp2_with (first | ((with_reducible refine gate_callee (f := 75) rfl ?_); refine goesA_ (some 12) Try.func75 #[.slice A0 l0.length c0, .int .u64 a1] ?_; (with_reducible refine (spigotref04_Filled.calls k _ _ l0 a1 t470 _ ?side1 ?side2 A4.out).mono ?_); (case side1 => exact ch_ HR0); (case side2 => exact HC0.out); rintro e w10 ⟨v471, rfl, ho0, hb⟩; refine ⟨_, rfl, ?_⟩; have HO472 := Aside0.mk (Kd.R_lower ho0 (below_size (hq_ HB))); replace HB := bs_ w hb; clear hb; (try clear ho0); obtain ⟨Ao11, co11, eo11⟩ := Kd.R_slice HO472.out; subst eo11) | ((with_reducible refine gate_callee (f := 76) rfl ?_); refine goesA_ (some 14) Try.func76 #[.slice Ao11 t470.length co11] ?_; (with_reducible refine (spigotref04_Least.calls k _ _ t470 t473 _ ?side1 ?side2 A5.out).mono ?_); (case side1 => exact cr_ HO472); (case side2 => exact (Kd.R_reads' HO472.out).2.1); rintro e w12 ⟨rfl, hb⟩; refine ⟨_, rfl, ?_⟩; replace HO472 := rb_ HO472 hb; replace HB := bs_ w hb; clear hb))
  (try simp only [Act.put, List.setIfInBounds_toArray, List.set_cons_zero, List.set_cons_succ])
  go_loopg [9] k (fun kq v9 w' => ∃ (x8_1 : List (S51)) (x9_1 : Int), v9 = .int .i64 x9_1 ∧ Aside0 (spigotref04_taken.l0 kq a2 x8_1 x9_1 = some (r1, r2)) ∧ Aside0 (kq ≤ k) ∧ Aside0 (Kd.R k51 51 w' w.heap.size (fun _ => True) (.slice Ao11 t470.length co11) x8_1) ∧ Aside0 (Below w.heap.size w w'))
  case atStart => exact ⟨(t470), (0), rf_, H', ⟨Nat.le_refl _⟩, ⟨rs_ HO472⟩, bw_⟩
  case round =>
   clear H'
   try clear c6
   try clear c6b0
   obtain ⟨x8_1, x9_1, rfl, HA, HK1, HO_8, HB⟩ := hrel
   have hl8_1 := (Kd.R_reads' HO_8.out).1
   rw [hl8_1] at HO_8
   (try simp only [hl8_1])
   cases gk with
   | zero => exact absurd HA.out (by simp [spigotref04_taken.l0])
   | succ k1 =>
    have H := HA.out
    clear HA
    simp only [spigotref04_taken.l0] at H
    by_cases c13 : x9_1 < (x8_1.length : Int)
    ·rw [if_pos c13] at H
     have c13b0 : decide (x9_1 < (x8_1.length : Int)) = true := decide_eq_true c13
     clear c13
     by_cases c14 : 0 ≤ x9_1
     rotate_left
     ·rw [if_neg c14] at H; exact absurd H (by simp)
     rw [if_pos c14] at H
     have c14b0 : decide (0 ≤ x9_1) = true := decide_eq_true c14
     clear c14
     obtain ⟨y475, hy475⟩ : ∃ y_ : List (S51), y_ = (x8_1.set (x9_1 : Int).toNat (⟨(⟨(rd_T51 x8_1 x9_1).f0.f0, (rd_T51 x8_1 x9_1).f0.f1, (rd_T51 x8_1 x9_1).f0.f2⟩ : S49), wrap64 (((rd_T51 x8_1 x9_1).f1) - a2), (rd_T51 x8_1 x9_1).f2, (rd_T51 x8_1 x9_1).f3⟩ : S51)) := ⟨_, rfl⟩
     replace H : (spigotref04_taken.l0 k1 a2 y475 (wrap64 (x9_1 + 1))) = some (r1, r2) := by first | (rw [hy475]; with_reducible exact H) | (have H2_ := (Option.bind_some _ _).symm.trans H; rw [hy475]; with_reducible exact H2_) | (have H2_ := (Option.bind_some _ _).symm.trans H; with_reducible exact H2_) | with_reducible exact H | (rw [hy475]; exact H) | exact H
     have Ny475 := Aside0.mk hy475
     clear hy475
     have H' := Aside0.mk H
     clear H
     have p474 : 0 ≤ (x9_1 : Int) := of_decide_eq_true (by first | (with_reducible assumption) | assumption)
     have q474 : x9_1 < (x8_1.length : Int) := of_decide_eq_true (by first | (with_reducible assumption) | assumption)
     obtain ⟨ad474, e474, hx474_0, hx474_1, hx474_2, hx474_3, hx474_4, hx474_5⟩ := at_T51 (Kd.R_reads' HO_8.out).2.2 x9_1 p474 q474
     cases e474
     replace p474 := eq_true p474
     replace q474 := eq_true q474
     have p15 : 0 ≤ (x9_1 : Int) := of_decide_eq_true (by first | (with_reducible assumption) | assumption)
     have q15 : (x9_1 : Int) < ((x8_1.length : Int) : Int) := of_decide_eq_true (by first | (with_reducible assumption) | assumption)
     obtain ⟨go15, co15, eo15, gb15, gl15, cl15, HG15⟩ := Kd.R_form HO_8.out (by omega)
     (first | cases eo15 | (injection eo15 with ea_ en_ ec_; (first | subst ea_ | (injection ea_ with ea_; subst ea_)); subst ec_; clear en_))
     have GB15 := Aside0.mk gb15
     have GG15 := Aside0.mk HG15
     clear gb15 gl15 HG15
     (first | simp only [add_plain] at hx474_0 | skip)
     (first | simp only [add_plain] at hx474_1 | skip)
     (first | simp only [add_plain] at hx474_2 | skip)
     (first | simp only [add_plain] at hx474_3 | skip)
     (first | simp only [add_plain] at hx474_4 | skip)
     (first | simp only [add_plain] at hx474_5 | skip)
     obtain ⟨ce15, hcl15, hM15, hcc15, hfr15⟩ := Kd.R_elem HO_8.out z51 (x9_1 : Int) p15 q15
     obtain rfl := k51_openM hM15
     have hx15_0 : wr.cell? ⟨go15, (x9_1 : Int).toNat * 6, none⟩ = some (.int .i64 ((rd_T51 x8_1 x9_1).f0.f0)) := hcc15 0 _ rfl
     have hx15_1 : wr.cell? ⟨go15, (x9_1 : Int).toNat * 6 + 1, none⟩ = some (.int .i64 ((rd_T51 x8_1 x9_1).f0.f1)) := hcc15 1 _ rfl
     have hx15_2 : wr.cell? ⟨go15, (x9_1 : Int).toNat * 6 + 2, none⟩ = some (.int .i64 ((rd_T51 x8_1 x9_1).f0.f2)) := hcc15 2 _ rfl
     have hx15_3 : wr.cell? ⟨go15, (x9_1 : Int).toNat * 6 + 3, none⟩ = some (.int .i64 ((rd_T51 x8_1 x9_1).f1)) := hcc15 3 _ rfl
     have hx15_4 : wr.cell? ⟨go15, (x9_1 : Int).toNat * 6 + 4, none⟩ = some (.int .i64 ((rd_T51 x8_1 x9_1).f2)) := hcc15 4 _ rfl
     have hx15_5 : wr.cell? ⟨go15, (x9_1 : Int).toNat * 6 + 5, none⟩ = some (.int .u64 ((rd_T51 x8_1 x9_1).f3)) := hcc15 5 _ rfl
     have hf15_0 : wr.frozen? ⟨go15, (x9_1 : Int).toNat * 6, none⟩ = false := hfr15 0
     have hf15_1 : wr.frozen? ⟨go15, (x9_1 : Int).toNat * 6 + 1, none⟩ = false := hfr15 1
     have hf15_2 : wr.frozen? ⟨go15, (x9_1 : Int).toNat * 6 + 2, none⟩ = false := hfr15 2
     have hf15_3 : wr.frozen? ⟨go15, (x9_1 : Int).toNat * 6 + 3, none⟩ = false := hfr15 3
     have hf15_4 : wr.frozen? ⟨go15, (x9_1 : Int).toNat * 6 + 4, none⟩ = false := hfr15 4
     have hf15_5 : wr.frozen? ⟨go15, (x9_1 : Int).toNat * 6 + 5, none⟩ = false := hfr15 5
     clear hcl15 hcc15 hfr15 hM15
     replace p15 := eq_true p15
     replace q15 := eq_true q15
     have HX16 := Aside0.mk (show Kd.R k51 51 wr w.heap.size (fun _ => True) (.slice (some ⟨go15, 0, none⟩) x8_1.length co11) x8_1 from (rs_ HO_8))
     obtain ⟨ce16, hcl16, hM16, hcc16, hfr16⟩ := Kd.R_elem HX16.out z51 (x9_1 : Int) (of_decide_eq_true (by first | (with_reducible assumption) | assumption)) (by have h_ : (x9_1 : Int) < ((x8_1.length : Int) : Int) := of_decide_eq_true (by first | (with_reducible assumption) | assumption); first | exact h_ | (have e_ := (Kd.R_reads' HO_8.out).1; omega) | simpa using h_)
     obtain rfl := k51_openM hM16
     have HP16 := Kd.R_seg HX16.out (x9_1 : Int) (of_decide_eq_true (by first | (with_reducible assumption) | assumption)) (by have h_ : (x9_1 : Int) < ((x8_1.length : Int) : Int) := of_decide_eq_true (by first | (with_reducible assumption) | assumption); first | exact h_ | (have e_ := (Kd.R_reads' HO_8.out).1; omega) | simpa using h_) (seg := [.int .i64 (wrap64 (((rd_T51 x8_1 x9_1).f1) - a2))]) (j := 3) hcl16 hcc16 (show 4 ≤ 6 from by decide) (x' := (⟨(⟨(rd_T51 x8_1 x9_1).f0.f0, (rd_T51 x8_1 x9_1).f0.f1, (rd_T51 x8_1 x9_1).f0.f2⟩ : S49), wrap64 (((rd_T51 x8_1 x9_1).f1) - a2), (rd_T51 x8_1 x9_1).f2, (rd_T51 x8_1 x9_1).f3⟩ : S51)) (k51_mkM _ _ _ (⟨(⟨(rd_T51 x8_1 x9_1).f0.f0, (rd_T51 x8_1 x9_1).f0.f1, (rd_T51 x8_1 x9_1).f0.f2⟩ : S49), wrap64 (((rd_T51 x8_1 x9_1).f1) - a2), (rd_T51 x8_1 x9_1).f2, (rd_T51 x8_1 x9_1).f3⟩ : S51) ) (fun _ hk => hk)
     have hx16_3 := hcc16 3 _ rfl
     (try simp only [show (k51).sz = 6 from rfl, Nat.mul_one, Nat.add_zero] at hx16_3)
     have hf16_3 := hfr16 3
     (try simp only [show (k51).sz = 6 from rfl, Nat.mul_one, Nat.add_zero] at hf16_3)
     clear hcl16 hcc16 hfr16 hM16
     go_wp2_with (first | ((with_reducible refine gate_store (t := 2) (p := 32) rfl ?_); refine store_event (t := 2) (p := 32) (v := ?vo_w17) (w1 := (wr.setCell ⟨go15, (x9_1 : Int).toNat * 6 + 3, none⟩ (.int .i64 (wrap64 (((rd_T51 x8_1 x9_1).f1) - a2))))) ?hg ?ho ?hn ?hr ?_; (case ho => rfl); (case hg => rfl); (case hn => rfl); (case hr => first | (go_simp; done) | (go_simp; rfl)); intro w17 hw; have hg : wr.grownBy w17 (some go15) := (by rw [hw]; exact HP16.2); have hp_ : Kd.R k51 51 w17 w.heap.size (fun _ => True) (.slice (some ⟨go15, 0, none⟩) x8_1.length co11) y475 := (by rw [hw, Ny475.out]; exact HP16.1); clear HP16; replace HO_8 := Aside0.mk (hp_); replace HB := Aside0.mk ((by rw [hw]; exact below_set (HB.out) GB15.out : Below w.heap.size w w17)); clear hg hw hp_))
     (try simp only [← hl8_1])
     go_roundg k1
     case measure => have := HK1.out; omega
     case rel => exact ⟨(y475), (wrap64 (x9_1 + 1)), rf_, H', ⟨by have := HK1.out; omega⟩, ⟨by (try simp only [hl8_1]); (with_reducible repeat (first | apply Kd.R_alloc | apply Kd.R_drewN | apply Kd.R_drew)); exact HO_8.out⟩, bw_⟩
    ·rw [if_neg c13] at H
     have c13b0 : decide (x9_1 < (x8_1.length : Int)) = false := decide_eq_false c13
     (try rw [hl8_1] at c13b0)
     clear c13
     simp only [Option.some.injEq, Prod.mk.injEq] at H
     obtain ⟨rfl, rfl⟩ := H
     go_wp2
     go_ret2
     exact ⟨_, by first | rfl | (simp [errW_none, errW_some] <;> rfl) | (simp [*, errW_none, errW_some] <;> rfl), by (with_reducible repeat (first | apply Kd.R_alloc | apply Kd.R_drewN | apply Kd.R_drew)); exact HO_8.out, by repeat (first | (with_reducible first | exact HB.out | apply below_alloc | apply pw_below_drewN | apply below_drew1) | exact HB.out)⟩

def spigotref04_Take.f (k : Nat) (l0 : List (S51)) (a1 : Int) (a2 : Int) : Option ((List (S51)) × Bool × Int) := (spigotref04_asked.f k l0 a2).bind fun t476 => (if t476 = 0 then ((spigotref04_taken.f k l0 a1 a2).bind fun bt477 => (some (bt477.1, bt477.2, 0))) else ((spigotref04_asked.f k l0 a2).bind fun t481 => (some (([] : List (S51)), false, t481))))
set_option maxHeartbeats 8000000 in
set_option maxRecDepth 100000 in
theorem spigotref04_Take.calls (k : Nat) (A0 : Option Addr) (c0 : Nat) (l0 : List (S51)) (a1 : Int) (a2 : Int) (r1 : List (S51)) (r2 : Bool) (r3 : Int) (w : World) (hr0 : Kd.C k51 w A0 l0.length l0) (hc0 : l0.length ≤ c0) (h : spigotref04_Take.f k l0 a1 a2 = some (r1, r2, r3)) :
  Calls Try.prog 44 #[.slice A0 l0.length c0, .int .u64 a1, .int .i64 a2] w fun e w' => ∃ v0_ : Value, e = .returned (.tuple #[v0_, .bool r2, .int .i64 r3]) ∧ Kd.R k51 51 w' w.heap.size (fun _ => True) v0_ r1 ∧ Below w.heap.size w w' := by
 have HR0 := Aside0.mk hr0
 have HC0 := Aside0.mk hc0
 clear hr0 hc0
 have HB := Aside0.mk (Below.refl w.heap.size w)
 have H : ((spigotref04_asked.f k l0 a2).bind fun t476 => (if t476 = 0 then ((spigotref04_taken.f k l0 a1 a2).bind fun bt477 => (some (bt477.1, bt477.2, 0))) else ((spigotref04_asked.f k l0 a2).bind fun t481 => (some (([] : List (S51)), false, t481))))) = some (r1, r2, r3) := h
 clear h
 have H0_ := bo_ H; clear H; obtain ⟨t476, A4, H⟩ := H0_
 try dsimp only at H
 by_cases c5 : t476 = 0
 ·rw [if_pos c5] at H
  have c5b0 : (t476 == 0) = true := beq_iff_eq.mpr c5
  have c5b1 : (t476 != 0) = false := bne_eq_false_iff_eq.mpr c5
  clear c5
  have H0_ := bo_ H; clear H; obtain ⟨⟨t477, t478⟩, A6, H⟩ := H0_
  replace H : (some (t477, t478, 0)) = some (r1, r2, r3) := H
  simp only [Option.some.injEq, Prod.mk.injEq] at H
  obtain ⟨rfl, rfl, rfl⟩ := H
  go_enter Try.func44, Try.ntmps44
  go_wp2_with (first | ((with_reducible refine gate_callee (f := 59) rfl ?_); refine goesA_ (some 13) Try.func59 #[.slice A0 l0.length c0, .int .i64 a2] ?_; (with_reducible refine (spigotref04_asked.calls k _ _ l0 a2 t476 _ ?side1 ?side2 A4.out).mono ?_); (case side1 => exact ch_ HR0); (case side2 => exact HC0.out); rintro e w7 ⟨rfl, hb⟩; refine ⟨_, rfl, ?_⟩; replace HB := bs_ w hb; clear hb) | ((with_reducible refine gate_callee (f := 60) rfl ?_); refine goesA_ (some 22) Try.func60 #[.slice A0 l0.length c0, .int .u64 a1, .int .i64 a2] ?_; (with_reducible refine (spigotref04_taken.calls k _ _ l0 a1 a2 t477 t478 _ ?side1 ?side2 A6.out).mono ?_); (case side1 => exact cs_ HR0 HB); (case side2 => exact HC0.out); rintro e w8 ⟨v479, rfl, ho0, hb⟩; refine ⟨_, rfl, ?_⟩; have HO480 := Aside0.mk (Kd.R_lower ho0 (below_size (hq_ HB))); replace HB := bs_ w hb; clear hb; (try clear ho0)))
  go_ret3
  exact ⟨_, by first | rfl | (simp [errW_none, errW_some] <;> rfl) | (simp [*, errW_none, errW_some] <;> rfl), by (with_reducible repeat (first | apply Kd.R_alloc | apply Kd.R_drewN | apply Kd.R_drew)); exact HO480.out, by repeat (first | (with_reducible first | exact HB.out | apply below_alloc | apply pw_below_drewN | apply below_drew1) | exact HB.out)⟩
 ·rw [if_neg c5] at H
  have c5b0 : (t476 == 0) = false := beq_eq_false_iff_ne.mpr c5
  have c5b1 : (t476 != 0) = true := bne_iff_ne.mpr c5
  have H0_ := bo_ H; clear H; obtain ⟨t481, A9, H⟩ := H0_
  replace H : (some (([] : List (S51)), false, t481)) = some (r1, r2, r3) := H
  simp only [Option.some.injEq, Prod.mk.injEq] at H
  obtain ⟨rfl, rfl, rfl⟩ := H
  go_enter Try.func44, Try.ntmps44
  go_wp2_with (first | ((with_reducible refine gate_callee (f := 59) rfl ?_); refine goesA_ (some 13) Try.func59 #[.slice A0 l0.length c0, .int .i64 a2] ?_; (with_reducible refine (spigotref04_asked.calls k _ _ l0 a2 t476 _ ?side1 ?side2 A4.out).mono ?_); (case side1 => exact ch_ HR0); (case side2 => exact HC0.out); rintro e w10 ⟨rfl, hb⟩; refine ⟨_, rfl, ?_⟩; replace HB := bs_ w hb; clear hb) | ((with_reducible refine gate_callee (f := 59) rfl ?_); refine goesA_ (some 17) Try.func59 #[.slice A0 l0.length c0, .int .i64 a2] ?_; (with_reducible refine (spigotref04_asked.calls k _ _ l0 a2 t481 _ ?side1 ?side2 A9.out).mono ?_); (case side1 => exact cs_ HR0 HB); (case side2 => exact HC0.out); rintro e w11 ⟨rfl, hb⟩; refine ⟨_, rfl, ?_⟩; replace HB := bs_ w hb; clear hb))
  go_ret3
  exact ⟨_, by first | rfl | (simp [errW_none, errW_some] <;> rfl) | (simp [*, errW_none, errW_some] <;> rfl), by first | exact Kd.R_nil _ _ _ _ _ | exact Kd.N_nil _ _ _ _ _ | exact Kd.V_nil _ _ _ _ _ | exact Kd.Q_nil _ _ _ _ _ | exact Kd.S_nil _ _ _ _ _, by repeat (first | (with_reducible first | exact HB.out | apply below_alloc | apply pw_below_drewN | apply below_drew1) | exact HB.out)⟩

end Go.Proofs.Ytimhghmfhfggoaa.X
