-- written by xprint.py, a program of this session over the kit's print
import Derived.Test.YtimhghmfhfggoaaX0
namespace Go.Proofs.Ytimhghmfhfggoaa.X
open Go.RowKit Go.Proofs.YtimhghmfhfggoaaW.PrintWords Go.Proofs.YtimhghmfhfggoaaW.PrintLast Go.Proofs.YtimhghmfhfggoaaW.PrintMore
attribute [local go_sem] max2_int min2_int max_two min_two max_three min_three max_four min_four   -- for this text's walks alone
set_option linter.unusedVariables false
set_option linter.unusedSimpArgs false

def slices_swapRangeCmpFunc_api_Charge_c47.l0 : Nat → List (S62) → Int → Int → Int → Int → Option ((List (S62)))
  | 0, _, _, _, _, _ => none
  | k + 1, x0, x1, x2, x3, x10 => if x10 < x3 then (if 0 ≤ (wrap64 (x2 + x10)) then (if (wrap64 (x2 + x10)) < (x0.length : Int) then (if 0 ≤ (wrap64 (x1 + x10)) then (if (wrap64 (x1 + x10)) < (x0.length : Int) then (slices_swapRangeCmpFunc_api_Charge_c47.l0 k ((x0.set ((wrap64 (x1 + x10)) : Int).toNat (⟨(rd_T62 x0 (wrap64 (x2 + x10))).f0, (rd_T62 x0 (wrap64 (x2 + x10))).f1⟩ : S62)).set ((wrap64 (x2 + x10)) : Int).toNat (⟨(rd_T62 x0 (wrap64 (x1 + x10))).f0, (rd_T62 x0 (wrap64 (x1 + x10))).f1⟩ : S62)) x1 x2 x3 (wrap64 (x10 + 1))) else (none)) else (none)) else (none)) else (none)) else (some x0)
def slices_swapRangeCmpFunc_api_Charge_c47.f (k : Nat) (l0 : List (S62)) (a1 : Int) (a2 : Int) (a3 : Int) (a4 : Int) : Option ((List (S62))) := slices_swapRangeCmpFunc_api_Charge_c47.l0 k l0 a1 a2 a3 0
def slices_swapRangeCmpFunc_api_Charge_c47.T3 : Bool × List (List Nat × List Nat) := (true, [([], []), ([], []), ([], []), ([1, 2], [1, 2]), ([], []), ([], []), ([], []), ([5, 6], [5, 6]), ([], []), ([], []), ([], []), ([9, 10], [9, 10]), ([8, 11], [8, 11]), ([12], [12]), ([], []), ([], []), ([], []), ([15, 16], [15, 16]), ([14, 17], [14, 17]), ([18], [18]), ([0, 3, 0, 1, 2, 3, 8, 9, 10, 11, 12, 13, 19], [0, 3]), ([20, 13, 0, 1, 2, 3, 8, 9, 10, 11, 12, 13, 19], [13, 20]), ([4, 7, 0, 1, 2, 3, 4, 5, 6, 7, 8, 9, 10, 11, 12, 13, 14, 15, 16, 17, 18, 19, 20, 21], [4, 7]), ([22, 19, 21, 0, 1, 2, 3, 4, 5, 6, 7, 8, 9, 10, 11, 12, 13, 14, 15, 16, 17, 18, 19, 20, 21], [19, 22])])
def slices_swapRangeCmpFunc_api_Charge_c47.B3 : List Nat := [0, 0, 0, 6, 0, 0, 0, 96, 0, 0, 0, 1536, 3840, 7936, 0, 0, 0, 98304, 245760, 507904, 1048335, 2096911, 4194303, 8388607]
theorem slices_swapRangeCmpFunc_api_Charge_c47.tab3 : rtab .any (opsOf Try.f91 3) = slices_swapRangeCmpFunc_api_Charge_c47.T3 := by kernel_rfl
theorem slices_swapRangeCmpFunc_api_Charge_c47.bits3 : waitsOk slices_swapRangeCmpFunc_api_Charge_c47.T3.2 slices_swapRangeCmpFunc_api_Charge_c47.B3 = true := by kernel_rfl
set_option maxHeartbeats 8000000 in
set_option maxRecDepth 100000 in
theorem slices_swapRangeCmpFunc_api_Charge_c47.calls (k : Nat) (P0_ : Nat → Prop) (u9000_ : Value) (l0 : List (S62)) (a1 : Int) (a2 : Int) (a3 : Int) (a4 : Int) (r : List (S62)) (w0 w : World) (hB : Below w0.heap.size w0 w) (ho0 : Kd.R k62 62 w w0.heap.size P0_ u9000_ l0) (h : slices_swapRangeCmpFunc_api_Charge_c47.f k l0 a1 a2 a3 a4 = some r) :
  Calls Try.prog 91 #[u9000_, .int .i64 a1, .int .i64 a2, .int .i64 a3, .func (.func 47) #[] #[]] w fun e w' => e = .returned (.tuple #[]) ∧ Kd.R k62 62 w' w0.heap.size (fun k_ => (P0_ k_ ∨ w.heap.size ≤ k_)) u9000_ r ∧ Below w0.heap.size w0 w' ∧ Kept w w' (fun k_ => P0_ k_) := by
 have hu62 := Try.underlying62
 have HO0 := Aside0.mk (show Kd.R k62 62 w w0.heap.size (fun k_ => (P0_ k_ ∨ w.heap.size ≤ k_)) u9000_ l0 from Kd.R_mono ho0 (fun k_ hk => (.inl hk)))
 have HK := Aside0.mk (Kept.refl w (fun k_ => P0_ k_))
 have HW0 := Aside0.mk hB.size
 have HB := Aside0.mk hB
 clear hB
 have H : (slices_swapRangeCmpFunc_api_Charge_c47.l0 k l0 a1 a2 a3 0) = some r := h
 clear h
 have H' := Aside0.mk H
 clear H
 go_enter Try.func91, Try.ntmps91
 go_wp2
 go_loopg [10] k (fun kq v10 w' => ∃ (x0_1 : List (S62)) (x10_1 : Int), v10 = .int .i64 x10_1 ∧ Aside0 (slices_swapRangeCmpFunc_api_Charge_c47.l0 kq x0_1 a1 a2 a3 x10_1 = some r) ∧ Aside0 (kq ≤ k) ∧ Aside0 (Kd.R k62 62 w' w0.heap.size (fun k_ => (P0_ k_ ∨ w.heap.size ≤ k_)) u9000_ x0_1) ∧ Aside0 (Kept w w' (fun k_ => P0_ k_)) ∧ Aside0 (Below w0.heap.size w0 w'))
 case atStart => exact ⟨(l0), (0), rf_, H', ⟨Nat.le_refl _⟩, ⟨rs_ HO0⟩, ⟨by repeat (first | (with_reducible first | exact HK.out | apply Kept.alloc | apply Kept.drewN | apply Kept.drew) | exact HK.out)⟩, bw_⟩
 case round =>
  clear H'
  obtain ⟨x0_1, x10_1, rfl, HA, HK1, HO_0, HK, HB⟩ := hrel
  cases gk with
  | zero => exact absurd HA.out (by simp [slices_swapRangeCmpFunc_api_Charge_c47.l0])
  | succ k1 =>
   have H := HA.out
   clear HA
   simp only [slices_swapRangeCmpFunc_api_Charge_c47.l0] at H
   by_cases c6 : x10_1 < a3
   ·rw [if_pos c6] at H
    have c6b0 : decide (x10_1 < a3) = true := decide_eq_true c6
    clear c6
    obtain ⟨ji7, hji7⟩ : ∃ j_ : Int, (wrap64 (a2 + x10_1)) = j_ := ⟨_, rfl⟩
    replace H : (if 0 ≤ (ji7) then (if (ji7) < (x0_1.length : Int) then (if 0 ≤ (wrap64 (a1 + x10_1)) then (if (wrap64 (a1 + x10_1)) < (x0_1.length : Int) then (slices_swapRangeCmpFunc_api_Charge_c47.l0 k1 ((x0_1.set ((wrap64 (a1 + x10_1)) : Int).toNat (⟨(rd_T62 x0_1 (ji7)).f0, (rd_T62 x0_1 (ji7)).f1⟩ : S62)).set ((ji7) : Int).toNat (⟨(rd_T62 x0_1 (wrap64 (a1 + x10_1))).f0, (rd_T62 x0_1 (wrap64 (a1 + x10_1))).f1⟩ : S62)) a1 a2 a3 (wrap64 (x10_1 + 1))) else (none)) else (none)) else (none)) else (none)) = some r := by first | (rw [hji7] at H; exact H) | (simp only [hji7] at H ⊢; exact H)
    have hji7w : (IntKind.i64.wrap (a2 + x10_1)) = ji7 := (i64_w _).trans hji7
    by_cases c8 : 0 ≤ (ji7)
    rotate_left
    ·rw [if_neg c8] at H; exact absurd H (by simp)
    rw [if_pos c8] at H
    have c8b0 : decide (0 ≤ (ji7)) = true := decide_eq_true c8
    clear c8
    by_cases c9 : (ji7) < (x0_1.length : Int)
    rotate_left
    ·rw [if_neg c9] at H; exact absurd H (by simp)
    rw [if_pos c9] at H
    have c9b0 : decide ((ji7) < (x0_1.length : Int)) = true := decide_eq_true c9
    clear c9
    obtain ⟨ji10, hji10⟩ : ∃ j_ : Int, (wrap64 (a1 + x10_1)) = j_ := ⟨_, rfl⟩
    replace H : (if 0 ≤ (ji10) then (if (ji10) < (x0_1.length : Int) then (slices_swapRangeCmpFunc_api_Charge_c47.l0 k1 ((x0_1.set ((ji10) : Int).toNat (⟨(rd_T62 x0_1 (ji7)).f0, (rd_T62 x0_1 (ji7)).f1⟩ : S62)).set ((ji7) : Int).toNat (⟨(rd_T62 x0_1 (ji10)).f0, (rd_T62 x0_1 (ji10)).f1⟩ : S62)) a1 a2 a3 (wrap64 (x10_1 + 1))) else (none)) else (none)) = some r := by first | (rw [hji10] at H; exact H) | (simp only [hji10] at H ⊢; exact H)
    have hji10w : (IntKind.i64.wrap (a1 + x10_1)) = ji10 := (i64_w _).trans hji10
    by_cases c11 : 0 ≤ (ji10)
    rotate_left
    ·rw [if_neg c11] at H; exact absurd H (by simp)
    rw [if_pos c11] at H
    have c11b0 : decide (0 ≤ (ji10)) = true := decide_eq_true c11
    clear c11
    by_cases c12 : (ji10) < (x0_1.length : Int)
    rotate_left
    ·rw [if_neg c12] at H; exact absurd H (by simp)
    rw [if_pos c12] at H
    have c12b0 : decide ((ji10) < (x0_1.length : Int)) = true := decide_eq_true c12
    clear c12
    obtain ⟨y526, hy526⟩ : ∃ y_ : List (S62), y_ = (x0_1.set ((ji10) : Int).toNat (⟨(rd_T62 x0_1 (ji7)).f0, (rd_T62 x0_1 (ji7)).f1⟩ : S62)) := ⟨_, rfl⟩
    replace H : (slices_swapRangeCmpFunc_api_Charge_c47.l0 k1 (y526.set ((ji7) : Int).toNat (⟨(rd_T62 x0_1 (ji10)).f0, (rd_T62 x0_1 (ji10)).f1⟩ : S62)) a1 a2 a3 (wrap64 (x10_1 + 1))) = some r := by first | (rw [hy526]; with_reducible exact H) | (have H2_ := (Option.bind_some _ _).symm.trans H; rw [hy526]; with_reducible exact H2_) | (have H2_ := (Option.bind_some _ _).symm.trans H; with_reducible exact H2_) | with_reducible exact H | (rw [hy526]; exact H) | exact H
    have Ny526 := Aside0.mk hy526
    clear hy526
    obtain ⟨y527, hy527⟩ : ∃ y_ : List (S62), y_ = (y526.set ((ji7) : Int).toNat (⟨(rd_T62 x0_1 (ji10)).f0, (rd_T62 x0_1 (ji10)).f1⟩ : S62)) := ⟨_, rfl⟩
    replace H : (slices_swapRangeCmpFunc_api_Charge_c47.l0 k1 y527 a1 a2 a3 (wrap64 (x10_1 + 1))) = some r := by first | (rw [hy527]; with_reducible exact H) | (have H2_ := (Option.bind_some _ _).symm.trans H; rw [hy527]; with_reducible exact H2_) | (have H2_ := (Option.bind_some _ _).symm.trans H; with_reducible exact H2_) | with_reducible exact H | (rw [hy527]; exact H) | exact H
    have Ny527 := Aside0.mk hy527
    clear hy527
    have H' := Aside0.mk H
    clear H
    try go_wp2
    replace HO_0 := Aside0.mk (Kd.R_drew HO_0.out)
    replace HK := Aside0.mk (Kept.drew HK.out)
    replace HB := Aside0.mk (below_drew1 HB.out)
    obtain ⟨Ao16, co16, eo16⟩ := Kd.R_slice HO_0.out
    (first | subst eo16 | (injection eo16 with f1_ f2_ f3_; have f4_ := f1_.symm; have f5_ := f3_.symm; clear f1_ f2_ f3_; subst f4_; subst f5_))
    have p524 : 0 ≤ ((ji7) : Int) := of_decide_eq_true (by first | (with_reducible assumption) | assumption)
    have q524 : (ji7) < (x0_1.length : Int) := of_decide_eq_true (by first | (with_reducible assumption) | assumption)
    obtain ⟨ad524, e524, hx524_0, hx524_1⟩ := at_T62 (Kd.R_reads' HO_0.out).2.2 (ji7) p524 q524
    cases e524
    replace p524 := eq_true p524
    replace q524 := eq_true q524
    have p525 : 0 ≤ ((ji10) : Int) := of_decide_eq_true (by first | (with_reducible assumption) | assumption)
    have q525 : (ji10) < (x0_1.length : Int) := of_decide_eq_true (by first | (with_reducible assumption) | assumption)
    obtain ⟨ad525, e525, hx525_0, hx525_1⟩ := at_T62 (Kd.R_reads' HO_0.out).2.2 (ji10) p525 q525
    obtain rfl : ad524 = ad525 := (by injection e525)
    replace p525 := eq_true p525
    replace q525 := eq_true q525
    have p13 : 0 ≤ ((ji10) : Int) := of_decide_eq_true (by first | (with_reducible assumption) | assumption)
    have q13 : ((ji10) : Int) < ((x0_1.length : Int) : Int) := of_decide_eq_true (by first | (with_reducible assumption) | assumption)
    obtain ⟨go13, co13, eo13, gb13, gl13, cl13, HG13⟩ := Kd.R_form HO_0.out (by omega)
    (first | cases eo13 | (injection eo13 with ea_ en_ ec_; (first | subst ea_ | (injection ea_ with ea_; subst ea_)); subst ec_; clear en_))
    have GB13 := Aside0.mk gb13
    have GG13 := Aside0.mk HG13
    clear gb13 gl13 HG13
    have HMgo13 := Aside0.mk (show (P0_ go13 ∨ w.heap.size ≤ go13) from (HO_0.out.1 _ rfl))
    (first | simp only [add_plain] at hx524_0 | skip)
    (first | simp only [add_plain] at hx524_1 | skip)
    (first | simp only [add_plain] at hx525_0 | skip)
    (first | simp only [add_plain] at hx525_1 | skip)
    obtain ⟨ce13, hcl13, hM13, hcc13, hfr13⟩ := Kd.R_elem HO_0.out z62 ((ji10) : Int) p13 q13
    obtain rfl := k62_openM hM13
    have hx13_0 : World.cell? _ ⟨go13, ((ji10) : Int).toNat * 2, none⟩ = some (.int .u64 ((rd_T62 x0_1 (ji10)).f0)) := hcc13 0 _ rfl
    have hx13_1 : World.cell? _ ⟨go13, ((ji10) : Int).toNat * 2 + 1, none⟩ = some (.int .i64 ((rd_T62 x0_1 (ji10)).f1)) := hcc13 1 _ rfl
    have hf13_0 : World.frozen? _ ⟨go13, ((ji10) : Int).toNat * 2, none⟩ = false := hfr13 0
    have hf13_1 : World.frozen? _ ⟨go13, ((ji10) : Int).toNat * 2 + 1, none⟩ = false := hfr13 1
    clear hcl13 hcc13 hfr13 hM13
    replace p13 := eq_true p13
    replace q13 := eq_true q13
    obtain ⟨ce17, hcl17, hM17, hcc17, hfr17⟩ := Kd.R_elem HO_0.out z62 ((ji10) : Int) (of_decide_eq_true (by first | (with_reducible assumption) | assumption)) (by have h_ : ((ji10) : Int) < ((x0_1.length : Int) : Int) := of_decide_eq_true (by first | (with_reducible assumption) | assumption); first | exact h_ | (have e_ := (Kd.R_reads' HO_0.out).1; omega) | simpa using h_)
    obtain rfl := k62_openM hM17
    have HP17 := (Kd.R_seg HO_0.out ((ji10) : Int) (of_decide_eq_true (by first | (with_reducible assumption) | assumption)) (by have h_ : ((ji10) : Int) < ((x0_1.length : Int) : Int) := of_decide_eq_true (by first | (with_reducible assumption) | assumption); first | exact h_ | (have e_ := (Kd.R_reads' HO_0.out).1; omega) | simpa using h_) (seg := [.int .u64 ((rd_T62 x0_1 (ji7)).f0), .int .i64 ((rd_T62 x0_1 (ji7)).f1)]) (j := 0) hcl17 hcc17 (show 2 ≤ 2 from by decide) (x' := (⟨(rd_T62 x0_1 (ji7)).f0, (rd_T62 x0_1 (ji7)).f1⟩ : S62)) (k62_mkM _ _ _ (⟨(rd_T62 x0_1 (ji7)).f0, (rd_T62 x0_1 (ji7)).f1⟩ : S62) ) (fun _ hk => hk)).1
    rw [← Ny526.out] at HP17
    have HQ17 := Aside0.mk HP17
    clear hcl17 hcc17 hfr17 hM17 HP17
    have p14 : 0 ≤ ((ji7) : Int) := of_decide_eq_true (by first | (with_reducible assumption) | assumption)
    have q14 : ((ji7) : Int) < ((x0_1.length : Int) : Int) := of_decide_eq_true (by first | (with_reducible assumption) | assumption)
    obtain ⟨ce14, hcl14, hM14, hcc14, hfr14⟩ := Kd.R_elem HQ17.out z62 ((ji7) : Int) p14 q14
    obtain rfl := k62_openM hM14
    have hx14_0 : World.cell? _ ⟨go13, ((ji7) : Int).toNat * 2, none⟩ = some (.int .u64 ((rd_T62 y526 (ji7)).f0)) := hcc14 0 _ rfl
    have hx14_1 : World.cell? _ ⟨go13, ((ji7) : Int).toNat * 2 + 1, none⟩ = some (.int .i64 ((rd_T62 y526 (ji7)).f1)) := hcc14 1 _ rfl
    have hf14_0 : World.frozen? _ ⟨go13, ((ji7) : Int).toNat * 2, none⟩ = false := hfr14 0
    have hf14_1 : World.frozen? _ ⟨go13, ((ji7) : Int).toNat * 2 + 1, none⟩ = false := hfr14 1
    clear hcl14 hcc14 hfr14 hM14
    replace p14 := eq_true p14
    replace q14 := eq_true q14
    obtain ⟨ce18, hcl18, hM18, hcc18, hfr18⟩ := Kd.R_elem HQ17.out z62 ((ji7) : Int) (of_decide_eq_true (by first | (with_reducible assumption) | assumption)) (by have h_ : ((ji7) : Int) < ((x0_1.length : Int) : Int) := of_decide_eq_true (by first | (with_reducible assumption) | assumption); first | exact h_ | (have e_ := (Kd.R_reads' HO_0.out).1; omega) | simpa using h_)
    obtain rfl := k62_openM hM18
    have HP18 := (Kd.R_seg HQ17.out ((ji7) : Int) (of_decide_eq_true (by first | (with_reducible assumption) | assumption)) (by have h_ : ((ji7) : Int) < ((x0_1.length : Int) : Int) := of_decide_eq_true (by first | (with_reducible assumption) | assumption); first | exact h_ | (have e_ := (Kd.R_reads' HO_0.out).1; omega) | simpa using h_) (seg := [.int .u64 ((rd_T62 x0_1 (ji10)).f0), .int .i64 ((rd_T62 x0_1 (ji10)).f1)]) (j := 0) hcl18 hcc18 (show 2 ≤ 2 from by decide) (x' := (⟨(rd_T62 x0_1 (ji10)).f0, (rd_T62 x0_1 (ji10)).f1⟩ : S62)) (k62_mkM _ _ _ (⟨(rd_T62 x0_1 (ji10)).f0, (rd_T62 x0_1 (ji10)).f1⟩ : S62) ) (fun _ hk => hk)).1
    rw [← Ny527.out] at HP18
    have HQ18 := Aside0.mk HP18
    clear hcl18 hcc18 hfr18 hM18 HP18
    refine start_ (n := 24) (S := fun w' => w'.cell? ⟨go13, ((ji7)).toNat * 2, none⟩ = some (.int .u64 ((rd_T62 x0_1 (ji7)).f0)) ∧ w'.cell? ⟨go13, ((ji7)).toNat * 2 + 1, none⟩ = some (.int .i64 ((rd_T62 x0_1 (ji7)).f1)) ∧ w'.cell? ⟨go13, ((ji10)).toNat * 2, none⟩ = some (.int .u64 ((rd_T62 x0_1 (ji10)).f0)) ∧ w'.cell? ⟨go13, ((ji10)).toNat * 2 + 1, none⟩ = some (.int .i64 ((rd_T62 x0_1 (ji10)).f1))) (ds := [21, 23]) (bl_ 24 0) (by kernel_rfl) rfl (by kernel_rfl) ⟨hx524_0, hx524_1, hx525_0, hx525_1⟩ (fun hHeld => ?_); refine with_tabW slices_swapRangeCmpFunc_api_Charge_c47.tab3 slices_swapRangeCmpFunc_api_Charge_c47.bits3 (fun HT_ HW_ => ?_)
    generalize wr.drew = w15 at HO_0 HK HB GG13 HQ17 HQ18 hf13_0 hf13_1 hf14_0 hf14_1 hx13_0 hx13_1 hx14_0 hx14_1 hx524_0 hx524_1 hx525_0 hx525_1 hHeld ⊢
    (try (have hzx13_0 := hx13_0; simp only [World.setCells, show k62.sz = 2 from rfl, Nat.add_zero] at hzx13_0; (try simp [go_sem] at hzx13_0)))
    (try (have hzx13_1 := hx13_1; simp only [World.setCells, show k62.sz = 2 from rfl, Nat.add_zero] at hzx13_1; (try simp [go_sem] at hzx13_1)))
    (try (have hzf13_0 := hf13_0; simp only [World.setCells, show k62.sz = 2 from rfl, Nat.add_zero] at hzf13_0; (try simp [go_sem] at hzf13_0)))
    (try (have hzf13_1 := hf13_1; simp only [World.setCells, show k62.sz = 2 from rfl, Nat.add_zero] at hzf13_1; (try simp [go_sem] at hzf13_1)))
    (try (have hzx14_0 := hx14_0; simp only [World.setCells, show k62.sz = 2 from rfl, Nat.add_zero] at hzx14_0; (try simp [go_sem] at hzx14_0)))
    (try (have hzx14_1 := hx14_1; simp only [World.setCells, show k62.sz = 2 from rfl, Nat.add_zero] at hzx14_1; (try simp [go_sem] at hzx14_1)))
    (try (have hzf14_0 := hf14_0; simp only [World.setCells, show k62.sz = 2 from rfl, Nat.add_zero] at hzf14_0; (try simp [go_sem] at hzf14_0)))
    (try (have hzf14_1 := hf14_1; simp only [World.setCells, show k62.sz = 2 from rfl, Nat.add_zero] at hzf14_1; (try simp [go_sem] at hzf14_1)))
    refine pa_ 0 (some 16) (bl_ 24 1) HT_ ?_
    refine pa_ 1 (some 17) (bl_ 24 3) HT_ ?_
    refine pa_ 2 (some 18) (bl_ 24 7) HT_ ?_
    refine pa_ 3 (some 19) (bl_ 24 15) HT_ ?_
    refine pa_ 4 (some 20) (bl_ 24 31) HT_ ?_
    refine pa_ 5 (some 21) (bl_ 24 63) HT_ ?_
    refine pa_ 6 (some 22) (bl_ 24 127) HT_ ?_
    refine pa_ 7 (some 23) (bl_ 24 255) HT_ ?_
    refine pa_ 8 (some 24) (bl_ 24 511) HT_ ?_
    refine pa_ 9 (some 25) (bl_ 24 1023) HT_ ?_
    refine pa_ 10 (some 26) (bl_ 24 2047) HT_ ?_
    refine pa_ 11 (some 27) (bl_ 24 4095) HT_ ?_
    refine pa_ 12 (some 28) (bl_ 24 8191) HT_ ?_
    refine pa_ 14 (some 30) (bl_ 24 24575) HT_ ?_
    refine pa_ 15 (some 31) (bl_ 24 57343) HT_ ?_
    refine pa_ 16 (some 32) (bl_ 24 122879) HT_ ?_
    refine pa_ 17 (some 33) (bl_ 24 253951) HT_ ?_
    refine pa_ 18 (some 34) (bl_ 24 516095) HT_ ?_
    refine ta_ 13 (some 29) (bl_ 24 524287) HT_ HW_ hHeld ?_
    refine ta_ 19 (some 35) (bl_ 24 1048575) HT_ HW_ hHeld ?_
    refine pa_ 20 (some 36) (bl_ 24 2097151) HT_ ?_
    refine last_ (i := 21) (N := none) (bl_ 24 4194303) rfl rfl (one_of HT_.out (by kernel_rfl)) (by decide) (fun K hK => ?_)
    refine sk_ ?_
    refine hK.out _ _ ?_
    clear hK K
    refine pa_ 22 (some 37) (bl_ 24 8388607) HT_ ?_
    refine last_ (i := 23) (N := none) (bl_ 24 16777215) rfl rfl (one_of HT_.out (by kernel_rfl)) (by decide) (fun K hK => ?_)
    refine sk_ ?_
    refine hK.out _ _ ?_
    clear hK K
    refine done_ (done_of HT_.out (by kernel_rfl)) ?_
    try go_wp2
    go_roundg k1
    case measure => have := HK1.out; omega
    case rel => exact ⟨(y527), (wrap64 (x10_1 + 1)), rf_, H', ⟨by have := HK1.out; omega⟩, ⟨by (with_reducible repeat (first | apply Kd.R_alloc | apply Kd.R_drewN | apply Kd.R_drew)); exact HQ18.out⟩, ⟨by repeat (first | (with_reducible first | exact HK.out | apply Kept.alloc | apply Kept.drewN | apply Kept.drew | refine Kept.setCell ?_ HMgo13.out _ | refine Kept.setCell ?_ HMgo13.out _ | refine Kept.setCell ?_ HMgo13.out _ | refine Kept.setCell ?_ HMgo13.out _) | exact HK.out)⟩, ⟨by repeat (first | (with_reducible first | exact HB.out | apply below_alloc | apply pw_below_drewN | apply below_drew1 | refine below_set ?_ GB13.out | refine below_set ?_ GB13.out | refine below_set ?_ GB13.out | refine below_set ?_ GB13.out) | exact HB.out)⟩⟩
   ·rw [if_neg c6] at H
    have c6b0 : decide (x10_1 < a3) = false := decide_eq_false c6
    clear c6
    obtain rfl := Option.some.inj H
    go_wp2
    first | go_end0 | ((try simp only [Exit.inBlock, Exit.then]); refine bodyPost_ret (results_none rfl _ _ _) rfl ?_)
    exact ⟨by first | rfl | (simp [errW_none, errW_some] <;> rfl) | (simp [*, errW_none, errW_some] <;> rfl), by (with_reducible repeat (first | apply Kd.R_alloc | apply Kd.R_drewN | apply Kd.R_drew)); exact HO_0.out, by repeat (first | (with_reducible first | exact HB.out | apply below_alloc | apply pw_below_drewN | apply below_drew1) | exact HB.out), by repeat (first | (with_reducible first | exact HK.out | apply Kept.alloc | apply Kept.drewN | apply Kept.drew) | exact HK.out)⟩

end Go.Proofs.Ytimhghmfhfggoaa.X
