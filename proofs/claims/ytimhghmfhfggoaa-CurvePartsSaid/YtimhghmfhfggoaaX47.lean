-- written by xprint.py, a program of this session over the kit's print
import Derived.Test.YtimhghmfhfggoaaX0
import Derived.Test.YtimhghmfhfggoaaX46
namespace Go.Proofs.Ytimhghmfhfggoaa.X
open Go.RowKit Go.Proofs.YtimhghmfhfggoaaW.PrintWords Go.Proofs.YtimhghmfhfggoaaW.PrintLast Go.Proofs.YtimhghmfhfggoaaW.PrintMore
attribute [local go_sem] max2_int min2_int max_two min_two max_three min_three max_four min_four   -- for this text's walks alone
set_option linter.unusedVariables false
set_option linter.unusedSimpArgs false

mutual
def slices_insertionSortCmpFunc_api_Charge_c47.l0 : Nat → List (S62) → Int → Int → Int → Option ((List (S62)))
  | 0, _, _, _, _ => none
  | k + 1, x0, x1, x2, x8 => if x8 < x2 then (slices_insertionSortCmpFunc_api_Charge_c47.l1 k x0 x1 x2 x8 x8) else (some x0)
def slices_insertionSortCmpFunc_api_Charge_c47.l1 : Nat → List (S62) → Int → Int → Int → Int → Option ((List (S62)))
  | 0, _, _, _, _, _ => none
  | k + 1, x0, x1, x2, x8, x9 => if x9 > x1 then (if 0 ≤ x9 then (if x9 < (x0.length : Int) then (if 0 ≤ (wrap64 (x9 - 1)) then (if (wrap64 (x9 - 1)) < (x0.length : Int) then ((curve_Join_1.f ((rd_T62 x0 x9).f0) ((rd_T62 x0 x9).f1) ((rd_T62 x0 (wrap64 (x9 - 1))).f0) ((rd_T62 x0 (wrap64 (x9 - 1))).f1)).bind fun t519 => (if t519 < 0 then (slices_insertionSortCmpFunc_api_Charge_c47.l1 k ((x0.set (x9 : Int).toNat (⟨(rd_T62 x0 (wrap64 (x9 - 1))).f0, (rd_T62 x0 (wrap64 (x9 - 1))).f1⟩ : S62)).set ((wrap64 (x9 - 1)) : Int).toNat (⟨(rd_T62 x0 x9).f0, (rd_T62 x0 x9).f1⟩ : S62)) x1 x2 x8 (wrap64 (x9 - 1))) else (slices_insertionSortCmpFunc_api_Charge_c47.l0 k x0 x1 x2 (wrap64 (x8 + 1))))) else (none)) else (none)) else (none)) else (none)) else (slices_insertionSortCmpFunc_api_Charge_c47.l0 k x0 x1 x2 (wrap64 (x8 + 1)))
end
def slices_insertionSortCmpFunc_api_Charge_c47.f (k : Nat) (l0 : List (S62)) (a1 : Int) (a2 : Int) (a3 : Int) : Option ((List (S62))) := slices_insertionSortCmpFunc_api_Charge_c47.l0 k l0 a1 a2 (wrap64 (a1 + 1))
def slices_insertionSortCmpFunc_api_Charge_c47.T4 : Bool × List (List Nat × List Nat) := (true, [([], []), ([], []), ([0, 1], [0, 1]), ([2], [2]), ([3], [3]), ([3], [3]), ([3], [3]), ([5, 6, 3], [3, 5, 6]), ([7, 3], [3, 7]), ([3], [3]), ([3], [3]), ([10, 3], [3, 10]), ([9, 11, 3], [3, 9, 11]), ([12, 3], [3, 12]), ([4, 8, 13, 3, 3], [3, 4, 8, 13]), ([14, 3], [3, 14]), ([3, 15], [3, 15])])
def slices_insertionSortCmpFunc_api_Charge_c47.B4 : List Nat := [0, 0, 3, 7, 15, 15, 15, 111, 239, 15, 15, 1039, 3599, 7695, 16383, 32767, 65535]
theorem slices_insertionSortCmpFunc_api_Charge_c47.tab4 : rtab .any (opsOf Try.f77 4) = slices_insertionSortCmpFunc_api_Charge_c47.T4 := by kernel_rfl
theorem slices_insertionSortCmpFunc_api_Charge_c47.bits4 : waitsOk slices_insertionSortCmpFunc_api_Charge_c47.T4.2 slices_insertionSortCmpFunc_api_Charge_c47.B4 = true := by kernel_rfl
def slices_insertionSortCmpFunc_api_Charge_c47.T6 : Bool × List (List Nat × List Nat) := (true, [([], []), ([], []), ([], []), ([], []), ([3], [3]), ([], []), ([], []), ([6], [6]), ([5, 7], [5, 7]), ([8], [8]), ([], []), ([], []), ([10, 11], [10, 11]), ([12], [12]), ([0, 1, 0, 1, 5, 6, 7, 8, 9, 13], [0, 1]), ([14, 9, 0, 1, 5, 6, 7, 8, 9, 13], [9, 14]), ([2, 4, 0, 1, 2, 3, 4, 5, 6, 7, 8, 9, 10, 11, 12, 13, 14, 15], [2, 4]), ([16, 13, 15, 0, 1, 2, 3, 4, 5, 6, 7, 8, 9, 10, 11, 12, 13, 14, 15], [13, 16])])
def slices_insertionSortCmpFunc_api_Charge_c47.B6 : List Nat := [0, 0, 0, 0, 8, 0, 0, 64, 224, 480, 0, 0, 3072, 7168, 16355, 32739, 65535, 131071]
theorem slices_insertionSortCmpFunc_api_Charge_c47.tab6 : rtab .any (opsOf Try.f77 6) = slices_insertionSortCmpFunc_api_Charge_c47.T6 := by kernel_rfl
theorem slices_insertionSortCmpFunc_api_Charge_c47.bits6 : waitsOk slices_insertionSortCmpFunc_api_Charge_c47.T6.2 slices_insertionSortCmpFunc_api_Charge_c47.B6 = true := by kernel_rfl
set_option maxHeartbeats 8000000 in
set_option maxRecDepth 100000 in
theorem slices_insertionSortCmpFunc_api_Charge_c47.calls (k : Nat) (P0_ : Nat → Prop) (u9000_ : Value) (l0 : List (S62)) (a1 : Int) (a2 : Int) (a3 : Int) (r : List (S62)) (w0 w : World) (hB : Below w0.heap.size w0 w) (ho0 : Kd.R k62 62 w w0.heap.size P0_ u9000_ l0) (h : slices_insertionSortCmpFunc_api_Charge_c47.f k l0 a1 a2 a3 = some r) :
  Calls Try.prog 77 #[u9000_, .int .i64 a1, .int .i64 a2, .func (.func 47) #[] #[]] w fun e w' => e = .returned (.tuple #[]) ∧ Kd.R k62 62 w' w0.heap.size (fun k_ => (P0_ k_ ∨ w.heap.size ≤ k_)) u9000_ r ∧ Below w0.heap.size w0 w' ∧ Kept w w' (fun k_ => P0_ k_) := by
 have hu62 := Try.underlying62
 have HO0 := Aside0.mk (show Kd.R k62 62 w w0.heap.size (fun k_ => (P0_ k_ ∨ w.heap.size ≤ k_)) u9000_ l0 from Kd.R_mono ho0 (fun k_ hk => (.inl hk)))
 have HK := Aside0.mk (Kept.refl w (fun k_ => P0_ k_))
 have HW0 := Aside0.mk hB.size
 have HB := Aside0.mk hB
 clear hB
 have H : (slices_insertionSortCmpFunc_api_Charge_c47.l0 k l0 a1 a2 (wrap64 (a1 + 1))) = some r := h
 clear h
 have H' := Aside0.mk H
 clear H
 go_enter Try.func77, Try.ntmps77
 go_wp2
 go_loopg [8] k (fun kq v8 w' => ∃ (x0_1 : List (S62)) (x8_1 : Int), v8 = .int .i64 x8_1 ∧ Aside0 (slices_insertionSortCmpFunc_api_Charge_c47.l0 kq x0_1 a1 a2 x8_1 = some r) ∧ Aside0 (kq ≤ k) ∧ Aside0 (Kd.R k62 62 w' w0.heap.size (fun k_ => (P0_ k_ ∨ w.heap.size ≤ k_)) u9000_ x0_1) ∧ Aside0 (Kept w w' (fun k_ => P0_ k_)) ∧ Aside0 (Below w0.heap.size w0 w'))
 case atStart => exact ⟨(l0), (wrap64 (a1 + 1)), rf_, H', ⟨Nat.le_refl _⟩, ⟨rs_ HO0⟩, ⟨by repeat (first | (with_reducible first | exact HK.out | apply Kept.alloc | apply Kept.drewN | apply Kept.drew) | exact HK.out)⟩, bw_⟩
 case round =>
  clear H'
  obtain ⟨x0_1, x8_1, rfl, HA, HK1, HO_0, HK, HB⟩ := hrel
  cases gk with
  | zero => exact absurd HA.out (by simp [slices_insertionSortCmpFunc_api_Charge_c47.l0])
  | succ k1 =>
   have H := HA.out
   clear HA
   simp only [slices_insertionSortCmpFunc_api_Charge_c47.l0] at H
   by_cases c5 : x8_1 < a2
   ·rw [if_pos c5] at H
    have c5b0 : decide (x8_1 < a2) = true := decide_eq_true c5
    clear c5
    have H' := Aside0.mk H
    clear H
    go_wp2
    go_loopg [9] k1 (fun kq v9 w' => ∃ (x0_2 : List (S62)) (x9_2 : Int), v9 = .int .i64 x9_2 ∧ Aside0 (slices_insertionSortCmpFunc_api_Charge_c47.l1 kq x0_2 a1 a2 x8_1 x9_2 = some r) ∧ Aside0 (kq ≤ k1) ∧ Aside0 (Kd.R k62 62 w' w0.heap.size (fun k_ => (P0_ k_ ∨ w.heap.size ≤ k_)) u9000_ x0_2) ∧ Aside0 (Kept w w' (fun k_ => P0_ k_)) ∧ Aside0 (Below w0.heap.size w0 w'))
    case atStart => exact ⟨(x0_1), (x8_1), rf_, H', ⟨Nat.le_refl _⟩, ⟨rs_ HO_0⟩, ⟨by repeat (first | (with_reducible first | exact HK.out | apply Kept.alloc | apply Kept.drewN | apply Kept.drew) | exact HK.out)⟩, bw_⟩
    case round =>
     clear H'
     try clear c5
     try clear c5b0
     obtain ⟨x0_2, x9_2, rfl, HA, HK2, HO_0, HK, HB⟩ := hrel
     cases gk with
     | zero => exact absurd HA.out (by simp [slices_insertionSortCmpFunc_api_Charge_c47.l1])
     | succ k2 =>
      have H := HA.out
      clear HA
      simp only [slices_insertionSortCmpFunc_api_Charge_c47.l1] at H
      by_cases c6 : x9_2 > a1
      ·rw [if_pos c6] at H
       have c6b0 : decide (a1 < x9_2) = true := decide_eq_true c6
       clear c6
       by_cases c7 : 0 ≤ x9_2
       rotate_left
       ·rw [if_neg c7] at H; exact absurd H (by simp)
       rw [if_pos c7] at H
       have c7b0 : decide (0 ≤ x9_2) = true := decide_eq_true c7
       clear c7
       by_cases c8 : x9_2 < (x0_2.length : Int)
       rotate_left
       ·rw [if_neg c8] at H; exact absurd H (by simp)
       rw [if_pos c8] at H
       have c8b0 : decide (x9_2 < (x0_2.length : Int)) = true := decide_eq_true c8
       clear c8
       obtain ⟨ji9, hji9⟩ : ∃ j_ : Int, (wrap64 (x9_2 - 1)) = j_ := ⟨_, rfl⟩
       replace H : (if 0 ≤ (ji9) then (if (ji9) < (x0_2.length : Int) then ((curve_Join_1.f ((rd_T62 x0_2 x9_2).f0) ((rd_T62 x0_2 x9_2).f1) ((rd_T62 x0_2 (ji9)).f0) ((rd_T62 x0_2 (ji9)).f1)).bind fun t519 => (if t519 < 0 then (slices_insertionSortCmpFunc_api_Charge_c47.l1 k2 ((x0_2.set (x9_2 : Int).toNat (⟨(rd_T62 x0_2 (ji9)).f0, (rd_T62 x0_2 (ji9)).f1⟩ : S62)).set ((ji9) : Int).toNat (⟨(rd_T62 x0_2 x9_2).f0, (rd_T62 x0_2 x9_2).f1⟩ : S62)) a1 a2 x8_1 ji9) else (slices_insertionSortCmpFunc_api_Charge_c47.l0 k2 x0_2 a1 a2 (wrap64 (x8_1 + 1))))) else (none)) else (none)) = some r := by first | (rw [hji9] at H; exact H) | (simp only [hji9] at H ⊢; exact H)
       have hji9w : (IntKind.i64.wrap (x9_2 - 1)) = ji9 := (i64_w _).trans hji9
       by_cases c10 : 0 ≤ (ji9)
       rotate_left
       ·rw [if_neg c10] at H; exact absurd H (by simp)
       rw [if_pos c10] at H
       have c10b0 : decide (0 ≤ (ji9)) = true := decide_eq_true c10
       clear c10
       by_cases c11 : (ji9) < (x0_2.length : Int)
       rotate_left
       ·rw [if_neg c11] at H; exact absurd H (by simp)
       rw [if_pos c11] at H
       have c11b0 : decide ((ji9) < (x0_2.length : Int)) = true := decide_eq_true c11
       clear c11
       have H0_ := bo_ H; clear H; obtain ⟨t519, A12, H⟩ := H0_
       try dsimp only at H
       by_cases c13 : t519 < 0
       ·rw [if_pos c13] at H
        have c13b0 : decide (t519 < 0) = true := decide_eq_true c13
        clear c13
        obtain ⟨y522, hy522⟩ : ∃ y_ : List (S62), y_ = (x0_2.set (x9_2 : Int).toNat (⟨(rd_T62 x0_2 (ji9)).f0, (rd_T62 x0_2 (ji9)).f1⟩ : S62)) := ⟨_, rfl⟩
        replace H : (slices_insertionSortCmpFunc_api_Charge_c47.l1 k2 (y522.set ((ji9) : Int).toNat (⟨(rd_T62 x0_2 x9_2).f0, (rd_T62 x0_2 x9_2).f1⟩ : S62)) a1 a2 x8_1 ji9) = some r := by first | (rw [hy522]; with_reducible exact H) | (have H2_ := (Option.bind_some _ _).symm.trans H; rw [hy522]; with_reducible exact H2_) | (have H2_ := (Option.bind_some _ _).symm.trans H; with_reducible exact H2_) | with_reducible exact H | (rw [hy522]; exact H) | exact H
        have Ny522 := Aside0.mk hy522
        clear hy522
        obtain ⟨y523, hy523⟩ : ∃ y_ : List (S62), y_ = (y522.set ((ji9) : Int).toNat (⟨(rd_T62 x0_2 x9_2).f0, (rd_T62 x0_2 x9_2).f1⟩ : S62)) := ⟨_, rfl⟩
        replace H : (slices_insertionSortCmpFunc_api_Charge_c47.l1 k2 y523 a1 a2 x8_1 ji9) = some r := by first | (rw [hy523]; with_reducible exact H) | (have H2_ := (Option.bind_some _ _).symm.trans H; rw [hy523]; with_reducible exact H2_) | (have H2_ := (Option.bind_some _ _).symm.trans H; with_reducible exact H2_) | with_reducible exact H | (rw [hy523]; exact H) | exact H
        have Ny523 := Aside0.mk hy523
        clear hy523
        have H' := Aside0.mk H
        clear H
        try go_wp2
        replace HO_0 := Aside0.mk (Kd.R_drew HO_0.out)
        replace HK := Aside0.mk (Kept.drew HK.out)
        replace HB := Aside0.mk (below_drew1 HB.out)
        obtain ⟨Ao17, co17, eo17⟩ := Kd.R_slice HO_0.out
        (first | subst eo17 | (injection eo17 with f1_ f2_ f3_; have f4_ := f1_.symm; have f5_ := f3_.symm; clear f1_ f2_ f3_; subst f4_; subst f5_))
        have p517 : 0 ≤ (x9_2 : Int) := of_decide_eq_true (by first | (with_reducible assumption) | assumption)
        have q517 : x9_2 < (x0_2.length : Int) := of_decide_eq_true (by first | (with_reducible assumption) | assumption)
        obtain ⟨ad517, e517, hx517_0, hx517_1⟩ := at_T62 (Kd.R_reads' HO_0.out).2.2 x9_2 p517 q517
        cases e517
        replace p517 := eq_true p517
        replace q517 := eq_true q517
        have p518 : 0 ≤ ((ji9) : Int) := of_decide_eq_true (by first | (with_reducible assumption) | assumption)
        have q518 : (ji9) < (x0_2.length : Int) := of_decide_eq_true (by first | (with_reducible assumption) | assumption)
        obtain ⟨ad518, e518, hx518_0, hx518_1⟩ := at_T62 (Kd.R_reads' HO_0.out).2.2 (ji9) p518 q518
        obtain rfl : ad517 = ad518 := (by injection e518)
        replace p518 := eq_true p518
        replace q518 := eq_true q518
        refine start_ (n := 17) (S := fun w' => w'.cell? (ad517.add ((x9_2).toNat * 2)) = some (.int .u64 ((rd_T62 x0_2 x9_2).f0)) ∧ w'.cell? ⟨(ad517.add ((x9_2).toNat * 2)).block, (ad517.add ((x9_2).toNat * 2)).off + 1, none⟩ = some (.int .i64 ((rd_T62 x0_2 x9_2).f1)) ∧ w'.cell? (ad517.add (((ji9)).toNat * 2)) = some (.int .u64 ((rd_T62 x0_2 (ji9)).f0)) ∧ w'.cell? ⟨(ad517.add (((ji9)).toNat * 2)).block, (ad517.add (((ji9)).toNat * 2)).off + 1, none⟩ = some (.int .i64 ((rd_T62 x0_2 (ji9)).f1))) (ds := []) (bl_ 17 0) (by kernel_rfl) rfl (by kernel_rfl) ⟨hx517_0, hx517_1, hx518_0, hx518_1⟩ (fun hHeld => ?_); refine with_tabW slices_insertionSortCmpFunc_api_Charge_c47.tab4 slices_insertionSortCmpFunc_api_Charge_c47.bits4 (fun HT_ HW_ => ?_)
        generalize wr.drew = w16 at HO_0 HK HB hx517_0 hx517_1 hx518_0 hx518_1 hHeld ⊢
        refine pa_ 0 (some 18) (bl_ 17 1) HT_ ?_
        refine pa_ 1 (some 19) (bl_ 17 3) HT_ ?_
        refine pa_ 2 (some 20) (bl_ 17 7) HT_ ?_
        refine pa_ 3 (some 21) (bl_ 17 15) HT_ ?_
        refine pa_ 4 (some 22) (bl_ 17 31) HT_ ?_
        refine pa_ 5 (some 23) (bl_ 17 63) HT_ ?_
        refine pa_ 6 (some 24) (bl_ 17 127) HT_ ?_
        refine pa_ 7 (some 25) (bl_ 17 255) HT_ ?_
        refine pa_ 9 (some 27) (bl_ 17 767) HT_ ?_
        refine pa_ 10 (some 28) (bl_ 17 1791) HT_ ?_
        refine pa_ 11 (some 29) (bl_ 17 3839) HT_ ?_
        refine pa_ 12 (some 30) (bl_ 17 7935) HT_ ?_
        refine ta_ 8 (some 26) (bl_ 17 8191) HT_ HW_ hHeld ?_
        refine ta_ 13 (some 31) (bl_ 17 16383) HT_ HW_ hHeld ?_
        refine oa_ 14 (some 32) (bl_ 17 32767) HT_ fun K hK => ?_
        refine goesT_ Try.func47 (by kernel_rfl) rfl #[.agg #[.int .u64 ((rd_T62 x0_2 x9_2).f0), .int .i64 ((rd_T62 x0_2 x9_2).f1)], .agg #[.int .u64 ((rd_T62 x0_2 (ji9)).f0), .int .i64 ((rd_T62 x0_2 (ji9)).f1)]] (by rfl) rfl rfl rfl (by (try simp only [List.map_toArray, List.map_cons, List.map_nil]); first | done | (simp only [hji9]; rfl) | rfl | (simp only [List.length_drop, List.length_take]; rfl)) ?_
        with_reducible refine (curve_Join_1.calls ((rd_T62 x0_2 x9_2).f0) ((rd_T62 x0_2 x9_2).f1) ((rd_T62 x0_2 (ji9)).f0) ((rd_T62 x0_2 (ji9)).f1) t519 _ A12.out).mono ?_
        rintro e w18 ⟨rfl, hb⟩
        have HS0_ := (hb.cell (World.block_lt_of_cell? _ _ (hHeld.1))).trans (hHeld.1)
        have HS1_ := (hb.cell (World.block_lt_of_cell? _ _ (hHeld.2.1))).trans (hHeld.2.1)
        have HS2_ := (hb.cell (World.block_lt_of_cell? _ _ (hHeld.2.2.1))).trans (hHeld.2.2.1)
        have HS3_ := (hb.cell (World.block_lt_of_cell? _ _ (hHeld.2.2.2))).trans (hHeld.2.2.2)
        refine ⟨_, rfl, ?_⟩
        replace HO_0 := rb_ HO_0 hb
        replace HK := Aside0.mk (Kept.below (S := (fun k_ => P0_ k_)) (by repeat (first | (with_reducible first | exact HK.out | apply Kept.alloc | apply Kept.drewN | apply Kept.drew) | exact HK.out)) hb)
        replace HB := Aside0.mk (below_step (hq_ HB) hb)
        clear hb
        refine hK.out _ _ ⟨HS0_, HS1_, HS2_, HS3_⟩ (fun hHeld => ?_)
        clear hK K
        refine nm_ (some 32) ?_
        refine pa_ 15 (some 33) (bl_ 17 65535) HT_ ?_
        refine pa_ 16 (some 34) (bl_ 17 131071) HT_ ?_
        refine done_ (done_of HT_.out (by kernel_rfl)) ?_
        try go_wp2
        replace HO_0 := Aside0.mk (Kd.R_drew HO_0.out)
        replace HK := Aside0.mk (Kept.drew HK.out)
        replace HB := Aside0.mk (below_drew1 HB.out)
        have p520 : 0 ≤ ((ji9) : Int) := of_decide_eq_true (by first | (with_reducible assumption) | assumption)
        have q520 : (ji9) < (x0_2.length : Int) := of_decide_eq_true (by first | (with_reducible assumption) | assumption)
        obtain ⟨ad520, e520, hx520_0, hx520_1⟩ := at_T62 (Kd.R_reads' HO_0.out).2.2 (ji9) p520 q520
        obtain rfl : ad517 = ad520 := (by injection e520)
        replace p520 := eq_true p520
        replace q520 := eq_true q520
        have p521 : 0 ≤ (x9_2 : Int) := of_decide_eq_true (by first | (with_reducible assumption) | assumption)
        have q521 : x9_2 < (x0_2.length : Int) := of_decide_eq_true (by first | (with_reducible assumption) | assumption)
        obtain ⟨ad521, e521, hx521_0, hx521_1⟩ := at_T62 (Kd.R_reads' HO_0.out).2.2 x9_2 p521 q521
        obtain rfl : ad517 = ad521 := (by injection e521)
        replace p521 := eq_true p521
        replace q521 := eq_true q521
        have p14 : 0 ≤ (x9_2 : Int) := of_decide_eq_true (by first | (with_reducible assumption) | assumption)
        have q14 : (x9_2 : Int) < ((x0_2.length : Int) : Int) := of_decide_eq_true (by first | (with_reducible assumption) | assumption)
        obtain ⟨go14, co14, eo14, gb14, gl14, cl14, HG14⟩ := Kd.R_form HO_0.out (by omega)
        (first | cases eo14 | (injection eo14 with ea_ en_ ec_; (first | subst ea_ | (injection ea_ with ea_; subst ea_)); subst ec_; clear en_))
        have GB14 := Aside0.mk gb14
        have GG14 := Aside0.mk HG14
        clear gb14 gl14 HG14
        have HMgo14 := Aside0.mk (show (P0_ go14 ∨ w.heap.size ≤ go14) from (HO_0.out.1 _ rfl))
        (first | simp only [add_plain] at hx517_0 | skip)
        (first | simp only [add_plain] at hx517_1 | skip)
        (first | simp only [add_plain] at hx518_0 | skip)
        (first | simp only [add_plain] at hx518_1 | skip)
        (first | simp only [add_plain] at hx520_0 | skip)
        (first | simp only [add_plain] at hx520_1 | skip)
        (first | simp only [add_plain] at hx521_0 | skip)
        (first | simp only [add_plain] at hx521_1 | skip)
        obtain ⟨ce14, hcl14, hM14, hcc14, hfr14⟩ := Kd.R_elem HO_0.out z62 (x9_2 : Int) p14 q14
        obtain rfl := k62_openM hM14
        have hx14_0 : World.cell? _ ⟨go14, (x9_2 : Int).toNat * 2, none⟩ = some (.int .u64 ((rd_T62 x0_2 x9_2).f0)) := hcc14 0 _ rfl
        have hx14_1 : World.cell? _ ⟨go14, (x9_2 : Int).toNat * 2 + 1, none⟩ = some (.int .i64 ((rd_T62 x0_2 x9_2).f1)) := hcc14 1 _ rfl
        have hf14_0 : World.frozen? _ ⟨go14, (x9_2 : Int).toNat * 2, none⟩ = false := hfr14 0
        have hf14_1 : World.frozen? _ ⟨go14, (x9_2 : Int).toNat * 2 + 1, none⟩ = false := hfr14 1
        clear hcl14 hcc14 hfr14 hM14
        replace p14 := eq_true p14
        replace q14 := eq_true q14
        obtain ⟨ce20, hcl20, hM20, hcc20, hfr20⟩ := Kd.R_elem HO_0.out z62 (x9_2 : Int) (of_decide_eq_true (by first | (with_reducible assumption) | assumption)) (by have h_ : (x9_2 : Int) < ((x0_2.length : Int) : Int) := of_decide_eq_true (by first | (with_reducible assumption) | assumption); first | exact h_ | (have e_ := (Kd.R_reads' HO_0.out).1; omega) | simpa using h_)
        obtain rfl := k62_openM hM20
        have HP20 := (Kd.R_seg HO_0.out (x9_2 : Int) (of_decide_eq_true (by first | (with_reducible assumption) | assumption)) (by have h_ : (x9_2 : Int) < ((x0_2.length : Int) : Int) := of_decide_eq_true (by first | (with_reducible assumption) | assumption); first | exact h_ | (have e_ := (Kd.R_reads' HO_0.out).1; omega) | simpa using h_) (seg := [.int .u64 ((rd_T62 x0_2 (ji9)).f0), .int .i64 ((rd_T62 x0_2 (ji9)).f1)]) (j := 0) hcl20 hcc20 (show 2 ≤ 2 from by decide) (x' := (⟨(rd_T62 x0_2 (ji9)).f0, (rd_T62 x0_2 (ji9)).f1⟩ : S62)) (k62_mkM _ _ _ (⟨(rd_T62 x0_2 (ji9)).f0, (rd_T62 x0_2 (ji9)).f1⟩ : S62) ) (fun _ hk => hk)).1
        rw [← Ny522.out] at HP20
        have HQ20 := Aside0.mk HP20
        clear hcl20 hcc20 hfr20 hM20 HP20
        have p15 : 0 ≤ ((ji9) : Int) := of_decide_eq_true (by first | (with_reducible assumption) | assumption)
        have q15 : ((ji9) : Int) < ((x0_2.length : Int) : Int) := of_decide_eq_true (by first | (with_reducible assumption) | assumption)
        obtain ⟨ce15, hcl15, hM15, hcc15, hfr15⟩ := Kd.R_elem HQ20.out z62 ((ji9) : Int) p15 q15
        obtain rfl := k62_openM hM15
        have hx15_0 : World.cell? _ ⟨go14, ((ji9) : Int).toNat * 2, none⟩ = some (.int .u64 ((rd_T62 y522 (ji9)).f0)) := hcc15 0 _ rfl
        have hx15_1 : World.cell? _ ⟨go14, ((ji9) : Int).toNat * 2 + 1, none⟩ = some (.int .i64 ((rd_T62 y522 (ji9)).f1)) := hcc15 1 _ rfl
        have hf15_0 : World.frozen? _ ⟨go14, ((ji9) : Int).toNat * 2, none⟩ = false := hfr15 0
        have hf15_1 : World.frozen? _ ⟨go14, ((ji9) : Int).toNat * 2 + 1, none⟩ = false := hfr15 1
        clear hcl15 hcc15 hfr15 hM15
        replace p15 := eq_true p15
        replace q15 := eq_true q15
        obtain ⟨ce21, hcl21, hM21, hcc21, hfr21⟩ := Kd.R_elem HQ20.out z62 ((ji9) : Int) (of_decide_eq_true (by first | (with_reducible assumption) | assumption)) (by have h_ : ((ji9) : Int) < ((x0_2.length : Int) : Int) := of_decide_eq_true (by first | (with_reducible assumption) | assumption); first | exact h_ | (have e_ := (Kd.R_reads' HO_0.out).1; omega) | simpa using h_)
        obtain rfl := k62_openM hM21
        have HP21 := (Kd.R_seg HQ20.out ((ji9) : Int) (of_decide_eq_true (by first | (with_reducible assumption) | assumption)) (by have h_ : ((ji9) : Int) < ((x0_2.length : Int) : Int) := of_decide_eq_true (by first | (with_reducible assumption) | assumption); first | exact h_ | (have e_ := (Kd.R_reads' HO_0.out).1; omega) | simpa using h_) (seg := [.int .u64 ((rd_T62 x0_2 x9_2).f0), .int .i64 ((rd_T62 x0_2 x9_2).f1)]) (j := 0) hcl21 hcc21 (show 2 ≤ 2 from by decide) (x' := (⟨(rd_T62 x0_2 x9_2).f0, (rd_T62 x0_2 x9_2).f1⟩ : S62)) (k62_mkM _ _ _ (⟨(rd_T62 x0_2 x9_2).f0, (rd_T62 x0_2 x9_2).f1⟩ : S62) ) (fun _ hk => hk)).1
        rw [← Ny523.out] at HP21
        have HQ21 := Aside0.mk HP21
        clear hcl21 hcc21 hfr21 hM21 HP21
        refine start_ (n := 18) (S := fun w' => w'.cell? ⟨go14, ((ji9)).toNat * 2, none⟩ = some (.int .u64 ((rd_T62 x0_2 (ji9)).f0)) ∧ w'.cell? ⟨go14, ((ji9)).toNat * 2 + 1, none⟩ = some (.int .i64 ((rd_T62 x0_2 (ji9)).f1)) ∧ w'.cell? ⟨go14, ((x9_2).toNat * 2), none⟩ = some (.int .u64 ((rd_T62 x0_2 x9_2).f0)) ∧ w'.cell? ⟨go14, ((x9_2).toNat * 2) + 1, none⟩ = some (.int .i64 ((rd_T62 x0_2 x9_2).f1))) (ds := [15, 17]) (bl_ 18 0) (by kernel_rfl) rfl (by kernel_rfl) ⟨hx520_0, hx520_1, hx521_0, hx521_1⟩ (fun hHeld => ?_); refine with_tabW slices_insertionSortCmpFunc_api_Charge_c47.tab6 slices_insertionSortCmpFunc_api_Charge_c47.bits6 (fun HT_ HW_ => ?_)
        generalize w18.drew = w19 at HO_0 HK HB GG14 HQ20 HQ21 hf14_0 hf14_1 hf15_0 hf15_1 hx14_0 hx14_1 hx15_0 hx15_1 hx517_0 hx517_1 hx518_0 hx518_1 hx520_0 hx520_1 hx521_0 hx521_1 hHeld ⊢
        (try (have hzx14_0 := hx14_0; simp only [World.setCells, show k62.sz = 2 from rfl, Nat.add_zero] at hzx14_0; (try simp [go_sem] at hzx14_0)))
        (try (have hzx14_1 := hx14_1; simp only [World.setCells, show k62.sz = 2 from rfl, Nat.add_zero] at hzx14_1; (try simp [go_sem] at hzx14_1)))
        (try (have hzf14_0 := hf14_0; simp only [World.setCells, show k62.sz = 2 from rfl, Nat.add_zero] at hzf14_0; (try simp [go_sem] at hzf14_0)))
        (try (have hzf14_1 := hf14_1; simp only [World.setCells, show k62.sz = 2 from rfl, Nat.add_zero] at hzf14_1; (try simp [go_sem] at hzf14_1)))
        (try (have hzx15_0 := hx15_0; simp only [World.setCells, show k62.sz = 2 from rfl, Nat.add_zero] at hzx15_0; (try simp [go_sem] at hzx15_0)))
        (try (have hzx15_1 := hx15_1; simp only [World.setCells, show k62.sz = 2 from rfl, Nat.add_zero] at hzx15_1; (try simp [go_sem] at hzx15_1)))
        (try (have hzf15_0 := hf15_0; simp only [World.setCells, show k62.sz = 2 from rfl, Nat.add_zero] at hzf15_0; (try simp [go_sem] at hzf15_0)))
        (try (have hzf15_1 := hf15_1; simp only [World.setCells, show k62.sz = 2 from rfl, Nat.add_zero] at hzf15_1; (try simp [go_sem] at hzf15_1)))
        refine pa_ 0 (some 37) (bl_ 18 1) HT_ ?_
        refine pa_ 1 (some 38) (bl_ 18 3) HT_ ?_
        refine pa_ 2 (some 39) (bl_ 18 7) HT_ ?_
        refine pa_ 3 (some 40) (bl_ 18 15) HT_ ?_
        refine pa_ 4 (some 41) (bl_ 18 31) HT_ ?_
        refine pa_ 5 (some 42) (bl_ 18 63) HT_ ?_
        refine pa_ 6 (some 43) (bl_ 18 127) HT_ ?_
        refine pa_ 7 (some 44) (bl_ 18 255) HT_ ?_
        refine pa_ 8 (some 45) (bl_ 18 511) HT_ ?_
        refine pa_ 10 (some 47) (bl_ 18 1535) HT_ ?_
        refine pa_ 11 (some 48) (bl_ 18 3583) HT_ ?_
        refine pa_ 12 (some 49) (bl_ 18 7679) HT_ ?_
        refine ta_ 9 (some 46) (bl_ 18 8191) HT_ HW_ hHeld ?_
        refine ta_ 13 (some 50) (bl_ 18 16383) HT_ HW_ hHeld ?_
        refine pa_ 14 (some 51) (bl_ 18 32767) HT_ ?_
        refine last_ (i := 15) (N := none) (bl_ 18 65535) rfl rfl (one_of HT_.out (by kernel_rfl)) (by decide) (fun K hK => ?_)
        refine sk_ ?_
        refine hK.out _ _ ?_
        clear hK K
        refine pa_ 16 (some 52) (bl_ 18 131071) HT_ ?_
        refine last_ (i := 17) (N := none) (bl_ 18 262143) rfl rfl (one_of HT_.out (by kernel_rfl)) (by decide) (fun K hK => ?_)
        refine sk_ ?_
        refine hK.out _ _ ?_
        clear hK K
        refine done_ (done_of HT_.out (by kernel_rfl)) ?_
        try go_wp2
        go_roundg k2
        case measure => have := HK1.out; have := HK2.out; omega
        case rel => exact ⟨(y523), (ji9), (by first | rfl | (simp; done) | (simp only [← hji9] <;> (first | rfl | simp)) | (simp [*]; done)), H', ⟨by have := HK1.out; have := HK2.out; omega⟩, ⟨by (with_reducible repeat (first | apply Kd.R_alloc | apply Kd.R_drewN | apply Kd.R_drew)); exact HQ21.out⟩, ⟨by repeat (first | (with_reducible first | exact HK.out | apply Kept.alloc | apply Kept.drewN | apply Kept.drew | refine Kept.setCell ?_ HMgo14.out _ | refine Kept.setCell ?_ HMgo14.out _ | refine Kept.setCell ?_ HMgo14.out _ | refine Kept.setCell ?_ HMgo14.out _) | exact HK.out)⟩, ⟨by repeat (first | (with_reducible first | exact HB.out | apply below_alloc | apply pw_below_drewN | apply below_drew1 | refine below_set ?_ GB14.out | refine below_set ?_ GB14.out | refine below_set ?_ GB14.out | refine below_set ?_ GB14.out) | exact HB.out)⟩⟩
       ·rw [if_neg c13] at H
        have c13b0 : decide (t519 < 0) = false := decide_eq_false c13
        clear c13
        have H' := Aside0.mk H
        clear H
        try go_wp2
        replace HO_0 := Aside0.mk (Kd.R_drew HO_0.out)
        replace HK := Aside0.mk (Kept.drew HK.out)
        replace HB := Aside0.mk (below_drew1 HB.out)
        obtain ⟨Ao23, co23, eo23⟩ := Kd.R_slice HO_0.out
        (first | subst eo23 | (injection eo23 with f1_ f2_ f3_; have f4_ := f1_.symm; have f5_ := f3_.symm; clear f1_ f2_ f3_; subst f4_; subst f5_))
        have p517 : 0 ≤ (x9_2 : Int) := of_decide_eq_true (by first | (with_reducible assumption) | assumption)
        have q517 : x9_2 < (x0_2.length : Int) := of_decide_eq_true (by first | (with_reducible assumption) | assumption)
        obtain ⟨ad517, e517, hx517_0, hx517_1⟩ := at_T62 (Kd.R_reads' HO_0.out).2.2 x9_2 p517 q517
        cases e517
        replace p517 := eq_true p517
        replace q517 := eq_true q517
        have p518 : 0 ≤ ((ji9) : Int) := of_decide_eq_true (by first | (with_reducible assumption) | assumption)
        have q518 : (ji9) < (x0_2.length : Int) := of_decide_eq_true (by first | (with_reducible assumption) | assumption)
        obtain ⟨ad518, e518, hx518_0, hx518_1⟩ := at_T62 (Kd.R_reads' HO_0.out).2.2 (ji9) p518 q518
        obtain rfl : ad517 = ad518 := (by injection e518)
        replace p518 := eq_true p518
        replace q518 := eq_true q518
        refine start_ (n := 17) (S := fun w' => w'.cell? (ad517.add ((x9_2).toNat * 2)) = some (.int .u64 ((rd_T62 x0_2 x9_2).f0)) ∧ w'.cell? ⟨(ad517.add ((x9_2).toNat * 2)).block, (ad517.add ((x9_2).toNat * 2)).off + 1, none⟩ = some (.int .i64 ((rd_T62 x0_2 x9_2).f1)) ∧ w'.cell? (ad517.add (((ji9)).toNat * 2)) = some (.int .u64 ((rd_T62 x0_2 (ji9)).f0)) ∧ w'.cell? ⟨(ad517.add (((ji9)).toNat * 2)).block, (ad517.add (((ji9)).toNat * 2)).off + 1, none⟩ = some (.int .i64 ((rd_T62 x0_2 (ji9)).f1))) (ds := []) (bl_ 17 0) (by kernel_rfl) rfl (by kernel_rfl) ⟨hx517_0, hx517_1, hx518_0, hx518_1⟩ (fun hHeld => ?_); refine with_tabW slices_insertionSortCmpFunc_api_Charge_c47.tab4 slices_insertionSortCmpFunc_api_Charge_c47.bits4 (fun HT_ HW_ => ?_)
        generalize wr.drew = w22 at HO_0 HK HB hx517_0 hx517_1 hx518_0 hx518_1 hHeld ⊢
        refine pa_ 0 (some 18) (bl_ 17 1) HT_ ?_
        refine pa_ 1 (some 19) (bl_ 17 3) HT_ ?_
        refine pa_ 2 (some 20) (bl_ 17 7) HT_ ?_
        refine pa_ 3 (some 21) (bl_ 17 15) HT_ ?_
        refine pa_ 4 (some 22) (bl_ 17 31) HT_ ?_
        refine pa_ 5 (some 23) (bl_ 17 63) HT_ ?_
        refine pa_ 6 (some 24) (bl_ 17 127) HT_ ?_
        refine pa_ 7 (some 25) (bl_ 17 255) HT_ ?_
        refine pa_ 9 (some 27) (bl_ 17 767) HT_ ?_
        refine pa_ 10 (some 28) (bl_ 17 1791) HT_ ?_
        refine pa_ 11 (some 29) (bl_ 17 3839) HT_ ?_
        refine pa_ 12 (some 30) (bl_ 17 7935) HT_ ?_
        refine ta_ 8 (some 26) (bl_ 17 8191) HT_ HW_ hHeld ?_
        refine ta_ 13 (some 31) (bl_ 17 16383) HT_ HW_ hHeld ?_
        refine oa_ 14 (some 32) (bl_ 17 32767) HT_ fun K hK => ?_
        refine goesT_ Try.func47 (by kernel_rfl) rfl #[.agg #[.int .u64 ((rd_T62 x0_2 x9_2).f0), .int .i64 ((rd_T62 x0_2 x9_2).f1)], .agg #[.int .u64 ((rd_T62 x0_2 (ji9)).f0), .int .i64 ((rd_T62 x0_2 (ji9)).f1)]] (by rfl) rfl rfl rfl (by (try simp only [List.map_toArray, List.map_cons, List.map_nil]); first | done | (simp only [hji9]; rfl) | rfl | (simp only [List.length_drop, List.length_take]; rfl)) ?_
        with_reducible refine (curve_Join_1.calls ((rd_T62 x0_2 x9_2).f0) ((rd_T62 x0_2 x9_2).f1) ((rd_T62 x0_2 (ji9)).f0) ((rd_T62 x0_2 (ji9)).f1) t519 _ A12.out).mono ?_
        rintro e w24 ⟨rfl, hb⟩
        have HS0_ := (hb.cell (World.block_lt_of_cell? _ _ (hHeld.1))).trans (hHeld.1)
        have HS1_ := (hb.cell (World.block_lt_of_cell? _ _ (hHeld.2.1))).trans (hHeld.2.1)
        have HS2_ := (hb.cell (World.block_lt_of_cell? _ _ (hHeld.2.2.1))).trans (hHeld.2.2.1)
        have HS3_ := (hb.cell (World.block_lt_of_cell? _ _ (hHeld.2.2.2))).trans (hHeld.2.2.2)
        refine ⟨_, rfl, ?_⟩
        replace HO_0 := rb_ HO_0 hb
        replace HK := Aside0.mk (Kept.below (S := (fun k_ => P0_ k_)) (by repeat (first | (with_reducible first | exact HK.out | apply Kept.alloc | apply Kept.drewN | apply Kept.drew) | exact HK.out)) hb)
        replace HB := Aside0.mk (below_step (hq_ HB) hb)
        clear hb
        refine hK.out _ _ ⟨HS0_, HS1_, HS2_, HS3_⟩ (fun hHeld => ?_)
        clear hK K
        refine nm_ (some 32) ?_
        refine pa_ 15 (some 33) (bl_ 17 65535) HT_ ?_
        refine pa_ 16 (some 34) (bl_ 17 131071) HT_ ?_
        refine done_ (done_of HT_.out (by kernel_rfl)) ?_
        try go_wp2
        go_roundg k2
        case measure => have := HK1.out; have := HK2.out; omega
        case rel => exact ⟨(x0_2), (wrap64 (x8_1 + 1)), rf_, H', ⟨by have := HK1.out; have := HK2.out; omega⟩, ⟨rs_ HO_0⟩, ⟨by repeat (first | (with_reducible first | exact HK.out | apply Kept.alloc | apply Kept.drewN | apply Kept.drew) | exact HK.out)⟩, bw_⟩
      ·rw [if_neg c6] at H
       have c6b0 : decide (a1 < x9_2) = false := decide_eq_false c6
       clear c6
       have H' := Aside0.mk H
       clear H
       try go_wp2
       replace HO_0 := Aside0.mk (Kd.R_drew HO_0.out)
       replace HK := Aside0.mk (Kept.drew HK.out)
       replace HB := Aside0.mk (below_drew1 HB.out)
       refine start_ (n := 17) (S := fun w' => True) (ds := []) (bl_ 17 0) (by kernel_rfl) rfl (by kernel_rfl) trivial (fun hHeld => ?_); refine with_tabW slices_insertionSortCmpFunc_api_Charge_c47.tab4 slices_insertionSortCmpFunc_api_Charge_c47.bits4 (fun HT_ HW_ => ?_)
       generalize wr.drew = w25 at HO_0 HK HB hHeld ⊢
       refine pa_ 0 (some 18) (bl_ 17 1) HT_ ?_
       refine pa_ 1 (some 19) (bl_ 17 3) HT_ ?_
       refine pa_ 2 (some 20) (bl_ 17 7) HT_ ?_
       refine pa_ 3 (some 21) (bl_ 17 15) HT_ ?_
       refine pz_ 4 (some 22) (bl_ 17 31) HT_ ?_
       refine pz_ 5 (some 23) (bl_ 17 63) HT_ ?_
       refine pz_ 6 (some 24) (bl_ 17 127) HT_ ?_
       refine pz_ 7 (some 25) (bl_ 17 255) HT_ ?_
       refine pz_ 8 (some 26) (bl_ 17 511) HT_ ?_
       refine pz_ 9 (some 27) (bl_ 17 1023) HT_ ?_
       refine pz_ 10 (some 28) (bl_ 17 2047) HT_ ?_
       refine pz_ 11 (some 29) (bl_ 17 4095) HT_ ?_
       refine pz_ 12 (some 30) (bl_ 17 8191) HT_ ?_
       refine pz_ 13 (some 31) (bl_ 17 16383) HT_ ?_
       refine pz_ 14 (some 32) (bl_ 17 32767) HT_ ?_
       refine pz_ 15 (some 33) (bl_ 17 65535) HT_ ?_
       refine pa_ 16 (some 34) (bl_ 17 131071) HT_ ?_
       refine done_ (done_of HT_.out (by kernel_rfl)) ?_
       try go_wp2
       go_roundg k2
       case measure => have := HK1.out; have := HK2.out; omega
       case rel => exact ⟨(x0_2), (wrap64 (x8_1 + 1)), rf_, H', ⟨by have := HK1.out; have := HK2.out; omega⟩, ⟨rs_ HO_0⟩, ⟨by repeat (first | (with_reducible first | exact HK.out | apply Kept.alloc | apply Kept.drewN | apply Kept.drew) | exact HK.out)⟩, bw_⟩
   ·rw [if_neg c5] at H
    have c5b0 : decide (x8_1 < a2) = false := decide_eq_false c5
    clear c5
    obtain rfl := Option.some.inj H
    go_wp2
    first | go_end0 | ((try simp only [Exit.inBlock, Exit.then]); refine bodyPost_ret (results_none rfl _ _ _) rfl ?_)
    exact ⟨by first | rfl | (simp [errW_none, errW_some] <;> rfl) | (simp [*, errW_none, errW_some] <;> rfl), by (with_reducible repeat (first | apply Kd.R_alloc | apply Kd.R_drewN | apply Kd.R_drew)); exact HO_0.out, by repeat (first | (with_reducible first | exact HB.out | apply below_alloc | apply pw_below_drewN | apply below_drew1) | exact HB.out), by repeat (first | (with_reducible first | exact HK.out | apply Kept.alloc | apply Kept.drewN | apply Kept.drew) | exact HK.out)⟩

end Go.Proofs.Ytimhghmfhfggoaa.X
