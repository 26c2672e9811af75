-- written by xprint.py, a program of this session over the kit's print
import Derived.Test.YtimhghmfhfggoaaX0
import Derived.Test.YtimhghmfhfggoaaX46
import Derived.Test.YtimhghmfhfggoaaX49
namespace Go.Proofs.Ytimhghmfhfggoaa.X
open Go.RowKit Go.Proofs.YtimhghmfhfggoaaW.PrintWords Go.Proofs.YtimhghmfhfggoaaW.PrintLast Go.Proofs.YtimhghmfhfggoaaW.PrintMore
attribute [local go_sem] max2_int min2_int max_two min_two max_three min_three max_four min_four   -- for this text's walks alone
set_option linter.unusedVariables false
set_option linter.unusedSimpArgs false

mutual
def slices_symMergeCmpFunc_api_Charge_c47.l0 : Nat → List (S62) → Int → Int → Int → Option ((List (S62)))
  | 0, _, _, _, _ => none
  | k + 1, x0, x1, x10, x11 => if x10 < x11 then (if 0 ≤ (wrap64 ((IntKind.u64.wrap (wrap64 (x10 + x11))) / 2)) then (if (wrap64 ((IntKind.u64.wrap (wrap64 (x10 + x11))) / 2)) < (x0.length : Int) then (if 0 ≤ x1 then (if x1 < (x0.length : Int) then ((curve_Join_1.f ((rd_T62 x0 (wrap64 ((IntKind.u64.wrap (wrap64 (x10 + x11))) / 2))).f0) ((rd_T62 x0 (wrap64 ((IntKind.u64.wrap (wrap64 (x10 + x11))) / 2))).f1) ((rd_T62 x0 x1).f0) ((rd_T62 x0 x1).f1)).bind fun t533 => (if t533 < 0 then (slices_symMergeCmpFunc_api_Charge_c47.l0 k x0 x1 (wrap64 ((wrap64 ((IntKind.u64.wrap (wrap64 (x10 + x11))) / 2)) + 1)) x11) else (slices_symMergeCmpFunc_api_Charge_c47.l0 k x0 x1 x10 (wrap64 ((IntKind.u64.wrap (wrap64 (x10 + x11))) / 2))))) else (none)) else (none)) else (none)) else (none)) else (slices_symMergeCmpFunc_api_Charge_c47.l1 k x0 x10 x1)
def slices_symMergeCmpFunc_api_Charge_c47.l1 : Nat → List (S62) → Int → Int → Option ((List (S62)))
  | 0, _, _, _ => none
  | k + 1, x0, x10, x13 => if x13 < (wrap64 (x10 - 1)) then (if 0 ≤ (wrap64 (x13 + 1)) then (if (wrap64 (x13 + 1)) < (x0.length : Int) then (if 0 ≤ x13 then (if x13 < (x0.length : Int) then (slices_symMergeCmpFunc_api_Charge_c47.l1 k ((x0.set (x13 : Int).toNat (⟨(rd_T62 x0 (wrap64 (x13 + 1))).f0, (rd_T62 x0 (wrap64 (x13 + 1))).f1⟩ : S62)).set ((wrap64 (x13 + 1)) : Int).toNat (⟨(rd_T62 x0 x13).f0, (rd_T62 x0 x13).f1⟩ : S62)) x10 (wrap64 (x13 + 1))) else (none)) else (none)) else (none)) else (none)) else (some x0)
def slices_symMergeCmpFunc_api_Charge_c47.l2 : Nat → List (S62) → Int → Int → Int → Option ((List (S62)))
  | 0, _, _, _, _ => none
  | k + 1, x0, x2, x14, x15 => if x14 < x15 then (if 0 ≤ x2 then (if x2 < (x0.length : Int) then (if 0 ≤ (wrap64 ((IntKind.u64.wrap (wrap64 (x14 + x15))) / 2)) then (if (wrap64 ((IntKind.u64.wrap (wrap64 (x14 + x15))) / 2)) < (x0.length : Int) then ((curve_Join_1.f ((rd_T62 x0 x2).f0) ((rd_T62 x0 x2).f1) ((rd_T62 x0 (wrap64 ((IntKind.u64.wrap (wrap64 (x14 + x15))) / 2))).f0) ((rd_T62 x0 (wrap64 ((IntKind.u64.wrap (wrap64 (x14 + x15))) / 2))).f1)).bind fun t540 => (if t540 < 0 then (slices_symMergeCmpFunc_api_Charge_c47.l2 k x0 x2 x14 (wrap64 ((IntKind.u64.wrap (wrap64 (x14 + x15))) / 2))) else (slices_symMergeCmpFunc_api_Charge_c47.l2 k x0 x2 (wrap64 ((wrap64 ((IntKind.u64.wrap (wrap64 (x14 + x15))) / 2)) + 1)) x15))) else (none)) else (none)) else (none)) else (none)) else (slices_symMergeCmpFunc_api_Charge_c47.l3 k x0 x14 x2)
def slices_symMergeCmpFunc_api_Charge_c47.l3 : Nat → List (S62) → Int → Int → Option ((List (S62)))
  | 0, _, _, _ => none
  | k + 1, x0, x14, x17 => if x17 > x14 then (if 0 ≤ (wrap64 (x17 - 1)) then (if (wrap64 (x17 - 1)) < (x0.length : Int) then (if 0 ≤ x17 then (if x17 < (x0.length : Int) then (slices_symMergeCmpFunc_api_Charge_c47.l3 k ((x0.set (x17 : Int).toNat (⟨(rd_T62 x0 (wrap64 (x17 - 1))).f0, (rd_T62 x0 (wrap64 (x17 - 1))).f1⟩ : S62)).set ((wrap64 (x17 - 1)) : Int).toNat (⟨(rd_T62 x0 x17).f0, (rd_T62 x0 x17).f1⟩ : S62)) x14 (wrap64 (x17 - 1))) else (none)) else (none)) else (none)) else (none)) else (some x0)
def slices_symMergeCmpFunc_api_Charge_c47.j4 : Nat → List (S62) → Int → Int → Int → Int → Int → Int → Int → Int → Option ((List (S62)))
  | 0, _, _, _, _, _, _, _, _, _ => none
  | k + 1, x0, x1, x2, x3, x4, x18, x19, x20, x21 => slices_symMergeCmpFunc_api_Charge_c47.l4 k x0 x1 x2 x3 x4 x18 x19 x20 x21 (wrap64 (x19 - 1))
def slices_symMergeCmpFunc_api_Charge_c47.l4 : Nat → List (S62) → Int → Int → Int → Int → Int → Int → Int → Int → Int → Option ((List (S62)))
  | 0, _, _, _, _, _, _, _, _, _, _ => none
  | k + 1, x0, x1, x2, x3, x4, x18, x19, x20, x21, x22 => if x20 < x21 then (if 0 ≤ (wrap64 (x22 - (wrap64 ((IntKind.u64.wrap (wrap64 (x20 + x21))) / 2)))) then (if (wrap64 (x22 - (wrap64 ((IntKind.u64.wrap (wrap64 (x20 + x21))) / 2)))) < (x0.length : Int) then (if 0 ≤ (wrap64 ((IntKind.u64.wrap (wrap64 (x20 + x21))) / 2)) then (if (wrap64 ((IntKind.u64.wrap (wrap64 (x20 + x21))) / 2)) < (x0.length : Int) then ((curve_Join_1.f ((rd_T62 x0 (wrap64 (x22 - (wrap64 ((IntKind.u64.wrap (wrap64 (x20 + x21))) / 2))))).f0) ((rd_T62 x0 (wrap64 (x22 - (wrap64 ((IntKind.u64.wrap (wrap64 (x20 + x21))) / 2))))).f1) ((rd_T62 x0 (wrap64 ((IntKind.u64.wrap (wrap64 (x20 + x21))) / 2))).f0) ((rd_T62 x0 (wrap64 ((IntKind.u64.wrap (wrap64 (x20 + x21))) / 2))).f1)).bind fun t547 => (if t547 < 0 then (slices_symMergeCmpFunc_api_Charge_c47.l4 k x0 x1 x2 x3 x4 x18 x19 x20 (wrap64 ((IntKind.u64.wrap (wrap64 (x20 + x21))) / 2)) x22) else (slices_symMergeCmpFunc_api_Charge_c47.l4 k x0 x1 x2 x3 x4 x18 x19 (wrap64 ((wrap64 ((IntKind.u64.wrap (wrap64 (x20 + x21))) / 2)) + 1)) x21 x22))) else (none)) else (none)) else (none)) else (none)) else (if x20 < x2 then (slices_symMergeCmpFunc_api_Charge_c47.j6 k x0 x1 x2 x3 x4 x18 x20 (wrap64 (x19 - x20)) (decide (x2 < (wrap64 (x19 - x20))))) else (slices_symMergeCmpFunc_api_Charge_c47.j6 k x0 x1 x2 x3 x4 x18 x20 (wrap64 (x19 - x20)) false))
def slices_symMergeCmpFunc_api_Charge_c47.j6 : Nat → List (S62) → Int → Int → Int → Int → Int → Int → Int → Bool → Option ((List (S62)))
  | 0, _, _, _, _, _, _, _, _, _ => none
  | k + 1, x0, x1, x2, x3, x4, x18, x20, x24, x185 => if x185 = true then ((slices_rotateCmpFunc_api_Charge_c47.f k x0 x20 x2 x24 x4).bind fun t548 => (slices_symMergeCmpFunc_api_Charge_c47.j7 k t548 x1 x3 x4 x18 x20 x24)) else (slices_symMergeCmpFunc_api_Charge_c47.j7 k x0 x1 x3 x4 x18 x20 x24)
def slices_symMergeCmpFunc_api_Charge_c47.j7 : Nat → List (S62) → Int → Int → Int → Int → Int → Int → Option ((List (S62)))
  | 0, _, _, _, _, _, _, _ => none
  | k + 1, x0, x1, x3, x4, x18, x20, x24 => if x1 < x20 then (slices_symMergeCmpFunc_api_Charge_c47.j8 k x0 x1 x3 x4 x18 x20 x24 (decide (x20 < x18))) else (slices_symMergeCmpFunc_api_Charge_c47.j8 k x0 x1 x3 x4 x18 x20 x24 false)
def slices_symMergeCmpFunc_api_Charge_c47.j8 : Nat → List (S62) → Int → Int → Int → Int → Int → Int → Bool → Option ((List (S62)))
  | 0, _, _, _, _, _, _, _, _ => none
  | k + 1, x0, x1, x3, x4, x18, x20, x24, x199 => if x199 = true then ((slices_symMergeCmpFunc_api_Charge_c47.f k x0 x1 x20 x18 x4).bind fun t549 => (if x18 < x24 then (if x24 < x3 then ((slices_symMergeCmpFunc_api_Charge_c47.f k t549 x18 x24 x3 x4).bind fun t550 => (some t550)) else (some t549)) else (some t549))) else (if x18 < x24 then (if x24 < x3 then ((slices_symMergeCmpFunc_api_Charge_c47.f k x0 x18 x24 x3 x4).bind fun t551 => (some t551)) else (some x0)) else (some x0))
def slices_symMergeCmpFunc_api_Charge_c47.f : Nat → List (S62) → Int → Int → Int → Int → Option ((List (S62)))
  | 0, _, _, _, _, _ => none
  | k + 1, l0, a1, a2, a3, a4 => if (wrap64 (a2 - a1)) = 1 then (slices_symMergeCmpFunc_api_Charge_c47.l0 k l0 a1 a2 a3) else (if (wrap64 (a3 - a2)) = 1 then (slices_symMergeCmpFunc_api_Charge_c47.l2 k l0 a2 a1 a2) else (if a2 > (wrap64 ((IntKind.u64.wrap (wrap64 (a1 + a3))) / 2)) then (slices_symMergeCmpFunc_api_Charge_c47.j4 k l0 a1 a2 a3 a4 (wrap64 ((IntKind.u64.wrap (wrap64 (a1 + a3))) / 2)) (wrap64 ((wrap64 ((IntKind.u64.wrap (wrap64 (a1 + a3))) / 2)) + a2)) (wrap64 ((wrap64 ((wrap64 ((IntKind.u64.wrap (wrap64 (a1 + a3))) / 2)) + a2)) - a3)) (wrap64 ((IntKind.u64.wrap (wrap64 (a1 + a3))) / 2))) else (slices_symMergeCmpFunc_api_Charge_c47.j4 k l0 a1 a2 a3 a4 (wrap64 ((IntKind.u64.wrap (wrap64 (a1 + a3))) / 2)) (wrap64 ((wrap64 ((IntKind.u64.wrap (wrap64 (a1 + a3))) / 2)) + a2)) a1 a2)))
end
def slices_symMergeCmpFunc_api_Charge_c47.T5 : Bool × List (List Nat × List Nat) := (true, [([], []), ([], []), ([], []), ([1, 2], [1, 2]), ([3], [3]), ([], []), ([], []), ([5, 6], [5, 6]), ([7], [7]), ([0, 4, 8], [0, 4, 8]), ([9], [9])])
def slices_symMergeCmpFunc_api_Charge_c47.B5 : List Nat := [0, 0, 0, 6, 14, 0, 0, 96, 224, 511, 1023]
theorem slices_symMergeCmpFunc_api_Charge_c47.tab5 : rtab .any (opsOf Try.f78 5) = slices_symMergeCmpFunc_api_Charge_c47.T5 := by kernel_rfl
theorem slices_symMergeCmpFunc_api_Charge_c47.bits5 : waitsOk slices_symMergeCmpFunc_api_Charge_c47.T5.2 slices_symMergeCmpFunc_api_Charge_c47.B5 = true := by kernel_rfl
def slices_symMergeCmpFunc_api_Charge_c47.T11 : Bool × List (List Nat × List Nat) := (true, [([], []), ([], []), ([], []), ([], []), ([3], [3]), ([], []), ([], []), ([6], [6]), ([5, 7], [5, 7]), ([8], [8]), ([], []), ([], []), ([10, 11], [10, 11]), ([12], [12]), ([0, 1, 0, 1, 5, 6, 7, 8, 9, 13], [0, 1]), ([14, 9, 0, 1, 5, 6, 7, 8, 9, 13], [9, 14]), ([2, 4, 0, 1, 2, 3, 4, 5, 6, 7, 8, 9, 10, 11, 12, 13, 14, 15], [2, 4]), ([16, 13, 15, 0, 1, 2, 3, 4, 5, 6, 7, 8, 9, 10, 11, 12, 13, 14, 15], [13, 16])])
def slices_symMergeCmpFunc_api_Charge_c47.B11 : List Nat := [0, 0, 0, 0, 8, 0, 0, 64, 224, 480, 0, 0, 3072, 7168, 16355, 32739, 65535, 131071]
theorem slices_symMergeCmpFunc_api_Charge_c47.tab11 : rtab .any (opsOf Try.f78 11) = slices_symMergeCmpFunc_api_Charge_c47.T11 := by kernel_rfl
theorem slices_symMergeCmpFunc_api_Charge_c47.bits11 : waitsOk slices_symMergeCmpFunc_api_Charge_c47.T11.2 slices_symMergeCmpFunc_api_Charge_c47.B11 = true := by kernel_rfl
def slices_symMergeCmpFunc_api_Charge_c47.T17 : Bool × List (List Nat × List Nat) := (true, [([], []), ([], []), ([], []), ([1, 2], [1, 2]), ([3], [3]), ([], []), ([], []), ([5, 6], [5, 6]), ([7], [7]), ([0, 4, 8], [0, 4, 8]), ([9], [9]), ([10], [10])])
def slices_symMergeCmpFunc_api_Charge_c47.B17 : List Nat := [0, 0, 0, 6, 14, 0, 0, 96, 224, 511, 1023, 2047]
theorem slices_symMergeCmpFunc_api_Charge_c47.tab17 : rtab .any (opsOf Try.f78 17) = slices_symMergeCmpFunc_api_Charge_c47.T17 := by kernel_rfl
theorem slices_symMergeCmpFunc_api_Charge_c47.bits17 : waitsOk slices_symMergeCmpFunc_api_Charge_c47.T17.2 slices_symMergeCmpFunc_api_Charge_c47.B17 = true := by kernel_rfl
def slices_symMergeCmpFunc_api_Charge_c47.T23 : Bool × List (List Nat × List Nat) := (true, [([], []), ([], []), ([], []), ([], []), ([3], [3]), ([], []), ([], []), ([6], [6]), ([5, 7], [5, 7]), ([8], [8]), ([], []), ([], []), ([10, 11], [10, 11]), ([12], [12]), ([0, 1, 0, 1, 5, 6, 7, 8, 9, 13], [0, 1]), ([14, 9, 0, 1, 5, 6, 7, 8, 9, 13], [9, 14]), ([2, 4, 0, 1, 2, 3, 4, 5, 6, 7, 8, 9, 10, 11, 12, 13, 14, 15], [2, 4]), ([16, 13, 15, 0, 1, 2, 3, 4, 5, 6, 7, 8, 9, 10, 11, 12, 13, 14, 15], [13, 16])])
def slices_symMergeCmpFunc_api_Charge_c47.B23 : List Nat := [0, 0, 0, 0, 8, 0, 0, 64, 224, 480, 0, 0, 3072, 7168, 16355, 32739, 65535, 131071]
theorem slices_symMergeCmpFunc_api_Charge_c47.tab23 : rtab .any (opsOf Try.f78 23) = slices_symMergeCmpFunc_api_Charge_c47.T23 := by kernel_rfl
theorem slices_symMergeCmpFunc_api_Charge_c47.bits23 : waitsOk slices_symMergeCmpFunc_api_Charge_c47.T23.2 slices_symMergeCmpFunc_api_Charge_c47.B23 = true := by kernel_rfl
def slices_symMergeCmpFunc_api_Charge_c47.T35 : Bool × List (List Nat × List Nat) := (true, [([], []), ([], []), ([], []), ([], []), ([2, 3], [2, 3]), ([1, 4], [1, 4]), ([5], [5]), ([], []), ([], []), ([7, 8], [7, 8]), ([9], [9]), ([0, 6, 10], [0, 6, 10]), ([11], [11]), ([12], [12])])
def slices_symMergeCmpFunc_api_Charge_c47.B35 : List Nat := [0, 0, 0, 0, 12, 30, 62, 0, 0, 384, 896, 2047, 4095, 8191]
theorem slices_symMergeCmpFunc_api_Charge_c47.tab35 : rtab .any (opsOf Try.f78 35) = slices_symMergeCmpFunc_api_Charge_c47.T35 := by kernel_rfl
theorem slices_symMergeCmpFunc_api_Charge_c47.bits35 : waitsOk slices_symMergeCmpFunc_api_Charge_c47.T35.2 slices_symMergeCmpFunc_api_Charge_c47.B35 = true := by kernel_rfl
set_option maxHeartbeats 8000000 in
set_option maxRecDepth 100000 in
theorem slices_symMergeCmpFunc_api_Charge_c47.calls (k : Nat) : ∀ (P0_ : Nat → Prop) (u9000_ : Value) (l0 : List (S62)) (a1 : Int) (a2 : Int) (a3 : Int) (a4 : Int) (r : List (S62)) (w0 w : World) (hB : Below w0.heap.size w0 w) (ho0 : Kd.R k62 62 w w0.heap.size P0_ u9000_ l0) (h : slices_symMergeCmpFunc_api_Charge_c47.f k l0 a1 a2 a3 a4 = some r),
  Calls Try.prog 78 #[u9000_, .int .i64 a1, .int .i64 a2, .int .i64 a3, .func (.func 47) #[] #[]] w fun e w' => e = .returned (.tuple #[]) ∧ Kd.R k62 62 w' w0.heap.size (fun k_ => (P0_ k_ ∨ w.heap.size ≤ k_)) u9000_ r ∧ Below w0.heap.size w0 w' ∧ Kept w w' (fun k_ => P0_ k_) := by
 induction k using Nat.strongRecOn with
 | _ k ih =>
 intro P0_ u9000_ l0 a1 a2 a3 a4 r w0 w hB ho0 h
 cases k with
 | zero => exact absurd h (by simp [slices_symMergeCmpFunc_api_Charge_c47.f])
 | succ k =>
 simp only [slices_symMergeCmpFunc_api_Charge_c47.f] at h
 have hu62 := Try.underlying62
 have HO0 := Aside0.mk (show Kd.R k62 62 w w0.heap.size (fun k_ => (P0_ k_ ∨ w.heap.size ≤ k_)) u9000_ l0 from Kd.R_mono ho0 (fun k_ hk => (.inl hk)))
 have HK := Aside0.mk (Kept.refl w (fun k_ => P0_ k_))
 have HW0 := Aside0.mk hB.size
 have HB := Aside0.mk hB
 clear hB
 have H : (if (wrap64 (a2 - a1)) = 1 then (slices_symMergeCmpFunc_api_Charge_c47.l0 k l0 a1 a2 a3) else (if (wrap64 (a3 - a2)) = 1 then (slices_symMergeCmpFunc_api_Charge_c47.l2 k l0 a2 a1 a2) else (if a2 > (wrap64 ((IntKind.u64.wrap (wrap64 (a1 + a3))) / 2)) then (slices_symMergeCmpFunc_api_Charge_c47.j4 k l0 a1 a2 a3 a4 (wrap64 ((IntKind.u64.wrap (wrap64 (a1 + a3))) / 2)) (wrap64 ((wrap64 ((IntKind.u64.wrap (wrap64 (a1 + a3))) / 2)) + a2)) (wrap64 ((wrap64 ((wrap64 ((IntKind.u64.wrap (wrap64 (a1 + a3))) / 2)) + a2)) - a3)) (wrap64 ((IntKind.u64.wrap (wrap64 (a1 + a3))) / 2))) else (slices_symMergeCmpFunc_api_Charge_c47.j4 k l0 a1 a2 a3 a4 (wrap64 ((IntKind.u64.wrap (wrap64 (a1 + a3))) / 2)) (wrap64 ((wrap64 ((IntKind.u64.wrap (wrap64 (a1 + a3))) / 2)) + a2)) a1 a2)))) = some r := h
 clear h
 by_cases c6 : (wrap64 (a2 - a1)) = 1
 ·as_aux_lemma =>
  rw [if_pos c6] at H
  have c6b0 : ((wrap64 (a2 - a1)) == 1) = true := beq_iff_eq.mpr c6
  have c6b1 : ((wrap64 (a2 - a1)) != 1) = false := bne_eq_false_iff_eq.mpr c6
  clear c6
  have H' := Aside0.mk H
  clear H
  go_enter Try.func78, Try.ntmps78
  go_wp2
  go_loopg [10, 11] k (fun kq v10 v11 w' => ∃ (x10_1 : Int) (x11_1 : Int), v10 = .int .i64 x10_1 ∧ v11 = .int .i64 x11_1 ∧ Aside0 (slices_symMergeCmpFunc_api_Charge_c47.l0 kq l0 a1 x10_1 x11_1 = some r) ∧ Aside0 (kq ≤ k) ∧ Aside0 (Kd.R k62 62 w' w0.heap.size (fun k_ => (P0_ k_ ∨ w.heap.size ≤ k_)) u9000_ l0) ∧ Aside0 (Kept w w' (fun k_ => P0_ k_)) ∧ Aside0 (Below w0.heap.size w0 w'))
  case atStart => exact ⟨(a2), (a3), rf_, rf_, H', ⟨Nat.le_refl _⟩, ⟨rs_ HO0⟩, ⟨by repeat (first | (with_reducible first | exact HK.out | apply Kept.alloc | apply Kept.drewN | apply Kept.drew) | exact HK.out)⟩, bw_⟩
  case round =>
   clear H'
   try clear c6
   try clear c6b0
   try clear c6b1
   obtain ⟨x10_1, x11_1, rfl, rfl, HA, HK1, HO_0, HK, HB⟩ := hrel
   cases gk with
   | zero => exact absurd HA.out (by simp [slices_symMergeCmpFunc_api_Charge_c47.l0])
   | succ k1 =>
    have H := HA.out
    clear HA
    simp only [slices_symMergeCmpFunc_api_Charge_c47.l0] at H
    by_cases c7 : x10_1 < x11_1
    ·rw [if_pos c7] at H
     have c7b0 : decide (x10_1 < x11_1) = true := decide_eq_true c7
     clear c7
     obtain ⟨ji8, hji8⟩ : ∃ j_ : Int, (wrap64 ((IntKind.u64.wrap (wrap64 (x10_1 + x11_1))) / 2)) = j_ := ⟨_, rfl⟩
     replace H : (if 0 ≤ (ji8) then (if (ji8) < (l0.length : Int) then (if 0 ≤ a1 then (if a1 < (l0.length : Int) then ((curve_Join_1.f ((rd_T62 l0 (ji8)).f0) ((rd_T62 l0 (ji8)).f1) ((rd_T62 l0 a1).f0) ((rd_T62 l0 a1).f1)).bind fun t533 => (if t533 < 0 then (slices_symMergeCmpFunc_api_Charge_c47.l0 k1 l0 a1 (wrap64 ((ji8) + 1)) x11_1) else (slices_symMergeCmpFunc_api_Charge_c47.l0 k1 l0 a1 x10_1 ji8))) else (none)) else (none)) else (none)) else (none)) = some r := by first | (rw [hji8] at H; exact H) | (simp only [hji8] at H ⊢; exact H)
     have hji8w : (IntKind.i64.wrap ((IntKind.u64.wrap (wrap64 (x10_1 + x11_1))) / 2)) = ji8 := (i64_w _).trans hji8
     by_cases c9 : 0 ≤ (ji8)
     rotate_left
     ·rw [if_neg c9] at H; exact absurd H (by simp)
     rw [if_pos c9] at H
     have c9b0 : decide (0 ≤ (ji8)) = true := decide_eq_true c9
     clear c9
     by_cases c10 : (ji8) < (l0.length : Int)
     rotate_left
     ·rw [if_neg c10] at H; exact absurd H (by simp)
     rw [if_pos c10] at H
     have c10b0 : decide ((ji8) < (l0.length : Int)) = true := decide_eq_true c10
     clear c10
     by_cases c11 : 0 ≤ a1
     rotate_left
     ·rw [if_neg c11] at H; exact absurd H (by simp)
     rw [if_pos c11] at H
     have c11b0 : decide (0 ≤ a1) = true := decide_eq_true c11
     clear c11
     by_cases c12 : a1 < (l0.length : Int)
     rotate_left
     ·rw [if_neg c12] at H; exact absurd H (by simp)
     rw [if_pos c12] at H
     have c12b0 : decide (a1 < (l0.length : Int)) = true := decide_eq_true c12
     clear c12
     have H0_ := bo_ H; clear H; obtain ⟨t533, A13, H⟩ := H0_
     try dsimp only at H
     by_cases c14 : t533 < 0
     ·rw [if_pos c14] at H
      have c14b0 : decide (t533 < 0) = true := decide_eq_true c14
      clear c14
      have H' := Aside0.mk H
      clear H
      try go_wp2
      replace HO_0 := Aside0.mk (Kd.R_drew HO_0.out)
      replace HK := Aside0.mk (Kept.drew HK.out)
      replace HB := Aside0.mk (below_drew1 HB.out)
      obtain ⟨Ao16, co16, eo16⟩ := Kd.R_slice HO_0.out
      (first | subst eo16 | (injection eo16 with f1_ f2_ f3_; have f4_ := f1_.symm; have f5_ := f3_.symm; clear f1_ f2_ f3_; subst f4_; subst f5_))
      have p531 : 0 ≤ ((ji8) : Int) := of_decide_eq_true (by first | (with_reducible assumption) | assumption)
      have q531 : (ji8) < (l0.length : Int) := of_decide_eq_true (by first | (with_reducible assumption) | assumption)
      obtain ⟨ad531, e531, hx531_0, hx531_1⟩ := at_T62 (Kd.R_reads' HO_0.out).2.2 (ji8) p531 q531
      cases e531
      replace p531 := eq_true p531
      replace q531 := eq_true q531
      have p532 : 0 ≤ (a1 : Int) := of_decide_eq_true (by first | (with_reducible assumption) | assumption)
      have q532 : a1 < (l0.length : Int) := of_decide_eq_true (by first | (with_reducible assumption) | assumption)
      obtain ⟨ad532, e532, hx532_0, hx532_1⟩ := at_T62 (Kd.R_reads' HO_0.out).2.2 a1 p532 q532
      obtain rfl : ad531 = ad532 := (by injection e532)
      replace p532 := eq_true p532
      replace q532 := eq_true q532
      refine start_ (n := 11) (S := fun w' => w'.cell? (ad531.add (((ji8)).toNat * 2)) = some (.int .u64 ((rd_T62 l0 (ji8)).f0)) ∧ w'.cell? ⟨(ad531.add (((ji8)).toNat * 2)).block, (ad531.add (((ji8)).toNat * 2)).off + 1, none⟩ = some (.int .i64 ((rd_T62 l0 (ji8)).f1)) ∧ w'.cell? (ad531.add ((a1).toNat * 2)) = some (.int .u64 ((rd_T62 l0 a1).f0)) ∧ w'.cell? ⟨(ad531.add ((a1).toNat * 2)).block, (ad531.add ((a1).toNat * 2)).off + 1, none⟩ = some (.int .i64 ((rd_T62 l0 a1).f1))) (ds := []) (bl_ 11 0) (by kernel_rfl) rfl (by kernel_rfl) ⟨hx531_0, hx531_1, hx532_0, hx532_1⟩ (fun hHeld => ?_); refine with_tabW slices_symMergeCmpFunc_api_Charge_c47.tab5 slices_symMergeCmpFunc_api_Charge_c47.bits5 (fun HT_ HW_ => ?_)
      generalize wr.drew = w15 at HO_0 HK HB hx531_0 hx531_1 hx532_0 hx532_1 hHeld ⊢
      refine pa_ 0 (some 40) (bl_ 11 1) HT_ ?_
      refine pa_ 1 (some 41) (bl_ 11 3) HT_ ?_
      refine pa_ 2 (some 42) (bl_ 11 7) HT_ ?_
      refine pa_ 3 (some 43) (bl_ 11 15) HT_ ?_
      refine pa_ 5 (some 45) (bl_ 11 47) HT_ ?_
      refine pa_ 6 (some 46) (bl_ 11 111) HT_ ?_
      refine pa_ 7 (some 47) (bl_ 11 239) HT_ ?_
      refine ta_ 4 (some 44) (bl_ 11 255) HT_ HW_ hHeld ?_
      refine ta_ 8 (some 48) (bl_ 11 511) HT_ HW_ hHeld ?_
      refine oa_ 9 (some 49) (bl_ 11 1023) HT_ fun K hK => ?_
      refine goesT_ Try.func47 (by kernel_rfl) rfl #[.agg #[.int .u64 ((rd_T62 l0 (ji8)).f0), .int .i64 ((rd_T62 l0 (ji8)).f1)], .agg #[.int .u64 ((rd_T62 l0 a1).f0), .int .i64 ((rd_T62 l0 a1).f1)]] (by rfl) rfl rfl rfl (by (try simp only [List.map_toArray, List.map_cons, List.map_nil]); first | done | (simp only [hji8]; rfl) | rfl | (simp only [List.length_drop, List.length_take]; rfl)) ?_
      with_reducible refine (curve_Join_1.calls ((rd_T62 l0 (ji8)).f0) ((rd_T62 l0 (ji8)).f1) ((rd_T62 l0 a1).f0) ((rd_T62 l0 a1).f1) t533 _ A13.out).mono ?_
      rintro e w17 ⟨rfl, hb⟩
      have HS0_ := (hb.cell (World.block_lt_of_cell? _ _ (hHeld.1))).trans (hHeld.1)
      have HS1_ := (hb.cell (World.block_lt_of_cell? _ _ (hHeld.2.1))).trans (hHeld.2.1)
      have HS2_ := (hb.cell (World.block_lt_of_cell? _ _ (hHeld.2.2.1))).trans (hHeld.2.2.1)
      have HS3_ := (hb.cell (World.block_lt_of_cell? _ _ (hHeld.2.2.2))).trans (hHeld.2.2.2)
      refine ⟨_, rfl, ?_⟩
      replace HO_0 := rb_ HO_0 hb
      replace HK := Aside0.mk (Kept.below (S := (fun k_ => P0_ k_)) (by repeat (first | (with_reducible first | exact HK.out | apply Kept.alloc | apply Kept.drewN | apply Kept.drew) | exact HK.out)) hb)
      replace HB := Aside0.mk (below_step (hq_ HB) hb)
      clear hb
      refine hK.out _ _ ⟨HS0_, HS1_, HS2_, HS3_⟩ (fun hHeld => ?_)
      clear hK K
      refine nm_ (some 49) ?_
      refine pa_ 10 (some 50) (bl_ 11 2047) HT_ ?_
      refine done_ (done_of HT_.out (by kernel_rfl)) ?_
      try go_wp2
      go_roundg k1
      case measure => first | exact Nat.le_of_succ_le HK1.out | exact HK1.out | exact Nat.lt_succ_self _ | exact Nat.le_refl _ | (have := HK1.out; omega)
      case rel => exact ⟨(wrap64 ((ji8) + 1)), (x11_1), (by first | rfl | (simp; done) | (simp only [← hji8] <;> (first | rfl | simp)) | (simp [*]; done)), rf_, H', ⟨by first | exact Nat.le_of_succ_le HK1.out | exact HK1.out | exact Nat.lt_succ_self _ | exact Nat.le_refl _ | (have := HK1.out; omega)⟩, ⟨rs_ HO_0⟩, ⟨by repeat (first | (with_reducible first | exact HK.out | apply Kept.alloc | apply Kept.drewN | apply Kept.drew) | exact HK.out)⟩, bw_⟩
     ·rw [if_neg c14] at H
      have c14b0 : decide (t533 < 0) = false := decide_eq_false c14
      clear c14
      have H' := Aside0.mk H
      clear H
      try go_wp2
      replace HO_0 := Aside0.mk (Kd.R_drew HO_0.out)
      replace HK := Aside0.mk (Kept.drew HK.out)
      replace HB := Aside0.mk (below_drew1 HB.out)
      obtain ⟨Ao19, co19, eo19⟩ := Kd.R_slice HO_0.out
      (first | subst eo19 | (injection eo19 with f1_ f2_ f3_; have f4_ := f1_.symm; have f5_ := f3_.symm; clear f1_ f2_ f3_; subst f4_; subst f5_))
      have p531 : 0 ≤ ((ji8) : Int) := of_decide_eq_true (by first | (with_reducible assumption) | assumption)
      have q531 : (ji8) < (l0.length : Int) := of_decide_eq_true (by first | (with_reducible assumption) | assumption)
      obtain ⟨ad531, e531, hx531_0, hx531_1⟩ := at_T62 (Kd.R_reads' HO_0.out).2.2 (ji8) p531 q531
      cases e531
      replace p531 := eq_true p531
      replace q531 := eq_true q531
      have p532 : 0 ≤ (a1 : Int) := of_decide_eq_true (by first | (with_reducible assumption) | assumption)
      have q532 : a1 < (l0.length : Int) := of_decide_eq_true (by first | (with_reducible assumption) | assumption)
      obtain ⟨ad532, e532, hx532_0, hx532_1⟩ := at_T62 (Kd.R_reads' HO_0.out).2.2 a1 p532 q532
      obtain rfl : ad531 = ad532 := (by injection e532)
      replace p532 := eq_true p532
      replace q532 := eq_true q532
      refine start_ (n := 11) (S := fun w' => w'.cell? (ad531.add (((ji8)).toNat * 2)) = some (.int .u64 ((rd_T62 l0 (ji8)).f0)) ∧ w'.cell? ⟨(ad531.add (((ji8)).toNat * 2)).block, (ad531.add (((ji8)).toNat * 2)).off + 1, none⟩ = some (.int .i64 ((rd_T62 l0 (ji8)).f1)) ∧ w'.cell? (ad531.add ((a1).toNat * 2)) = some (.int .u64 ((rd_T62 l0 a1).f0)) ∧ w'.cell? ⟨(ad531.add ((a1).toNat * 2)).block, (ad531.add ((a1).toNat * 2)).off + 1, none⟩ = some (.int .i64 ((rd_T62 l0 a1).f1))) (ds := []) (bl_ 11 0) (by kernel_rfl) rfl (by kernel_rfl) ⟨hx531_0, hx531_1, hx532_0, hx532_1⟩ (fun hHeld => ?_); refine with_tabW slices_symMergeCmpFunc_api_Charge_c47.tab5 slices_symMergeCmpFunc_api_Charge_c47.bits5 (fun HT_ HW_ => ?_)
      generalize wr.drew = w18 at HO_0 HK HB hx531_0 hx531_1 hx532_0 hx532_1 hHeld ⊢
      refine pa_ 0 (some 40) (bl_ 11 1) HT_ ?_
      refine pa_ 1 (some 41) (bl_ 11 3) HT_ ?_
      refine pa_ 2 (some 42) (bl_ 11 7) HT_ ?_
      refine pa_ 3 (some 43) (bl_ 11 15) HT_ ?_
      refine pa_ 5 (some 45) (bl_ 11 47) HT_ ?_
      refine pa_ 6 (some 46) (bl_ 11 111) HT_ ?_
      refine pa_ 7 (some 47) (bl_ 11 239) HT_ ?_
      refine ta_ 4 (some 44) (bl_ 11 255) HT_ HW_ hHeld ?_
      refine ta_ 8 (some 48) (bl_ 11 511) HT_ HW_ hHeld ?_
      refine oa_ 9 (some 49) (bl_ 11 1023) HT_ fun K hK => ?_
      refine goesT_ Try.func47 (by kernel_rfl) rfl #[.agg #[.int .u64 ((rd_T62 l0 (ji8)).f0), .int .i64 ((rd_T62 l0 (ji8)).f1)], .agg #[.int .u64 ((rd_T62 l0 a1).f0), .int .i64 ((rd_T62 l0 a1).f1)]] (by rfl) rfl rfl rfl (by (try simp only [List.map_toArray, List.map_cons, List.map_nil]); first | done | (simp only [hji8]; rfl) | rfl | (simp only [List.length_drop, List.length_take]; rfl)) ?_
      with_reducible refine (curve_Join_1.calls ((rd_T62 l0 (ji8)).f0) ((rd_T62 l0 (ji8)).f1) ((rd_T62 l0 a1).f0) ((rd_T62 l0 a1).f1) t533 _ A13.out).mono ?_
      rintro e w20 ⟨rfl, hb⟩
      have HS0_ := (hb.cell (World.block_lt_of_cell? _ _ (hHeld.1))).trans (hHeld.1)
      have HS1_ := (hb.cell (World.block_lt_of_cell? _ _ (hHeld.2.1))).trans (hHeld.2.1)
      have HS2_ := (hb.cell (World.block_lt_of_cell? _ _ (hHeld.2.2.1))).trans (hHeld.2.2.1)
      have HS3_ := (hb.cell (World.block_lt_of_cell? _ _ (hHeld.2.2.2))).trans (hHeld.2.2.2)
      refine ⟨_, rfl, ?_⟩
      replace HO_0 := rb_ HO_0 hb
      replace HK := Aside0.mk (Kept.below (S := (fun k_ => P0_ k_)) (by repeat (first | (with_reducible first | exact HK.out | apply Kept.alloc | apply Kept.drewN | apply Kept.drew) | exact HK.out)) hb)
      replace HB := Aside0.mk (below_step (hq_ HB) hb)
      clear hb
      refine hK.out _ _ ⟨HS0_, HS1_, HS2_, HS3_⟩ (fun hHeld => ?_)
      clear hK K
      refine nm_ (some 49) ?_
      refine pa_ 10 (some 50) (bl_ 11 2047) HT_ ?_
      refine done_ (done_of HT_.out (by kernel_rfl)) ?_
      try go_wp2
      go_roundg k1
      case measure => first | exact Nat.le_of_succ_le HK1.out | exact HK1.out | exact Nat.lt_succ_self _ | exact Nat.le_refl _ | (have := HK1.out; omega)
      case rel => exact ⟨(x10_1), (ji8), rf_, (by first | rfl | (simp; done) | (simp only [← hji8] <;> (first | rfl | simp)) | (simp [*]; done)), H', ⟨by first | exact Nat.le_of_succ_le HK1.out | exact HK1.out | exact Nat.lt_succ_self _ | exact Nat.le_refl _ | (have := HK1.out; omega)⟩, ⟨rs_ HO_0⟩, ⟨by repeat (first | (with_reducible first | exact HK.out | apply Kept.alloc | apply Kept.drewN | apply Kept.drew) | exact HK.out)⟩, bw_⟩
    ·rw [if_neg c7] at H
     have c7b0 : decide (x10_1 < x11_1) = false := decide_eq_false c7
     clear c7
     have H' := Aside0.mk H
     clear H
     go_wp2
     go_loopg [13] k1 (fun kq v13 w' => ∃ (x0_2 : List (S62)) (x13_2 : Int), v13 = .int .i64 x13_2 ∧ Aside0 (slices_symMergeCmpFunc_api_Charge_c47.l1 kq x0_2 x10_1 x13_2 = some r) ∧ Aside0 (kq ≤ k1) ∧ Aside0 (Kd.R k62 62 w' w0.heap.size (fun k_ => (P0_ k_ ∨ w.heap.size ≤ k_)) u9000_ x0_2) ∧ Aside0 (Kept w w' (fun k_ => P0_ k_)) ∧ Aside0 (Below w0.heap.size w0 w'))
     case atStart => exact ⟨(l0), (a1), rf_, H', ⟨Nat.le_refl _⟩, ⟨rs_ HO_0⟩, ⟨by repeat (first | (with_reducible first | exact HK.out | apply Kept.alloc | apply Kept.drewN | apply Kept.drew) | exact HK.out)⟩, bw_⟩
     case round =>
      clear H'
      try clear c6
      try clear c6b0
      try clear c6b1
      try clear c7
      try clear c7b0
      obtain ⟨x0_2, x13_2, rfl, HA, HK2, HO_0, HK, HB⟩ := hrel
      cases gk with
      | zero => exact absurd HA.out (by simp [slices_symMergeCmpFunc_api_Charge_c47.l1])
      | succ k2 =>
       have H := HA.out
       clear HA
       simp only [slices_symMergeCmpFunc_api_Charge_c47.l1] at H
       by_cases c21 : x13_2 < (wrap64 (x10_1 - 1))
       ·rw [if_pos c21] at H
        have c21b0 : decide (x13_2 < (wrap64 (x10_1 - 1))) = true := decide_eq_true c21
        clear c21
        obtain ⟨ji22, hji22⟩ : ∃ j_ : Int, (wrap64 (x13_2 + 1)) = j_ := ⟨_, rfl⟩
        replace H : (if 0 ≤ (ji22) then (if (ji22) < (x0_2.length : Int) then (if 0 ≤ x13_2 then (if x13_2 < (x0_2.length : Int) then (slices_symMergeCmpFunc_api_Charge_c47.l1 k2 ((x0_2.set (x13_2 : Int).toNat (⟨(rd_T62 x0_2 (ji22)).f0, (rd_T62 x0_2 (ji22)).f1⟩ : S62)).set ((ji22) : Int).toNat (⟨(rd_T62 x0_2 x13_2).f0, (rd_T62 x0_2 x13_2).f1⟩ : S62)) x10_1 ji22) else (none)) else (none)) else (none)) else (none)) = some r := by first | (rw [hji22] at H; exact H) | (simp only [hji22] at H ⊢; exact H)
        have hji22w : (IntKind.i64.wrap (x13_2 + 1)) = ji22 := (i64_w _).trans hji22
        by_cases c23 : 0 ≤ (ji22)
        rotate_left
        ·rw [if_neg c23] at H; exact absurd H (by simp)
        rw [if_pos c23] at H
        have c23b0 : decide (0 ≤ (ji22)) = true := decide_eq_true c23
        clear c23
        by_cases c24 : (ji22) < (x0_2.length : Int)
        rotate_left
        ·rw [if_neg c24] at H; exact absurd H (by simp)
        rw [if_pos c24] at H
        have c24b0 : decide ((ji22) < (x0_2.length : Int)) = true := decide_eq_true c24
        clear c24
        by_cases c25 : 0 ≤ x13_2
        rotate_left
        ·rw [if_neg c25] at H; exact absurd H (by simp)
        rw [if_pos c25] at H
        have c25b0 : decide (0 ≤ x13_2) = true := decide_eq_true c25
        clear c25
        by_cases c26 : x13_2 < (x0_2.length : Int)
        rotate_left
        ·rw [if_neg c26] at H; exact absurd H (by simp)
        rw [if_pos c26] at H
        have c26b0 : decide (x13_2 < (x0_2.length : Int)) = true := decide_eq_true c26
        clear c26
        obtain ⟨y536, hy536⟩ : ∃ y_ : List (S62), y_ = (x0_2.set (x13_2 : Int).toNat (⟨(rd_T62 x0_2 (ji22)).f0, (rd_T62 x0_2 (ji22)).f1⟩ : S62)) := ⟨_, rfl⟩
        replace H : (slices_symMergeCmpFunc_api_Charge_c47.l1 k2 (y536.set ((ji22) : Int).toNat (⟨(rd_T62 x0_2 x13_2).f0, (rd_T62 x0_2 x13_2).f1⟩ : S62)) x10_1 ji22) = some r := by first | (rw [hy536]; with_reducible exact H) | (have H2_ := (Option.bind_some _ _).symm.trans H; rw [hy536]; with_reducible exact H2_) | (have H2_ := (Option.bind_some _ _).symm.trans H; with_reducible exact H2_) | with_reducible exact H | (rw [hy536]; exact H) | exact H
        have Ny536 := Aside0.mk hy536
        clear hy536
        obtain ⟨y537, hy537⟩ : ∃ y_ : List (S62), y_ = (y536.set ((ji22) : Int).toNat (⟨(rd_T62 x0_2 x13_2).f0, (rd_T62 x0_2 x13_2).f1⟩ : S62)) := ⟨_, rfl⟩
        replace H : (slices_symMergeCmpFunc_api_Charge_c47.l1 k2 y537 x10_1 ji22) = some r := by first | (rw [hy537]; with_reducible exact H) | (have H2_ := (Option.bind_some _ _).symm.trans H; rw [hy537]; with_reducible exact H2_) | (have H2_ := (Option.bind_some _ _).symm.trans H; with_reducible exact H2_) | with_reducible exact H | (rw [hy537]; exact H) | exact H
        have Ny537 := Aside0.mk hy537
        clear hy537
        have H' := Aside0.mk H
        clear H
        try go_wp2
        replace HO_0 := Aside0.mk (Kd.R_drew HO_0.out)
        replace HK := Aside0.mk (Kept.drew HK.out)
        replace HB := Aside0.mk (below_drew1 HB.out)
        obtain ⟨Ao30, co30, eo30⟩ := Kd.R_slice HO_0.out
        (first | subst eo30 | (injection eo30 with f1_ f2_ f3_; have f4_ := f1_.symm; have f5_ := f3_.symm; clear f1_ f2_ f3_; subst f4_; subst f5_))
        have p534 : 0 ≤ ((ji22) : Int) := of_decide_eq_true (by first | (with_reducible assumption) | assumption)
        have q534 : (ji22) < (x0_2.length : Int) := of_decide_eq_true (by first | (with_reducible assumption) | assumption)
        obtain ⟨ad534, e534, hx534_0, hx534_1⟩ := at_T62 (Kd.R_reads' HO_0.out).2.2 (ji22) p534 q534
        cases e534
        replace p534 := eq_true p534
        replace q534 := eq_true q534
        have p535 : 0 ≤ (x13_2 : Int) := of_decide_eq_true (by first | (with_reducible assumption) | assumption)
        have q535 : x13_2 < (x0_2.length : Int) := of_decide_eq_true (by first | (with_reducible assumption) | assumption)
        obtain ⟨ad535, e535, hx535_0, hx535_1⟩ := at_T62 (Kd.R_reads' HO_0.out).2.2 x13_2 p535 q535
        obtain rfl : ad534 = ad535 := (by injection e535)
        replace p535 := eq_true p535
        replace q535 := eq_true q535
        have p27 : 0 ≤ (x13_2 : Int) := of_decide_eq_true (by first | (with_reducible assumption) | assumption)
        have q27 : (x13_2 : Int) < ((x0_2.length : Int) : Int) := of_decide_eq_true (by first | (with_reducible assumption) | assumption)
        obtain ⟨go27, co27, eo27, gb27, gl27, cl27, HG27⟩ := Kd.R_form HO_0.out (by omega)
        (first | cases eo27 | (injection eo27 with ea_ en_ ec_; (first | subst ea_ | (injection ea_ with ea_; subst ea_)); subst ec_; clear en_))
        have GB27 := Aside0.mk gb27
        have GG27 := Aside0.mk HG27
        clear gb27 gl27 HG27
        have HMgo27 := Aside0.mk (show (P0_ go27 ∨ w.heap.size ≤ go27) from (HO_0.out.1 _ rfl))
        (first | simp only [add_plain] at hx534_0 | skip)
        (first | simp only [add_plain] at hx534_1 | skip)
        (first | simp only [add_plain] at hx535_0 | skip)
        (first | simp only [add_plain] at hx535_1 | skip)
        obtain ⟨ce27, hcl27, hM27, hcc27, hfr27⟩ := Kd.R_elem HO_0.out z62 (x13_2 : Int) p27 q27
        obtain rfl := k62_openM hM27
        have hx27_0 : World.cell? _ ⟨go27, (x13_2 : Int).toNat * 2, none⟩ = some (.int .u64 ((rd_T62 x0_2 x13_2).f0)) := hcc27 0 _ rfl
        have hx27_1 : World.cell? _ ⟨go27, (x13_2 : Int).toNat * 2 + 1, none⟩ = some (.int .i64 ((rd_T62 x0_2 x13_2).f1)) := hcc27 1 _ rfl
        have hf27_0 : World.frozen? _ ⟨go27, (x13_2 : Int).toNat * 2, none⟩ = false := hfr27 0
        have hf27_1 : World.frozen? _ ⟨go27, (x13_2 : Int).toNat * 2 + 1, none⟩ = false := hfr27 1
        clear hcl27 hcc27 hfr27 hM27
        replace p27 := eq_true p27
        replace q27 := eq_true q27
        obtain ⟨ce31, hcl31, hM31, hcc31, hfr31⟩ := Kd.R_elem HO_0.out z62 (x13_2 : Int) (of_decide_eq_true (by first | (with_reducible assumption) | assumption)) (by have h_ : (x13_2 : Int) < ((x0_2.length : Int) : Int) := of_decide_eq_true (by first | (with_reducible assumption) | assumption); first | exact h_ | (have e_ := (Kd.R_reads' HO_0.out).1; omega) | simpa using h_)
        obtain rfl := k62_openM hM31
        have HP31 := (Kd.R_seg HO_0.out (x13_2 : Int) (of_decide_eq_true (by first | (with_reducible assumption) | assumption)) (by have h_ : (x13_2 : Int) < ((x0_2.length : Int) : Int) := of_decide_eq_true (by first | (with_reducible assumption) | assumption); first | exact h_ | (have e_ := (Kd.R_reads' HO_0.out).1; omega) | simpa using h_) (seg := [.int .u64 ((rd_T62 x0_2 (ji22)).f0), .int .i64 ((rd_T62 x0_2 (ji22)).f1)]) (j := 0) hcl31 hcc31 (show 2 ≤ 2 from by decide) (x' := (⟨(rd_T62 x0_2 (ji22)).f0, (rd_T62 x0_2 (ji22)).f1⟩ : S62)) (k62_mkM _ _ _ (⟨(rd_T62 x0_2 (ji22)).f0, (rd_T62 x0_2 (ji22)).f1⟩ : S62) ) (fun _ hk => hk)).1
        rw [← Ny536.out] at HP31
        have HQ31 := Aside0.mk HP31
        clear hcl31 hcc31 hfr31 hM31 HP31
        have p28 : 0 ≤ ((ji22) : Int) := of_decide_eq_true (by first | (with_reducible assumption) | assumption)
        have q28 : ((ji22) : Int) < ((x0_2.length : Int) : Int) := of_decide_eq_true (by first | (with_reducible assumption) | assumption)
        obtain ⟨ce28, hcl28, hM28, hcc28, hfr28⟩ := Kd.R_elem HQ31.out z62 ((ji22) : Int) p28 q28
        obtain rfl := k62_openM hM28
        have hx28_0 : World.cell? _ ⟨go27, ((ji22) : Int).toNat * 2, none⟩ = some (.int .u64 ((rd_T62 y536 (ji22)).f0)) := hcc28 0 _ rfl
        have hx28_1 : World.cell? _ ⟨go27, ((ji22) : Int).toNat * 2 + 1, none⟩ = some (.int .i64 ((rd_T62 y536 (ji22)).f1)) := hcc28 1 _ rfl
        have hf28_0 : World.frozen? _ ⟨go27, ((ji22) : Int).toNat * 2, none⟩ = false := hfr28 0
        have hf28_1 : World.frozen? _ ⟨go27, ((ji22) : Int).toNat * 2 + 1, none⟩ = false := hfr28 1
        clear hcl28 hcc28 hfr28 hM28
        replace p28 := eq_true p28
        replace q28 := eq_true q28
        obtain ⟨ce32, hcl32, hM32, hcc32, hfr32⟩ := Kd.R_elem HQ31.out z62 ((ji22) : Int) (of_decide_eq_true (by first | (with_reducible assumption) | assumption)) (by have h_ : ((ji22) : Int) < ((x0_2.length : Int) : Int) := of_decide_eq_true (by first | (with_reducible assumption) | assumption); first | exact h_ | (have e_ := (Kd.R_reads' HO_0.out).1; omega) | simpa using h_)
        obtain rfl := k62_openM hM32
        have HP32 := (Kd.R_seg HQ31.out ((ji22) : Int) (of_decide_eq_true (by first | (with_reducible assumption) | assumption)) (by have h_ : ((ji22) : Int) < ((x0_2.length : Int) : Int) := of_decide_eq_true (by first | (with_reducible assumption) | assumption); first | exact h_ | (have e_ := (Kd.R_reads' HO_0.out).1; omega) | simpa using h_) (seg := [.int .u64 ((rd_T62 x0_2 x13_2).f0), .int .i64 ((rd_T62 x0_2 x13_2).f1)]) (j := 0) hcl32 hcc32 (show 2 ≤ 2 from by decide) (x' := (⟨(rd_T62 x0_2 x13_2).f0, (rd_T62 x0_2 x13_2).f1⟩ : S62)) (k62_mkM _ _ _ (⟨(rd_T62 x0_2 x13_2).f0, (rd_T62 x0_2 x13_2).f1⟩ : S62) ) (fun _ hk => hk)).1
        rw [← Ny537.out] at HP32
        have HQ32 := Aside0.mk HP32
        clear hcl32 hcc32 hfr32 hM32 HP32
        refine start_ (n := 18) (S := fun w' => w'.cell? ⟨go27, ((ji22)).toNat * 2, none⟩ = some (.int .u64 ((rd_T62 x0_2 (ji22)).f0)) ∧ w'.cell? ⟨go27, ((ji22)).toNat * 2 + 1, none⟩ = some (.int .i64 ((rd_T62 x0_2 (ji22)).f1)) ∧ w'.cell? ⟨go27, ((x13_2).toNat * 2), none⟩ = some (.int .u64 ((rd_T62 x0_2 x13_2).f0)) ∧ w'.cell? ⟨go27, ((x13_2).toNat * 2) + 1, none⟩ = some (.int .i64 ((rd_T62 x0_2 x13_2).f1))) (ds := [15, 17]) (bl_ 18 0) (by kernel_rfl) rfl (by kernel_rfl) ⟨hx534_0, hx534_1, hx535_0, hx535_1⟩ (fun hHeld => ?_); refine with_tabW slices_symMergeCmpFunc_api_Charge_c47.tab11 slices_symMergeCmpFunc_api_Charge_c47.bits11 (fun HT_ HW_ => ?_)
        generalize wr.drew = w29 at HO_0 HK HB GG27 HQ31 HQ32 hf27_0 hf27_1 hf28_0 hf28_1 hx27_0 hx27_1 hx28_0 hx28_1 hx534_0 hx534_1 hx535_0 hx535_1 hHeld ⊢
        (try (have hzx27_0 := hx27_0; simp only [World.setCells, show k62.sz = 2 from rfl, Nat.add_zero] at hzx27_0; (try simp [go_sem] at hzx27_0)))
        (try (have hzx27_1 := hx27_1; simp only [World.setCells, show k62.sz = 2 from rfl, Nat.add_zero] at hzx27_1; (try simp [go_sem] at hzx27_1)))
        (try (have hzf27_0 := hf27_0; simp only [World.setCells, show k62.sz = 2 from rfl, Nat.add_zero] at hzf27_0; (try simp [go_sem] at hzf27_0)))
        (try (have hzf27_1 := hf27_1; simp only [World.setCells, show k62.sz = 2 from rfl, Nat.add_zero] at hzf27_1; (try simp [go_sem] at hzf27_1)))
        (try (have hzx28_0 := hx28_0; simp only [World.setCells, show k62.sz = 2 from rfl, Nat.add_zero] at hzx28_0; (try simp [go_sem] at hzx28_0)))
        (try (have hzx28_1 := hx28_1; simp only [World.setCells, show k62.sz = 2 from rfl, Nat.add_zero] at hzx28_1; (try simp [go_sem] at hzx28_1)))
        (try (have hzf28_0 := hf28_0; simp only [World.setCells, show k62.sz = 2 from rfl, Nat.add_zero] at hzf28_0; (try simp [go_sem] at hzf28_0)))
        (try (have hzf28_1 := hf28_1; simp only [World.setCells, show k62.sz = 2 from rfl, Nat.add_zero] at hzf28_1; (try simp [go_sem] at hzf28_1)))
        refine pa_ 0 (some 61) (bl_ 18 1) HT_ ?_
        refine pa_ 1 (some 62) (bl_ 18 3) HT_ ?_
        refine pa_ 2 (some 63) (bl_ 18 7) HT_ ?_
        refine pa_ 3 (some 64) (bl_ 18 15) HT_ ?_
        refine pa_ 4 (some 65) (bl_ 18 31) HT_ ?_
        refine pa_ 5 (some 66) (bl_ 18 63) HT_ ?_
        refine pa_ 6 (some 67) (bl_ 18 127) HT_ ?_
        refine pa_ 7 (some 68) (bl_ 18 255) HT_ ?_
        refine pa_ 8 (some 69) (bl_ 18 511) HT_ ?_
        refine pa_ 10 (some 71) (bl_ 18 1535) HT_ ?_
        refine pa_ 11 (some 72) (bl_ 18 3583) HT_ ?_
        refine pa_ 12 (some 73) (bl_ 18 7679) HT_ ?_
        refine ta_ 9 (some 70) (bl_ 18 8191) HT_ HW_ hHeld ?_
        refine ta_ 13 (some 74) (bl_ 18 16383) HT_ HW_ hHeld ?_
        refine pa_ 14 (some 75) (bl_ 18 32767) HT_ ?_
        refine last_ (i := 15) (N := none) (bl_ 18 65535) rfl rfl (one_of HT_.out (by kernel_rfl)) (by decide) (fun K hK => ?_)
        refine sk_ ?_
        refine hK.out _ _ ?_
        clear hK K
        refine pa_ 16 (some 76) (bl_ 18 131071) HT_ ?_
        refine last_ (i := 17) (N := none) (bl_ 18 262143) rfl rfl (one_of HT_.out (by kernel_rfl)) (by decide) (fun K hK => ?_)
        refine sk_ ?_
        refine hK.out _ _ ?_
        clear hK K
        refine done_ (done_of HT_.out (by kernel_rfl)) ?_
        try go_wp2
        go_roundg k2
        case measure => first | exact Nat.le_of_succ_le HK1.out | exact Nat.le_of_succ_le HK2.out | exact HK1.out | exact HK2.out | exact Nat.lt_succ_self _ | exact Nat.le_refl _ | (have := HK1.out; have := HK2.out; omega)
        case rel => exact ⟨(y537), (ji22), (by first | rfl | (simp; done) | (simp only [← hji22] <;> (first | rfl | simp)) | (simp [*]; done)), H', ⟨by first | exact Nat.le_of_succ_le HK1.out | exact Nat.le_of_succ_le HK2.out | exact HK1.out | exact HK2.out | exact Nat.lt_succ_self _ | exact Nat.le_refl _ | (have := HK1.out; have := HK2.out; omega)⟩, ⟨by (with_reducible repeat (first | apply Kd.R_alloc | apply Kd.R_drewN | apply Kd.R_drew)); exact HQ32.out⟩, ⟨by repeat (first | (with_reducible first | exact HK.out | apply Kept.alloc | apply Kept.drewN | apply Kept.drew | refine Kept.setCell ?_ HMgo27.out _ | refine Kept.setCell ?_ HMgo27.out _ | refine Kept.setCell ?_ HMgo27.out _ | refine Kept.setCell ?_ HMgo27.out _) | exact HK.out)⟩, ⟨by repeat (first | (with_reducible first | exact HB.out | apply below_alloc | apply pw_below_drewN | apply below_drew1 | refine below_set ?_ GB27.out | refine below_set ?_ GB27.out | refine below_set ?_ GB27.out | refine below_set ?_ GB27.out) | exact HB.out)⟩⟩
       ·rw [if_neg c21] at H
        have c21b0 : decide (x13_2 < (wrap64 (x10_1 - 1))) = false := decide_eq_false c21
        clear c21
        obtain rfl := Option.some.inj H
        go_wp2
        first | go_end0 | ((try simp only [Exit.inBlock, Exit.then]); refine bodyPost_ret (results_none rfl _ _ _) rfl ?_)
        exact ⟨by first | rfl | (simp [errW_none, errW_some] <;> rfl) | (simp [*, errW_none, errW_some] <;> rfl), by (with_reducible repeat (first | apply Kd.R_alloc | apply Kd.R_drewN | apply Kd.R_drew)); exact HO_0.out, by repeat (first | (with_reducible first | exact HB.out | apply below_alloc | apply pw_below_drewN | apply below_drew1) | exact HB.out), by repeat (first | (with_reducible first | exact HK.out | apply Kept.alloc | apply Kept.drewN | apply Kept.drew) | exact HK.out)⟩
 ·rw [if_neg c6] at H
  have c6b0 : ((wrap64 (a2 - a1)) == 1) = false := beq_eq_false_iff_ne.mpr c6
  have c6b1 : ((wrap64 (a2 - a1)) != 1) = true := bne_iff_ne.mpr c6
  by_cases c33 : (wrap64 (a3 - a2)) = 1
  ·as_aux_lemma =>
   rw [if_pos c33] at H
   have c33b0 : ((wrap64 (a3 - a2)) == 1) = true := beq_iff_eq.mpr c33
   have c33b1 : ((wrap64 (a3 - a2)) != 1) = false := bne_eq_false_iff_eq.mpr c33
   clear c33
   have H' := Aside0.mk H
   clear H
   go_enter Try.func78, Try.ntmps78
   go_wp2
   go_loopg [14, 15] k (fun kq v14 v15 w' => ∃ (x14_1 : Int) (x15_1 : Int), v14 = .int .i64 x14_1 ∧ v15 = .int .i64 x15_1 ∧ Aside0 (slices_symMergeCmpFunc_api_Charge_c47.l2 kq l0 a2 x14_1 x15_1 = some r) ∧ Aside0 (kq ≤ k) ∧ Aside0 (Kd.R k62 62 w' w0.heap.size (fun k_ => (P0_ k_ ∨ w.heap.size ≤ k_)) u9000_ l0) ∧ Aside0 (Kept w w' (fun k_ => P0_ k_)) ∧ Aside0 (Below w0.heap.size w0 w'))
   case atStart => exact ⟨(a1), (a2), rf_, rf_, H', ⟨Nat.le_refl _⟩, ⟨rs_ HO0⟩, ⟨by repeat (first | (with_reducible first | exact HK.out | apply Kept.alloc | apply Kept.drewN | apply Kept.drew) | exact HK.out)⟩, bw_⟩
   case round =>
    clear H'
    try clear c6
    try clear c6b0
    try clear c6b1
    try clear c33
    try clear c33b0
    try clear c33b1
    obtain ⟨x14_1, x15_1, rfl, rfl, HA, HK1, HO_0, HK, HB⟩ := hrel
    cases gk with
    | zero => exact absurd HA.out (by simp [slices_symMergeCmpFunc_api_Charge_c47.l2])
    | succ k1 =>
     have H := HA.out
     clear HA
     simp only [slices_symMergeCmpFunc_api_Charge_c47.l2] at H
     by_cases c34 : x14_1 < x15_1
     ·rw [if_pos c34] at H
      have c34b0 : decide (x14_1 < x15_1) = true := decide_eq_true c34
      clear c34
      by_cases c35 : 0 ≤ a2
      rotate_left
      ·rw [if_neg c35] at H; exact absurd H (by simp)
      rw [if_pos c35] at H
      have c35b0 : decide (0 ≤ a2) = true := decide_eq_true c35
      clear c35
      by_cases c36 : a2 < (l0.length : Int)
      rotate_left
      ·rw [if_neg c36] at H; exact absurd H (by simp)
      rw [if_pos c36] at H
      have c36b0 : decide (a2 < (l0.length : Int)) = true := decide_eq_true c36
      clear c36
      obtain ⟨ji37, hji37⟩ : ∃ j_ : Int, (wrap64 ((IntKind.u64.wrap (wrap64 (x14_1 + x15_1))) / 2)) = j_ := ⟨_, rfl⟩
      replace H : (if 0 ≤ (ji37) then (if (ji37) < (l0.length : Int) then ((curve_Join_1.f ((rd_T62 l0 a2).f0) ((rd_T62 l0 a2).f1) ((rd_T62 l0 (ji37)).f0) ((rd_T62 l0 (ji37)).f1)).bind fun t540 => (if t540 < 0 then (slices_symMergeCmpFunc_api_Charge_c47.l2 k1 l0 a2 x14_1 ji37) else (slices_symMergeCmpFunc_api_Charge_c47.l2 k1 l0 a2 (wrap64 ((ji37) + 1)) x15_1))) else (none)) else (none)) = some r := by first | (rw [hji37] at H; exact H) | (simp only [hji37] at H ⊢; exact H)
      have hji37w : (IntKind.i64.wrap ((IntKind.u64.wrap (wrap64 (x14_1 + x15_1))) / 2)) = ji37 := (i64_w _).trans hji37
      by_cases c38 : 0 ≤ (ji37)
      rotate_left
      ·rw [if_neg c38] at H; exact absurd H (by simp)
      rw [if_pos c38] at H
      have c38b0 : decide (0 ≤ (ji37)) = true := decide_eq_true c38
      clear c38
      by_cases c39 : (ji37) < (l0.length : Int)
      rotate_left
      ·rw [if_neg c39] at H; exact absurd H (by simp)
      rw [if_pos c39] at H
      have c39b0 : decide ((ji37) < (l0.length : Int)) = true := decide_eq_true c39
      clear c39
      have H0_ := bo_ H; clear H; obtain ⟨t540, A40, H⟩ := H0_
      try dsimp only at H
      by_cases c41 : t540 < 0
      ·rw [if_pos c41] at H
       have c41b0 : decide (t540 < 0) = true := decide_eq_true c41
       clear c41
       have H' := Aside0.mk H
       clear H
       try go_wp2
       replace HO_0 := Aside0.mk (Kd.R_drew HO_0.out)
       replace HK := Aside0.mk (Kept.drew HK.out)
       replace HB := Aside0.mk (below_drew1 HB.out)
       obtain ⟨Ao43, co43, eo43⟩ := Kd.R_slice HO_0.out
       (first | subst eo43 | (injection eo43 with f1_ f2_ f3_; have f4_ := f1_.symm; have f5_ := f3_.symm; clear f1_ f2_ f3_; subst f4_; subst f5_))
       have p538 : 0 ≤ (a2 : Int) := of_decide_eq_true (by first | (with_reducible assumption) | assumption)
       have q538 : a2 < (l0.length : Int) := of_decide_eq_true (by first | (with_reducible assumption) | assumption)
       obtain ⟨ad538, e538, hx538_0, hx538_1⟩ := at_T62 (Kd.R_reads' HO_0.out).2.2 a2 p538 q538
       cases e538
       replace p538 := eq_true p538
       replace q538 := eq_true q538
       have p539 : 0 ≤ ((ji37) : Int) := of_decide_eq_true (by first | (with_reducible assumption) | assumption)
       have q539 : (ji37) < (l0.length : Int) := of_decide_eq_true (by first | (with_reducible assumption) | assumption)
       obtain ⟨ad539, e539, hx539_0, hx539_1⟩ := at_T62 (Kd.R_reads' HO_0.out).2.2 (ji37) p539 q539
       obtain rfl : ad538 = ad539 := (by injection e539)
       replace p539 := eq_true p539
       replace q539 := eq_true q539
       refine start_ (n := 12) (S := fun w' => w'.cell? (ad538.add ((a2).toNat * 2)) = some (.int .u64 ((rd_T62 l0 a2).f0)) ∧ w'.cell? ⟨(ad538.add ((a2).toNat * 2)).block, (ad538.add ((a2).toNat * 2)).off + 1, none⟩ = some (.int .i64 ((rd_T62 l0 a2).f1)) ∧ w'.cell? (ad538.add (((ji37)).toNat * 2)) = some (.int .u64 ((rd_T62 l0 (ji37)).f0)) ∧ w'.cell? ⟨(ad538.add (((ji37)).toNat * 2)).block, (ad538.add (((ji37)).toNat * 2)).off + 1, none⟩ = some (.int .i64 ((rd_T62 l0 (ji37)).f1))) (ds := []) (bl_ 12 0) (by kernel_rfl) rfl (by kernel_rfl) ⟨hx538_0, hx538_1, hx539_0, hx539_1⟩ (fun hHeld => ?_); refine with_tabW slices_symMergeCmpFunc_api_Charge_c47.tab17 slices_symMergeCmpFunc_api_Charge_c47.bits17 (fun HT_ HW_ => ?_)
       generalize wr.drew = w42 at HO_0 HK HB hx538_0 hx538_1 hx539_0 hx539_1 hHeld ⊢
       refine pa_ 0 (some 92) (bl_ 12 1) HT_ ?_
       refine pa_ 1 (some 93) (bl_ 12 3) HT_ ?_
       refine pa_ 2 (some 94) (bl_ 12 7) HT_ ?_
       refine pa_ 3 (some 95) (bl_ 12 15) HT_ ?_
       refine pa_ 5 (some 97) (bl_ 12 47) HT_ ?_
       refine pa_ 6 (some 98) (bl_ 12 111) HT_ ?_
       refine pa_ 7 (some 99) (bl_ 12 239) HT_ ?_
       refine ta_ 4 (some 96) (bl_ 12 255) HT_ HW_ hHeld ?_
       refine ta_ 8 (some 100) (bl_ 12 511) HT_ HW_ hHeld ?_
       refine oa_ 9 (some 101) (bl_ 12 1023) HT_ fun K hK => ?_
       refine goesT_ Try.func47 (by kernel_rfl) rfl #[.agg #[.int .u64 ((rd_T62 l0 a2).f0), .int .i64 ((rd_T62 l0 a2).f1)], .agg #[.int .u64 ((rd_T62 l0 (ji37)).f0), .int .i64 ((rd_T62 l0 (ji37)).f1)]] (by rfl) rfl rfl rfl (by (try simp only [List.map_toArray, List.map_cons, List.map_nil]); first | done | (simp only [hji37]; rfl) | rfl | (simp only [List.length_drop, List.length_take]; rfl)) ?_
       with_reducible refine (curve_Join_1.calls ((rd_T62 l0 a2).f0) ((rd_T62 l0 a2).f1) ((rd_T62 l0 (ji37)).f0) ((rd_T62 l0 (ji37)).f1) t540 _ A40.out).mono ?_
       rintro e w44 ⟨rfl, hb⟩
       have HS0_ := (hb.cell (World.block_lt_of_cell? _ _ (hHeld.1))).trans (hHeld.1)
       have HS1_ := (hb.cell (World.block_lt_of_cell? _ _ (hHeld.2.1))).trans (hHeld.2.1)
       have HS2_ := (hb.cell (World.block_lt_of_cell? _ _ (hHeld.2.2.1))).trans (hHeld.2.2.1)
       have HS3_ := (hb.cell (World.block_lt_of_cell? _ _ (hHeld.2.2.2))).trans (hHeld.2.2.2)
       refine ⟨_, rfl, ?_⟩
       replace HO_0 := rb_ HO_0 hb
       replace HK := Aside0.mk (Kept.below (S := (fun k_ => P0_ k_)) (by repeat (first | (with_reducible first | exact HK.out | apply Kept.alloc | apply Kept.drewN | apply Kept.drew) | exact HK.out)) hb)
       replace HB := Aside0.mk (below_step (hq_ HB) hb)
       clear hb
       refine hK.out _ _ ⟨HS0_, HS1_, HS2_, HS3_⟩ (fun hHeld => ?_)
       clear hK K
       refine nm_ (some 101) ?_
       refine pa_ 10 (some 102) (bl_ 12 2047) HT_ ?_
       refine pa_ 11 (some 103) (bl_ 12 4095) HT_ ?_
       refine done_ (done_of HT_.out (by kernel_rfl)) ?_
       try go_wp2
       go_roundg k1
       case measure => first | exact Nat.le_of_succ_le HK1.out | exact HK1.out | exact Nat.lt_succ_self _ | exact Nat.le_refl _ | (have := HK1.out; omega)
       case rel => exact ⟨(x14_1), (ji37), rf_, (by first | rfl | (simp; done) | (simp only [← hji37] <;> (first | rfl | simp)) | (simp [*]; done)), H', ⟨by first | exact Nat.le_of_succ_le HK1.out | exact HK1.out | exact Nat.lt_succ_self _ | exact Nat.le_refl _ | (have := HK1.out; omega)⟩, ⟨rs_ HO_0⟩, ⟨by repeat (first | (with_reducible first | exact HK.out | apply Kept.alloc | apply Kept.drewN | apply Kept.drew) | exact HK.out)⟩, bw_⟩
      ·rw [if_neg c41] at H
       have c41b0 : decide (t540 < 0) = false := decide_eq_false c41
       clear c41
       have H' := Aside0.mk H
       clear H
       try go_wp2
       replace HO_0 := Aside0.mk (Kd.R_drew HO_0.out)
       replace HK := Aside0.mk (Kept.drew HK.out)
       replace HB := Aside0.mk (below_drew1 HB.out)
       obtain ⟨Ao46, co46, eo46⟩ := Kd.R_slice HO_0.out
       (first | subst eo46 | (injection eo46 with f1_ f2_ f3_; have f4_ := f1_.symm; have f5_ := f3_.symm; clear f1_ f2_ f3_; subst f4_; subst f5_))
       have p538 : 0 ≤ (a2 : Int) := of_decide_eq_true (by first | (with_reducible assumption) | assumption)
       have q538 : a2 < (l0.length : Int) := of_decide_eq_true (by first | (with_reducible assumption) | assumption)
       obtain ⟨ad538, e538, hx538_0, hx538_1⟩ := at_T62 (Kd.R_reads' HO_0.out).2.2 a2 p538 q538
       cases e538
       replace p538 := eq_true p538
       replace q538 := eq_true q538
       have p539 : 0 ≤ ((ji37) : Int) := of_decide_eq_true (by first | (with_reducible assumption) | assumption)
       have q539 : (ji37) < (l0.length : Int) := of_decide_eq_true (by first | (with_reducible assumption) | assumption)
       obtain ⟨ad539, e539, hx539_0, hx539_1⟩ := at_T62 (Kd.R_reads' HO_0.out).2.2 (ji37) p539 q539
       obtain rfl : ad538 = ad539 := (by injection e539)
       replace p539 := eq_true p539
       replace q539 := eq_true q539
       refine start_ (n := 12) (S := fun w' => w'.cell? (ad538.add ((a2).toNat * 2)) = some (.int .u64 ((rd_T62 l0 a2).f0)) ∧ w'.cell? ⟨(ad538.add ((a2).toNat * 2)).block, (ad538.add ((a2).toNat * 2)).off + 1, none⟩ = some (.int .i64 ((rd_T62 l0 a2).f1)) ∧ w'.cell? (ad538.add (((ji37)).toNat * 2)) = some (.int .u64 ((rd_T62 l0 (ji37)).f0)) ∧ w'.cell? ⟨(ad538.add (((ji37)).toNat * 2)).block, (ad538.add (((ji37)).toNat * 2)).off + 1, none⟩ = some (.int .i64 ((rd_T62 l0 (ji37)).f1))) (ds := []) (bl_ 12 0) (by kernel_rfl) rfl (by kernel_rfl) ⟨hx538_0, hx538_1, hx539_0, hx539_1⟩ (fun hHeld => ?_); refine with_tabW slices_symMergeCmpFunc_api_Charge_c47.tab17 slices_symMergeCmpFunc_api_Charge_c47.bits17 (fun HT_ HW_ => ?_)
       generalize wr.drew = w45 at HO_0 HK HB hx538_0 hx538_1 hx539_0 hx539_1 hHeld ⊢
       refine pa_ 0 (some 92) (bl_ 12 1) HT_ ?_
       refine pa_ 1 (some 93) (bl_ 12 3) HT_ ?_
       refine pa_ 2 (some 94) (bl_ 12 7) HT_ ?_
       refine pa_ 3 (some 95) (bl_ 12 15) HT_ ?_
       refine pa_ 5 (some 97) (bl_ 12 47) HT_ ?_
       refine pa_ 6 (some 98) (bl_ 12 111) HT_ ?_
       refine pa_ 7 (some 99) (bl_ 12 239) HT_ ?_
       refine ta_ 4 (some 96) (bl_ 12 255) HT_ HW_ hHeld ?_
       refine ta_ 8 (some 100) (bl_ 12 511) HT_ HW_ hHeld ?_
       refine oa_ 9 (some 101) (bl_ 12 1023) HT_ fun K hK => ?_
       refine goesT_ Try.func47 (by kernel_rfl) rfl #[.agg #[.int .u64 ((rd_T62 l0 a2).f0), .int .i64 ((rd_T62 l0 a2).f1)], .agg #[.int .u64 ((rd_T62 l0 (ji37)).f0), .int .i64 ((rd_T62 l0 (ji37)).f1)]] (by rfl) rfl rfl rfl (by (try simp only [List.map_toArray, List.map_cons, List.map_nil]); first | done | (simp only [hji37]; rfl) | rfl | (simp only [List.length_drop, List.length_take]; rfl)) ?_
       with_reducible refine (curve_Join_1.calls ((rd_T62 l0 a2).f0) ((rd_T62 l0 a2).f1) ((rd_T62 l0 (ji37)).f0) ((rd_T62 l0 (ji37)).f1) t540 _ A40.out).mono ?_
       rintro e w47 ⟨rfl, hb⟩
       have HS0_ := (hb.cell (World.block_lt_of_cell? _ _ (hHeld.1))).trans (hHeld.1)
       have HS1_ := (hb.cell (World.block_lt_of_cell? _ _ (hHeld.2.1))).trans (hHeld.2.1)
       have HS2_ := (hb.cell (World.block_lt_of_cell? _ _ (hHeld.2.2.1))).trans (hHeld.2.2.1)
       have HS3_ := (hb.cell (World.block_lt_of_cell? _ _ (hHeld.2.2.2))).trans (hHeld.2.2.2)
       refine ⟨_, rfl, ?_⟩
       replace HO_0 := rb_ HO_0 hb
       replace HK := Aside0.mk (Kept.below (S := (fun k_ => P0_ k_)) (by repeat (first | (with_reducible first | exact HK.out | apply Kept.alloc | apply Kept.drewN | apply Kept.drew) | exact HK.out)) hb)
       replace HB := Aside0.mk (below_step (hq_ HB) hb)
       clear hb
       refine hK.out _ _ ⟨HS0_, HS1_, HS2_, HS3_⟩ (fun hHeld => ?_)
       clear hK K
       refine nm_ (some 101) ?_
       refine pa_ 10 (some 102) (bl_ 12 2047) HT_ ?_
       refine pa_ 11 (some 103) (bl_ 12 4095) HT_ ?_
       refine done_ (done_of HT_.out (by kernel_rfl)) ?_
       try go_wp2
       go_roundg k1
       case measure => first | exact Nat.le_of_succ_le HK1.out | exact HK1.out | exact Nat.lt_succ_self _ | exact Nat.le_refl _ | (have := HK1.out; omega)
       case rel => exact ⟨(wrap64 ((ji37) + 1)), (x15_1), (by first | rfl | (simp; done) | (simp only [← hji37] <;> (first | rfl | simp)) | (simp [*]; done)), rf_, H', ⟨by first | exact Nat.le_of_succ_le HK1.out | exact HK1.out | exact Nat.lt_succ_self _ | exact Nat.le_refl _ | (have := HK1.out; omega)⟩, ⟨rs_ HO_0⟩, ⟨by repeat (first | (with_reducible first | exact HK.out | apply Kept.alloc | apply Kept.drewN | apply Kept.drew) | exact HK.out)⟩, bw_⟩
     ·rw [if_neg c34] at H
      have c34b0 : decide (x14_1 < x15_1) = false := decide_eq_false c34
      clear c34
      have H' := Aside0.mk H
      clear H
      go_wp2
      go_loopg [17] k1 (fun kq v17 w' => ∃ (x0_2 : List (S62)) (x17_2 : Int), v17 = .int .i64 x17_2 ∧ Aside0 (slices_symMergeCmpFunc_api_Charge_c47.l3 kq x0_2 x14_1 x17_2 = some r) ∧ Aside0 (kq ≤ k1) ∧ Aside0 (Kd.R k62 62 w' w0.heap.size (fun k_ => (P0_ k_ ∨ w.heap.size ≤ k_)) u9000_ x0_2) ∧ Aside0 (Kept w w' (fun k_ => P0_ k_)) ∧ Aside0 (Below w0.heap.size w0 w'))
      case atStart => exact ⟨(l0), (a2), rf_, H', ⟨Nat.le_refl _⟩, ⟨rs_ HO_0⟩, ⟨by repeat (first | (with_reducible first | exact HK.out | apply Kept.alloc | apply Kept.drewN | apply Kept.drew) | exact HK.out)⟩, bw_⟩
      case round =>
       clear H'
       try clear c6
       try clear c6b0
       try clear c6b1
       try clear c33
       try clear c33b0
       try clear c33b1
       try clear c34
       try clear c34b0
       obtain ⟨x0_2, x17_2, rfl, HA, HK2, HO_0, HK, HB⟩ := hrel
       cases gk with
       | zero => exact absurd HA.out (by simp [slices_symMergeCmpFunc_api_Charge_c47.l3])
       | succ k2 =>
        have H := HA.out
        clear HA
        simp only [slices_symMergeCmpFunc_api_Charge_c47.l3] at H
        by_cases c48 : x17_2 > x14_1
        ·rw [if_pos c48] at H
         have c48b0 : decide (x14_1 < x17_2) = true := decide_eq_true c48
         clear c48
         obtain ⟨ji49, hji49⟩ : ∃ j_ : Int, (wrap64 (x17_2 - 1)) = j_ := ⟨_, rfl⟩
         replace H : (if 0 ≤ (ji49) then (if (ji49) < (x0_2.length : Int) then (if 0 ≤ x17_2 then (if x17_2 < (x0_2.length : Int) then (slices_symMergeCmpFunc_api_Charge_c47.l3 k2 ((x0_2.set (x17_2 : Int).toNat (⟨(rd_T62 x0_2 (ji49)).f0, (rd_T62 x0_2 (ji49)).f1⟩ : S62)).set ((ji49) : Int).toNat (⟨(rd_T62 x0_2 x17_2).f0, (rd_T62 x0_2 x17_2).f1⟩ : S62)) x14_1 ji49) else (none)) else (none)) else (none)) else (none)) = some r := by first | (rw [hji49] at H; exact H) | (simp only [hji49] at H ⊢; exact H)
         have hji49w : (IntKind.i64.wrap (x17_2 - 1)) = ji49 := (i64_w _).trans hji49
         by_cases c50 : 0 ≤ (ji49)
         rotate_left
         ·rw [if_neg c50] at H; exact absurd H (by simp)
         rw [if_pos c50] at H
         have c50b0 : decide (0 ≤ (ji49)) = true := decide_eq_true c50
         clear c50
         by_cases c51 : (ji49) < (x0_2.length : Int)
         rotate_left
         ·rw [if_neg c51] at H; exact absurd H (by simp)
         rw [if_pos c51] at H
         have c51b0 : decide ((ji49) < (x0_2.length : Int)) = true := decide_eq_true c51
         clear c51
         by_cases c52 : 0 ≤ x17_2
         rotate_left
         ·rw [if_neg c52] at H; exact absurd H (by simp)
         rw [if_pos c52] at H
         have c52b0 : decide (0 ≤ x17_2) = true := decide_eq_true c52
         clear c52
         by_cases c53 : x17_2 < (x0_2.length : Int)
         rotate_left
         ·rw [if_neg c53] at H; exact absurd H (by simp)
         rw [if_pos c53] at H
         have c53b0 : decide (x17_2 < (x0_2.length : Int)) = true := decide_eq_true c53
         clear c53
         obtain ⟨y543, hy543⟩ : ∃ y_ : List (S62), y_ = (x0_2.set (x17_2 : Int).toNat (⟨(rd_T62 x0_2 (ji49)).f0, (rd_T62 x0_2 (ji49)).f1⟩ : S62)) := ⟨_, rfl⟩
         replace H : (slices_symMergeCmpFunc_api_Charge_c47.l3 k2 (y543.set ((ji49) : Int).toNat (⟨(rd_T62 x0_2 x17_2).f0, (rd_T62 x0_2 x17_2).f1⟩ : S62)) x14_1 ji49) = some r := by first | (rw [hy543]; with_reducible exact H) | (have H2_ := (Option.bind_some _ _).symm.trans H; rw [hy543]; with_reducible exact H2_) | (have H2_ := (Option.bind_some _ _).symm.trans H; with_reducible exact H2_) | with_reducible exact H | (rw [hy543]; exact H) | exact H
         have Ny543 := Aside0.mk hy543
         clear hy543
         obtain ⟨y544, hy544⟩ : ∃ y_ : List (S62), y_ = (y543.set ((ji49) : Int).toNat (⟨(rd_T62 x0_2 x17_2).f0, (rd_T62 x0_2 x17_2).f1⟩ : S62)) := ⟨_, rfl⟩
         replace H : (slices_symMergeCmpFunc_api_Charge_c47.l3 k2 y544 x14_1 ji49) = some r := by first | (rw [hy544]; with_reducible exact H) | (have H2_ := (Option.bind_some _ _).symm.trans H; rw [hy544]; with_reducible exact H2_) | (have H2_ := (Option.bind_some _ _).symm.trans H; with_reducible exact H2_) | with_reducible exact H | (rw [hy544]; exact H) | exact H
         have Ny544 := Aside0.mk hy544
         clear hy544
         have H' := Aside0.mk H
         clear H
         try go_wp2
         replace HO_0 := Aside0.mk (Kd.R_drew HO_0.out)
         replace HK := Aside0.mk (Kept.drew HK.out)
         replace HB := Aside0.mk (below_drew1 HB.out)
         obtain ⟨Ao57, co57, eo57⟩ := Kd.R_slice HO_0.out
         (first | subst eo57 | (injection eo57 with f1_ f2_ f3_; have f4_ := f1_.symm; have f5_ := f3_.symm; clear f1_ f2_ f3_; subst f4_; subst f5_))
         have p541 : 0 ≤ ((ji49) : Int) := of_decide_eq_true (by first | (with_reducible assumption) | assumption)
         have q541 : (ji49) < (x0_2.length : Int) := of_decide_eq_true (by first | (with_reducible assumption) | assumption)
         obtain ⟨ad541, e541, hx541_0, hx541_1⟩ := at_T62 (Kd.R_reads' HO_0.out).2.2 (ji49) p541 q541
         cases e541
         replace p541 := eq_true p541
         replace q541 := eq_true q541
         have p542 : 0 ≤ (x17_2 : Int) := of_decide_eq_true (by first | (with_reducible assumption) | assumption)
         have q542 : x17_2 < (x0_2.length : Int) := of_decide_eq_true (by first | (with_reducible assumption) | assumption)
         obtain ⟨ad542, e542, hx542_0, hx542_1⟩ := at_T62 (Kd.R_reads' HO_0.out).2.2 x17_2 p542 q542
         obtain rfl : ad541 = ad542 := (by injection e542)
         replace p542 := eq_true p542
         replace q542 := eq_true q542
         have p54 : 0 ≤ (x17_2 : Int) := of_decide_eq_true (by first | (with_reducible assumption) | assumption)
         have q54 : (x17_2 : Int) < ((x0_2.length : Int) : Int) := of_decide_eq_true (by first | (with_reducible assumption) | assumption)
         obtain ⟨go54, co54, eo54, gb54, gl54, cl54, HG54⟩ := Kd.R_form HO_0.out (by omega)
         (first | cases eo54 | (injection eo54 with ea_ en_ ec_; (first | subst ea_ | (injection ea_ with ea_; subst ea_)); subst ec_; clear en_))
         have GB54 := Aside0.mk gb54
         have GG54 := Aside0.mk HG54
         clear gb54 gl54 HG54
         have HMgo54 := Aside0.mk (show (P0_ go54 ∨ w.heap.size ≤ go54) from (HO_0.out.1 _ rfl))
         (first | simp only [add_plain] at hx541_0 | skip)
         (first | simp only [add_plain] at hx541_1 | skip)
         (first | simp only [add_plain] at hx542_0 | skip)
         (first | simp only [add_plain] at hx542_1 | skip)
         obtain ⟨ce54, hcl54, hM54, hcc54, hfr54⟩ := Kd.R_elem HO_0.out z62 (x17_2 : Int) p54 q54
         obtain rfl := k62_openM hM54
         have hx54_0 : World.cell? _ ⟨go54, (x17_2 : Int).toNat * 2, none⟩ = some (.int .u64 ((rd_T62 x0_2 x17_2).f0)) := hcc54 0 _ rfl
         have hx54_1 : World.cell? _ ⟨go54, (x17_2 : Int).toNat * 2 + 1, none⟩ = some (.int .i64 ((rd_T62 x0_2 x17_2).f1)) := hcc54 1 _ rfl
         have hf54_0 : World.frozen? _ ⟨go54, (x17_2 : Int).toNat * 2, none⟩ = false := hfr54 0
         have hf54_1 : World.frozen? _ ⟨go54, (x17_2 : Int).toNat * 2 + 1, none⟩ = false := hfr54 1
         clear hcl54 hcc54 hfr54 hM54
         replace p54 := eq_true p54
         replace q54 := eq_true q54
         obtain ⟨ce58, hcl58, hM58, hcc58, hfr58⟩ := Kd.R_elem HO_0.out z62 (x17_2 : Int) (of_decide_eq_true (by first | (with_reducible assumption) | assumption)) (by have h_ : (x17_2 : Int) < ((x0_2.length : Int) : Int) := of_decide_eq_true (by first | (with_reducible assumption) | assumption); first | exact h_ | (have e_ := (Kd.R_reads' HO_0.out).1; omega) | simpa using h_)
         obtain rfl := k62_openM hM58
         have HP58 := (Kd.R_seg HO_0.out (x17_2 : Int) (of_decide_eq_true (by first | (with_reducible assumption) | assumption)) (by have h_ : (x17_2 : Int) < ((x0_2.length : Int) : Int) := of_decide_eq_true (by first | (with_reducible assumption) | assumption); first | exact h_ | (have e_ := (Kd.R_reads' HO_0.out).1; omega) | simpa using h_) (seg := [.int .u64 ((rd_T62 x0_2 (ji49)).f0), .int .i64 ((rd_T62 x0_2 (ji49)).f1)]) (j := 0) hcl58 hcc58 (show 2 ≤ 2 from by decide) (x' := (⟨(rd_T62 x0_2 (ji49)).f0, (rd_T62 x0_2 (ji49)).f1⟩ : S62)) (k62_mkM _ _ _ (⟨(rd_T62 x0_2 (ji49)).f0, (rd_T62 x0_2 (ji49)).f1⟩ : S62) ) (fun _ hk => hk)).1
         rw [← Ny543.out] at HP58
         have HQ58 := Aside0.mk HP58
         clear hcl58 hcc58 hfr58 hM58 HP58
         have p55 : 0 ≤ ((ji49) : Int) := of_decide_eq_true (by first | (with_reducible assumption) | assumption)
         have q55 : ((ji49) : Int) < ((x0_2.length : Int) : Int) := of_decide_eq_true (by first | (with_reducible assumption) | assumption)
         obtain ⟨ce55, hcl55, hM55, hcc55, hfr55⟩ := Kd.R_elem HQ58.out z62 ((ji49) : Int) p55 q55
         obtain rfl := k62_openM hM55
         have hx55_0 : World.cell? _ ⟨go54, ((ji49) : Int).toNat * 2, none⟩ = some (.int .u64 ((rd_T62 y543 (ji49)).f0)) := hcc55 0 _ rfl
         have hx55_1 : World.cell? _ ⟨go54, ((ji49) : Int).toNat * 2 + 1, none⟩ = some (.int .i64 ((rd_T62 y543 (ji49)).f1)) := hcc55 1 _ rfl
         have hf55_0 : World.frozen? _ ⟨go54, ((ji49) : Int).toNat * 2, none⟩ = false := hfr55 0
         have hf55_1 : World.frozen? _ ⟨go54, ((ji49) : Int).toNat * 2 + 1, none⟩ = false := hfr55 1
         clear hcl55 hcc55 hfr55 hM55
         replace p55 := eq_true p55
         replace q55 := eq_true q55
         obtain ⟨ce59, hcl59, hM59, hcc59, hfr59⟩ := Kd.R_elem HQ58.out z62 ((ji49) : Int) (of_decide_eq_true (by first | (with_reducible assumption) | assumption)) (by have h_ : ((ji49) : Int) < ((x0_2.length : Int) : Int) := of_decide_eq_true (by first | (with_reducible assumption) | assumption); first | exact h_ | (have e_ := (Kd.R_reads' HO_0.out).1; omega) | simpa using h_)
         obtain rfl := k62_openM hM59
         have HP59 := (Kd.R_seg HQ58.out ((ji49) : Int) (of_decide_eq_true (by first | (with_reducible assumption) | assumption)) (by have h_ : ((ji49) : Int) < ((x0_2.length : Int) : Int) := of_decide_eq_true (by first | (with_reducible assumption) | assumption); first | exact h_ | (have e_ := (Kd.R_reads' HO_0.out).1; omega) | simpa using h_) (seg := [.int .u64 ((rd_T62 x0_2 x17_2).f0), .int .i64 ((rd_T62 x0_2 x17_2).f1)]) (j := 0) hcl59 hcc59 (show 2 ≤ 2 from by decide) (x' := (⟨(rd_T62 x0_2 x17_2).f0, (rd_T62 x0_2 x17_2).f1⟩ : S62)) (k62_mkM _ _ _ (⟨(rd_T62 x0_2 x17_2).f0, (rd_T62 x0_2 x17_2).f1⟩ : S62) ) (fun _ hk => hk)).1
         rw [← Ny544.out] at HP59
         have HQ59 := Aside0.mk HP59
         clear hcl59 hcc59 hfr59 hM59 HP59
         refine start_ (n := 18) (S := fun w' => w'.cell? ⟨go54, ((ji49)).toNat * 2, none⟩ = some (.int .u64 ((rd_T62 x0_2 (ji49)).f0)) ∧ w'.cell? ⟨go54, ((ji49)).toNat * 2 + 1, none⟩ = some (.int .i64 ((rd_T62 x0_2 (ji49)).f1)) ∧ w'.cell? ⟨go54, ((x17_2).toNat * 2), none⟩ = some (.int .u64 ((rd_T62 x0_2 x17_2).f0)) ∧ w'.cell? ⟨go54, ((x17_2).toNat * 2) + 1, none⟩ = some (.int .i64 ((rd_T62 x0_2 x17_2).f1))) (ds := [15, 17]) (bl_ 18 0) (by kernel_rfl) rfl (by kernel_rfl) ⟨hx541_0, hx541_1, hx542_0, hx542_1⟩ (fun hHeld => ?_); refine with_tabW slices_symMergeCmpFunc_api_Charge_c47.tab23 slices_symMergeCmpFunc_api_Charge_c47.bits23 (fun HT_ HW_ => ?_)
         generalize wr.drew = w56 at HO_0 HK HB GG54 HQ58 HQ59 hf54_0 hf54_1 hf55_0 hf55_1 hx541_0 hx541_1 hx542_0 hx542_1 hx54_0 hx54_1 hx55_0 hx55_1 hHeld ⊢
         (try (have hzx54_0 := hx54_0; simp only [World.setCells, show k62.sz = 2 from rfl, Nat.add_zero] at hzx54_0; (try simp [go_sem] at hzx54_0)))
         (try (have hzx54_1 := hx54_1; simp only [World.setCells, show k62.sz = 2 from rfl, Nat.add_zero] at hzx54_1; (try simp [go_sem] at hzx54_1)))
         (try (have hzf54_0 := hf54_0; simp only [World.setCells, show k62.sz = 2 from rfl, Nat.add_zero] at hzf54_0; (try simp [go_sem] at hzf54_0)))
         (try (have hzf54_1 := hf54_1; simp only [World.setCells, show k62.sz = 2 from rfl, Nat.add_zero] at hzf54_1; (try simp [go_sem] at hzf54_1)))
         (try (have hzx55_0 := hx55_0; simp only [World.setCells, show k62.sz = 2 from rfl, Nat.add_zero] at hzx55_0; (try simp [go_sem] at hzx55_0)))
         (try (have hzx55_1 := hx55_1; simp only [World.setCells, show k62.sz = 2 from rfl, Nat.add_zero] at hzx55_1; (try simp [go_sem] at hzx55_1)))
         (try (have hzf55_0 := hf55_0; simp only [World.setCells, show k62.sz = 2 from rfl, Nat.add_zero] at hzf55_0; (try simp [go_sem] at hzf55_0)))
         (try (have hzf55_1 := hf55_1; simp only [World.setCells, show k62.sz = 2 from rfl, Nat.add_zero] at hzf55_1; (try simp [go_sem] at hzf55_1)))
         refine pa_ 0 (some 113) (bl_ 18 1) HT_ ?_
         refine pa_ 1 (some 114) (bl_ 18 3) HT_ ?_
         refine pa_ 2 (some 115) (bl_ 18 7) HT_ ?_
         refine pa_ 3 (some 116) (bl_ 18 15) HT_ ?_
         refine pa_ 4 (some 117) (bl_ 18 31) HT_ ?_
         refine pa_ 5 (some 118) (bl_ 18 63) HT_ ?_
         refine pa_ 6 (some 119) (bl_ 18 127) HT_ ?_
         refine pa_ 7 (some 120) (bl_ 18 255) HT_ ?_
         refine pa_ 8 (some 121) (bl_ 18 511) HT_ ?_
         refine pa_ 10 (some 123) (bl_ 18 1535) HT_ ?_
         refine pa_ 11 (some 124) (bl_ 18 3583) HT_ ?_
         refine pa_ 12 (some 125) (bl_ 18 7679) HT_ ?_
         refine ta_ 9 (some 122) (bl_ 18 8191) HT_ HW_ hHeld ?_
         refine ta_ 13 (some 126) (bl_ 18 16383) HT_ HW_ hHeld ?_
         refine pa_ 14 (some 127) (bl_ 18 32767) HT_ ?_
         refine last_ (i := 15) (N := none) (bl_ 18 65535) rfl rfl (one_of HT_.out (by kernel_rfl)) (by decide) (fun K hK => ?_)
         refine sk_ ?_
         refine hK.out _ _ ?_
         clear hK K
         refine pa_ 16 (some 128) (bl_ 18 131071) HT_ ?_
         refine last_ (i := 17) (N := none) (bl_ 18 262143) rfl rfl (one_of HT_.out (by kernel_rfl)) (by decide) (fun K hK => ?_)
         refine sk_ ?_
         refine hK.out _ _ ?_
         clear hK K
         refine done_ (done_of HT_.out (by kernel_rfl)) ?_
         try go_wp2
         go_roundg k2
         case measure => first | exact Nat.le_of_succ_le HK1.out | exact Nat.le_of_succ_le HK2.out | exact HK1.out | exact HK2.out | exact Nat.lt_succ_self _ | exact Nat.le_refl _ | (have := HK1.out; have := HK2.out; omega)
         case rel => exact ⟨(y544), (ji49), (by first | rfl | (simp; done) | (simp only [← hji49] <;> (first | rfl | simp)) | (simp [*]; done)), H', ⟨by first | exact Nat.le_of_succ_le HK1.out | exact Nat.le_of_succ_le HK2.out | exact HK1.out | exact HK2.out | exact Nat.lt_succ_self _ | exact Nat.le_refl _ | (have := HK1.out; have := HK2.out; omega)⟩, ⟨by (with_reducible repeat (first | apply Kd.R_alloc | apply Kd.R_drewN | apply Kd.R_drew)); exact HQ59.out⟩, ⟨by repeat (first | (with_reducible first | exact HK.out | apply Kept.alloc | apply Kept.drewN | apply Kept.drew | refine Kept.setCell ?_ HMgo54.out _ | refine Kept.setCell ?_ HMgo54.out _ | refine Kept.setCell ?_ HMgo54.out _ | refine Kept.setCell ?_ HMgo54.out _) | exact HK.out)⟩, ⟨by repeat (first | (with_reducible first | exact HB.out | apply below_alloc | apply pw_below_drewN | apply below_drew1 | refine below_set ?_ GB54.out | refine below_set ?_ GB54.out | refine below_set ?_ GB54.out | refine below_set ?_ GB54.out) | exact HB.out)⟩⟩
        ·rw [if_neg c48] at H
         have c48b0 : decide (x14_1 < x17_2) = false := decide_eq_false c48
         clear c48
         obtain rfl := Option.some.inj H
         go_wp2
         first | go_end0 | ((try simp only [Exit.inBlock, Exit.then]); refine bodyPost_ret (results_none rfl _ _ _) rfl ?_)
         exact ⟨by first | rfl | (simp [errW_none, errW_some] <;> rfl) | (simp [*, errW_none, errW_some] <;> rfl), by (with_reducible repeat (first | apply Kd.R_alloc | apply Kd.R_drewN | apply Kd.R_drew)); exact HO_0.out, by repeat (first | (with_reducible first | exact HB.out | apply below_alloc | apply pw_below_drewN | apply below_drew1) | exact HB.out), by repeat (first | (with_reducible first | exact HK.out | apply Kept.alloc | apply Kept.drewN | apply Kept.drew) | exact HK.out)⟩
  ·rw [if_neg c33] at H
   have c33b0 : ((wrap64 (a3 - a2)) == 1) = false := beq_eq_false_iff_ne.mpr c33
   have c33b1 : ((wrap64 (a3 - a2)) != 1) = true := bne_iff_ne.mpr c33
   have HC60 := Aside0.mk H
   clear H
   go_enter Try.func78, Try.ntmps78
   go_upto_if 140 with (fail)
   go_cut [20, 21] (fun v20 v21 wc => ∃ (kq : Nat) (x20_59 : Int) (x21_59 : Int), v20 = .int .i64 x20_59 ∧ v21 = .int .i64 x21_59 ∧ Aside0 (slices_symMergeCmpFunc_api_Charge_c47.j4 kq l0 a1 a2 a3 a4 (wrap64 ((IntKind.u64.wrap (wrap64 (a1 + a3))) / 2)) (wrap64 ((wrap64 ((IntKind.u64.wrap (wrap64 (a1 + a3))) / 2)) + a2)) x20_59 x21_59 = some r) ∧ Aside0 (kq ≤ k) ∧ Aside0 (Kd.R k62 62 wc w0.heap.size (fun k_ => (P0_ k_ ∨ w.heap.size ≤ k_)) u9000_ l0) ∧ Aside0 (Kept w wc (fun k_ => P0_ k_)) ∧ Aside0 (Below w0.heap.size w0 wc))
   case first =>
    have H := HC60.out
    clear HC60
    by_cases c61 : a2 > (wrap64 ((IntKind.u64.wrap (wrap64 (a1 + a3))) / 2))
    ·rw [if_pos c61] at H
     have c61b0 : decide ((wrap64 ((IntKind.u64.wrap (wrap64 (a1 + a3))) / 2)) < a2) = true := decide_eq_true c61
     clear c61
     (first | rw [c61b0] | (simp only [i64_w, i32_w]; rw [c61b0]) | skip)
     have H' := Aside0.mk H
     clear H
     go_wp2
     go_meet
     case rel => exact ⟨_, (wrap64 ((wrap64 ((wrap64 ((IntKind.u64.wrap (wrap64 (a1 + a3))) / 2)) + a2)) - a3)), (wrap64 ((IntKind.u64.wrap (wrap64 (a1 + a3))) / 2)), rf_, rf_, H', al_, ⟨rs_ HO0⟩, ⟨by repeat (first | (with_reducible first | exact HK.out | apply Kept.alloc | apply Kept.drewN | apply Kept.drew) | exact HK.out)⟩, bw_⟩
    ·rw [if_neg c61] at H
     have c61b0 : decide ((wrap64 ((IntKind.u64.wrap (wrap64 (a1 + a3))) / 2)) < a2) = false := decide_eq_false c61
     clear c61
     (first | rw [c61b0] | (simp only [i64_w, i32_w]; rw [c61b0]) | skip)
     have H' := Aside0.mk H
     clear H
     go_wp2
     go_meet
     case rel => exact ⟨_, (a1), (a2), rf_, rf_, H', al_, ⟨rs_ HO0⟩, ⟨by repeat (first | (with_reducible first | exact HK.out | apply Kept.alloc | apply Kept.drewN | apply Kept.drew) | exact HK.out)⟩, bw_⟩
   case rest =>
    clear HC60
    try clear c6
    try clear c6b0
    try clear c6b1
    try clear c33
    try clear c33b0
    try clear c33b1
    obtain ⟨kq, x20_59, x21_59, rfl, rfl, HA, HJ59, HO_0, HK, HB⟩ := hcut
    cases kq with
    | zero => exact absurd HA.out (by simp [slices_symMergeCmpFunc_api_Charge_c47.j4])
    | succ kj59 =>
     have H := HA.out
     clear HA
     simp only [slices_symMergeCmpFunc_api_Charge_c47.j4] at H
     have H' := Aside0.mk H
     clear H
     go_wp2
     go_loopg [20, 21] kj59 (fun kq v20 v21 w' => ∃ (x20_2 : Int) (x21_2 : Int), v20 = .int .i64 x20_2 ∧ v21 = .int .i64 x21_2 ∧ Aside0 (slices_symMergeCmpFunc_api_Charge_c47.l4 kq l0 a1 a2 a3 a4 (wrap64 ((IntKind.u64.wrap (wrap64 (a1 + a3))) / 2)) (wrap64 ((wrap64 ((IntKind.u64.wrap (wrap64 (a1 + a3))) / 2)) + a2)) x20_2 x21_2 (wrap64 ((wrap64 ((wrap64 ((IntKind.u64.wrap (wrap64 (a1 + a3))) / 2)) + a2)) - 1)) = some r) ∧ Aside0 (kq ≤ kj59) ∧ Aside0 (Kd.R k62 62 w' w0.heap.size (fun k_ => (P0_ k_ ∨ w.heap.size ≤ k_)) u9000_ l0) ∧ Aside0 (Kept w w' (fun k_ => P0_ k_)) ∧ Aside0 (Below w0.heap.size w0 w'))
     case atStart => exact ⟨(x20_59), (x21_59), rf_, rf_, H', ⟨Nat.le_refl _⟩, ⟨rs_ HO_0⟩, ⟨by repeat (first | (with_reducible first | exact HK.out | apply Kept.alloc | apply Kept.drewN | apply Kept.drew) | exact HK.out)⟩, bw_⟩
     case round =>
      clear H'
      try clear c6
      try clear c6b0
      try clear c6b1
      try clear c33
      try clear c33b0
      try clear c33b1
      obtain ⟨x20_2, x21_2, rfl, rfl, HA, HK2, HO_0, HK, HB⟩ := hrel
      cases gk with
      | zero => exact absurd HA.out (by simp [slices_symMergeCmpFunc_api_Charge_c47.l4])
      | succ k2 =>
       have H := HA.out
       clear HA
       simp only [slices_symMergeCmpFunc_api_Charge_c47.l4] at H
       by_cases c62 : x20_2 < x21_2
       ·as_aux_lemma =>
        rw [if_pos c62] at H
        have c62b0 : decide (x20_2 < x21_2) = true := decide_eq_true c62
        clear c62
        obtain ⟨ji63, hji63⟩ : ∃ j_ : Int, (wrap64 ((wrap64 ((wrap64 ((wrap64 ((IntKind.u64.wrap (wrap64 (a1 + a3))) / 2)) + a2)) - 1)) - (wrap64 ((IntKind.u64.wrap (wrap64 (x20_2 + x21_2))) / 2)))) = j_ := ⟨_, rfl⟩
        replace H : (if 0 ≤ (ji63) then (if (ji63) < (l0.length : Int) then (if 0 ≤ (wrap64 ((IntKind.u64.wrap (wrap64 (x20_2 + x21_2))) / 2)) then (if (wrap64 ((IntKind.u64.wrap (wrap64 (x20_2 + x21_2))) / 2)) < (l0.length : Int) then ((curve_Join_1.f ((rd_T62 l0 (ji63)).f0) ((rd_T62 l0 (ji63)).f1) ((rd_T62 l0 (wrap64 ((IntKind.u64.wrap (wrap64 (x20_2 + x21_2))) / 2))).f0) ((rd_T62 l0 (wrap64 ((IntKind.u64.wrap (wrap64 (x20_2 + x21_2))) / 2))).f1)).bind fun t547 => (if t547 < 0 then (slices_symMergeCmpFunc_api_Charge_c47.l4 k2 l0 a1 a2 a3 a4 (wrap64 ((IntKind.u64.wrap (wrap64 (a1 + a3))) / 2)) (wrap64 ((wrap64 ((IntKind.u64.wrap (wrap64 (a1 + a3))) / 2)) + a2)) x20_2 (wrap64 ((IntKind.u64.wrap (wrap64 (x20_2 + x21_2))) / 2)) (wrap64 ((wrap64 ((wrap64 ((IntKind.u64.wrap (wrap64 (a1 + a3))) / 2)) + a2)) - 1))) else (slices_symMergeCmpFunc_api_Charge_c47.l4 k2 l0 a1 a2 a3 a4 (wrap64 ((IntKind.u64.wrap (wrap64 (a1 + a3))) / 2)) (wrap64 ((wrap64 ((IntKind.u64.wrap (wrap64 (a1 + a3))) / 2)) + a2)) (wrap64 ((wrap64 ((IntKind.u64.wrap (wrap64 (x20_2 + x21_2))) / 2)) + 1)) x21_2 (wrap64 ((wrap64 ((wrap64 ((IntKind.u64.wrap (wrap64 (a1 + a3))) / 2)) + a2)) - 1))))) else (none)) else (none)) else (none)) else (none)) = some r := by first | (rw [hji63] at H; exact H) | (simp only [hji63] at H ⊢; exact H)
        have hji63w : (IntKind.i64.wrap ((wrap64 ((wrap64 ((wrap64 ((IntKind.u64.wrap (wrap64 (a1 + a3))) / 2)) + a2)) - 1)) - (wrap64 ((IntKind.u64.wrap (wrap64 (x20_2 + x21_2))) / 2)))) = ji63 := (i64_w _).trans hji63
        by_cases c64 : 0 ≤ (ji63)
        rotate_left
        ·rw [if_neg c64] at H; exact absurd H (by simp)
        rw [if_pos c64] at H
        have c64b0 : decide (0 ≤ (ji63)) = true := decide_eq_true c64
        clear c64
        by_cases c65 : (ji63) < (l0.length : Int)
        rotate_left
        ·rw [if_neg c65] at H; exact absurd H (by simp)
        rw [if_pos c65] at H
        have c65b0 : decide ((ji63) < (l0.length : Int)) = true := decide_eq_true c65
        clear c65
        obtain ⟨ji66, hji66⟩ : ∃ j_ : Int, (wrap64 ((IntKind.u64.wrap (wrap64 (x20_2 + x21_2))) / 2)) = j_ := ⟨_, rfl⟩
        (try (have hzji63_ji66 := hji63; rw [hji66] at hzji63_ji66))
        replace H : (if 0 ≤ (ji66) then (if (ji66) < (l0.length : Int) then ((curve_Join_1.f ((rd_T62 l0 (ji63)).f0) ((rd_T62 l0 (ji63)).f1) ((rd_T62 l0 (ji66)).f0) ((rd_T62 l0 (ji66)).f1)).bind fun t547 => (if t547 < 0 then (slices_symMergeCmpFunc_api_Charge_c47.l4 k2 l0 a1 a2 a3 a4 (wrap64 ((IntKind.u64.wrap (wrap64 (a1 + a3))) / 2)) (wrap64 ((wrap64 ((IntKind.u64.wrap (wrap64 (a1 + a3))) / 2)) + a2)) x20_2 ji66 (wrap64 ((wrap64 ((wrap64 ((IntKind.u64.wrap (wrap64 (a1 + a3))) / 2)) + a2)) - 1))) else (slices_symMergeCmpFunc_api_Charge_c47.l4 k2 l0 a1 a2 a3 a4 (wrap64 ((IntKind.u64.wrap (wrap64 (a1 + a3))) / 2)) (wrap64 ((wrap64 ((IntKind.u64.wrap (wrap64 (a1 + a3))) / 2)) + a2)) (wrap64 ((ji66) + 1)) x21_2 (wrap64 ((wrap64 ((wrap64 ((IntKind.u64.wrap (wrap64 (a1 + a3))) / 2)) + a2)) - 1))))) else (none)) else (none)) = some r := by first | (rw [hji66] at H; exact H) | (simp only [hji66] at H ⊢; exact H)
        have hji66w : (IntKind.i64.wrap ((IntKind.u64.wrap (wrap64 (x20_2 + x21_2))) / 2)) = ji66 := (i64_w _).trans hji66
        by_cases c67 : 0 ≤ (ji66)
        rotate_left
        ·rw [if_neg c67] at H; exact absurd H (by simp)
        rw [if_pos c67] at H
        have c67b0 : decide (0 ≤ (ji66)) = true := decide_eq_true c67
        clear c67
        by_cases c68 : (ji66) < (l0.length : Int)
        rotate_left
        ·rw [if_neg c68] at H; exact absurd H (by simp)
        rw [if_pos c68] at H
        have c68b0 : decide ((ji66) < (l0.length : Int)) = true := decide_eq_true c68
        clear c68
        have H0_ := bo_ H; clear H; obtain ⟨t547, A69, H⟩ := H0_
        try dsimp only at H
        by_cases c70 : t547 < 0
        ·rw [if_pos c70] at H
         have c70b0 : decide (t547 < 0) = true := decide_eq_true c70
         clear c70
         have H' := Aside0.mk H
         clear H
         try go_wp2
         replace HO_0 := Aside0.mk (Kd.R_drew HO_0.out)
         replace HK := Aside0.mk (Kept.drew HK.out)
         replace HB := Aside0.mk (below_drew1 HB.out)
         obtain ⟨Ao72, co72, eo72⟩ := Kd.R_slice HO_0.out
         (first | subst eo72 | (injection eo72 with f1_ f2_ f3_; have f4_ := f1_.symm; have f5_ := f3_.symm; clear f1_ f2_ f3_; subst f4_; subst f5_))
         have p545 : 0 ≤ ((ji63) : Int) := of_decide_eq_true (by first | (with_reducible assumption) | assumption)
         have q545 : (ji63) < (l0.length : Int) := of_decide_eq_true (by first | (with_reducible assumption) | assumption)
         obtain ⟨ad545, e545, hx545_0, hx545_1⟩ := at_T62 (Kd.R_reads' HO_0.out).2.2 (ji63) p545 q545
         cases e545
         replace p545 := eq_true p545
         replace q545 := eq_true q545
         have p546 : 0 ≤ ((ji66) : Int) := of_decide_eq_true (by first | (with_reducible assumption) | assumption)
         have q546 : (ji66) < (l0.length : Int) := of_decide_eq_true (by first | (with_reducible assumption) | assumption)
         obtain ⟨ad546, e546, hx546_0, hx546_1⟩ := at_T62 (Kd.R_reads' HO_0.out).2.2 (ji66) p546 q546
         obtain rfl : ad545 = ad546 := (by injection e546)
         replace p546 := eq_true p546
         replace q546 := eq_true q546
         refine start_ (n := 14) (S := fun w' => w'.cell? (ad545.add (((ji63)).toNat * 2)) = some (.int .u64 ((rd_T62 l0 (ji63)).f0)) ∧ w'.cell? ⟨(ad545.add (((ji63)).toNat * 2)).block, (ad545.add (((ji63)).toNat * 2)).off + 1, none⟩ = some (.int .i64 ((rd_T62 l0 (ji63)).f1)) ∧ w'.cell? (ad545.add (((ji66)).toNat * 2)) = some (.int .u64 ((rd_T62 l0 (ji66)).f0)) ∧ w'.cell? ⟨(ad545.add (((ji66)).toNat * 2)).block, (ad545.add (((ji66)).toNat * 2)).off + 1, none⟩ = some (.int .i64 ((rd_T62 l0 (ji66)).f1))) (ds := []) (bl_ 14 0) (by kernel_rfl) rfl (by kernel_rfl) ⟨hx545_0, hx545_1, hx546_0, hx546_1⟩ (fun hHeld => ?_); refine with_tabW slices_symMergeCmpFunc_api_Charge_c47.tab35 slices_symMergeCmpFunc_api_Charge_c47.bits35 (fun HT_ HW_ => ?_)
         generalize wr.drew = w71 at HO_0 HK HB hx545_0 hx545_1 hx546_0 hx546_1 hHeld ⊢
         refine pa_ 0 (some 158) (bl_ 14 1) HT_ ?_
         refine pa_ 1 (some 159) (bl_ 14 3) HT_ ?_
         refine pa_ 2 (some 160) (bl_ 14 7) HT_ ?_
         refine pa_ 3 (some 161) (bl_ 14 15) HT_ ?_
         refine pa_ 4 (some 162) (bl_ 14 31) HT_ ?_
         refine pa_ 5 (some 163) (bl_ 14 63) HT_ ?_
         refine pa_ 7 (some 165) (bl_ 14 191) HT_ ?_
         refine pa_ 8 (some 166) (bl_ 14 447) HT_ ?_
         refine pa_ 9 (some 167) (bl_ 14 959) HT_ ?_
         refine ta_ 6 (some 164) (bl_ 14 1023) HT_ HW_ hHeld ?_
         refine ta_ 10 (some 168) (bl_ 14 2047) HT_ HW_ hHeld ?_
         refine oa_ 11 (some 169) (bl_ 14 4095) HT_ fun K hK => ?_
         refine goesT_ Try.func47 (by kernel_rfl) rfl #[.agg #[.int .u64 ((rd_T62 l0 (ji63)).f0), .int .i64 ((rd_T62 l0 (ji63)).f1)], .agg #[.int .u64 ((rd_T62 l0 (ji66)).f0), .int .i64 ((rd_T62 l0 (ji66)).f1)]] (by rfl) rfl rfl rfl (by (try simp only [List.map_toArray, List.map_cons, List.map_nil]); first | done | (simp only [hji63, hji66]; rfl) | rfl | (simp only [List.length_drop, List.length_take]; rfl)) ?_
         with_reducible refine (curve_Join_1.calls ((rd_T62 l0 (ji63)).f0) ((rd_T62 l0 (ji63)).f1) ((rd_T62 l0 (ji66)).f0) ((rd_T62 l0 (ji66)).f1) t547 _ A69.out).mono ?_
         rintro e w73 ⟨rfl, hb⟩
         have HS0_ := (hb.cell (World.block_lt_of_cell? _ _ (hHeld.1))).trans (hHeld.1)
         have HS1_ := (hb.cell (World.block_lt_of_cell? _ _ (hHeld.2.1))).trans (hHeld.2.1)
         have HS2_ := (hb.cell (World.block_lt_of_cell? _ _ (hHeld.2.2.1))).trans (hHeld.2.2.1)
         have HS3_ := (hb.cell (World.block_lt_of_cell? _ _ (hHeld.2.2.2))).trans (hHeld.2.2.2)
         refine ⟨_, rfl, ?_⟩
         replace HO_0 := rb_ HO_0 hb
         replace HK := Aside0.mk (Kept.below (S := (fun k_ => P0_ k_)) (by repeat (first | (with_reducible first | exact HK.out | apply Kept.alloc | apply Kept.drewN | apply Kept.drew) | exact HK.out)) hb)
         replace HB := Aside0.mk (below_step (hq_ HB) hb)
         clear hb
         refine hK.out _ _ ⟨HS0_, HS1_, HS2_, HS3_⟩ (fun hHeld => ?_)
         clear hK K
         refine nm_ (some 169) ?_
         refine pa_ 12 (some 170) (bl_ 14 8191) HT_ ?_
         refine pa_ 13 (some 171) (bl_ 14 16383) HT_ ?_
         refine done_ (done_of HT_.out (by kernel_rfl)) ?_
         try go_wp2
         go_roundg k2
         case measure => first | exact Nat.le_of_succ_le HJ59.out | exact Nat.le_of_succ_le HK2.out | exact HJ59.out | exact HK2.out | exact Nat.lt_succ_self _ | exact Nat.le_refl _ | (have := HJ59.out; have := HK2.out; omega)
         case rel => exact ⟨(x20_2), (ji66), rf_, (by first | rfl | (simp; done) | (simp only [← hji66] <;> (first | rfl | simp)) | (simp [*]; done)), H', ⟨by first | exact Nat.le_of_succ_le HJ59.out | exact Nat.le_of_succ_le HK2.out | exact HJ59.out | exact HK2.out | exact Nat.lt_succ_self _ | exact Nat.le_refl _ | (have := HJ59.out; have := HK2.out; omega)⟩, ⟨rs_ HO_0⟩, ⟨by repeat (first | (with_reducible first | exact HK.out | apply Kept.alloc | apply Kept.drewN | apply Kept.drew) | exact HK.out)⟩, bw_⟩
        ·rw [if_neg c70] at H
         have c70b0 : decide (t547 < 0) = false := decide_eq_false c70
         clear c70
         have H' := Aside0.mk H
         clear H
         try go_wp2
         replace HO_0 := Aside0.mk (Kd.R_drew HO_0.out)
         replace HK := Aside0.mk (Kept.drew HK.out)
         replace HB := Aside0.mk (below_drew1 HB.out)
         obtain ⟨Ao75, co75, eo75⟩ := Kd.R_slice HO_0.out
         (first | subst eo75 | (injection eo75 with f1_ f2_ f3_; have f4_ := f1_.symm; have f5_ := f3_.symm; clear f1_ f2_ f3_; subst f4_; subst f5_))
         have p545 : 0 ≤ ((ji63) : Int) := of_decide_eq_true (by first | (with_reducible assumption) | assumption)
         have q545 : (ji63) < (l0.length : Int) := of_decide_eq_true (by first | (with_reducible assumption) | assumption)
         obtain ⟨ad545, e545, hx545_0, hx545_1⟩ := at_T62 (Kd.R_reads' HO_0.out).2.2 (ji63) p545 q545
         cases e545
         replace p545 := eq_true p545
         replace q545 := eq_true q545
         have p546 : 0 ≤ ((ji66) : Int) := of_decide_eq_true (by first | (with_reducible assumption) | assumption)
         have q546 : (ji66) < (l0.length : Int) := of_decide_eq_true (by first | (with_reducible assumption) | assumption)
         obtain ⟨ad546, e546, hx546_0, hx546_1⟩ := at_T62 (Kd.R_reads' HO_0.out).2.2 (ji66) p546 q546
         obtain rfl : ad545 = ad546 := (by injection e546)
         replace p546 := eq_true p546
         replace q546 := eq_true q546
         refine start_ (n := 14) (S := fun w' => w'.cell? (ad545.add (((ji63)).toNat * 2)) = some (.int .u64 ((rd_T62 l0 (ji63)).f0)) ∧ w'.cell? ⟨(ad545.add (((ji63)).toNat * 2)).block, (ad545.add (((ji63)).toNat * 2)).off + 1, none⟩ = some (.int .i64 ((rd_T62 l0 (ji63)).f1)) ∧ w'.cell? (ad545.add (((ji66)).toNat * 2)) = some (.int .u64 ((rd_T62 l0 (ji66)).f0)) ∧ w'.cell? ⟨(ad545.add (((ji66)).toNat * 2)).block, (ad545.add (((ji66)).toNat * 2)).off + 1, none⟩ = some (.int .i64 ((rd_T62 l0 (ji66)).f1))) (ds := []) (bl_ 14 0) (by kernel_rfl) rfl (by kernel_rfl) ⟨hx545_0, hx545_1, hx546_0, hx546_1⟩ (fun hHeld => ?_); refine with_tabW slices_symMergeCmpFunc_api_Charge_c47.tab35 slices_symMergeCmpFunc_api_Charge_c47.bits35 (fun HT_ HW_ => ?_)
         generalize wr.drew = w74 at HO_0 HK HB hx545_0 hx545_1 hx546_0 hx546_1 hHeld ⊢
         refine pa_ 0 (some 158) (bl_ 14 1) HT_ ?_
         refine pa_ 1 (some 159) (bl_ 14 3) HT_ ?_
         refine pa_ 2 (some 160) (bl_ 14 7) HT_ ?_
         refine pa_ 3 (some 161) (bl_ 14 15) HT_ ?_
         refine pa_ 4 (some 162) (bl_ 14 31) HT_ ?_
         refine pa_ 5 (some 163) (bl_ 14 63) HT_ ?_
         refine pa_ 7 (some 165) (bl_ 14 191) HT_ ?_
         refine pa_ 8 (some 166) (bl_ 14 447) HT_ ?_
         refine pa_ 9 (some 167) (bl_ 14 959) HT_ ?_
         refine ta_ 6 (some 164) (bl_ 14 1023) HT_ HW_ hHeld ?_
         refine ta_ 10 (some 168) (bl_ 14 2047) HT_ HW_ hHeld ?_
         refine oa_ 11 (some 169) (bl_ 14 4095) HT_ fun K hK => ?_
         refine goesT_ Try.func47 (by kernel_rfl) rfl #[.agg #[.int .u64 ((rd_T62 l0 (ji63)).f0), .int .i64 ((rd_T62 l0 (ji63)).f1)], .agg #[.int .u64 ((rd_T62 l0 (ji66)).f0), .int .i64 ((rd_T62 l0 (ji66)).f1)]] (by rfl) rfl rfl rfl (by (try simp only [List.map_toArray, List.map_cons, List.map_nil]); first | done | (simp only [hji63, hji66]; rfl) | rfl | (simp only [List.length_drop, List.length_take]; rfl)) ?_
         with_reducible refine (curve_Join_1.calls ((rd_T62 l0 (ji63)).f0) ((rd_T62 l0 (ji63)).f1) ((rd_T62 l0 (ji66)).f0) ((rd_T62 l0 (ji66)).f1) t547 _ A69.out).mono ?_
         rintro e w76 ⟨rfl, hb⟩
         have HS0_ := (hb.cell (World.block_lt_of_cell? _ _ (hHeld.1))).trans (hHeld.1)
         have HS1_ := (hb.cell (World.block_lt_of_cell? _ _ (hHeld.2.1))).trans (hHeld.2.1)
         have HS2_ := (hb.cell (World.block_lt_of_cell? _ _ (hHeld.2.2.1))).trans (hHeld.2.2.1)
         have HS3_ := (hb.cell (World.block_lt_of_cell? _ _ (hHeld.2.2.2))).trans (hHeld.2.2.2)
         refine ⟨_, rfl, ?_⟩
         replace HO_0 := rb_ HO_0 hb
         replace HK := Aside0.mk (Kept.below (S := (fun k_ => P0_ k_)) (by repeat (first | (with_reducible first | exact HK.out | apply Kept.alloc | apply Kept.drewN | apply Kept.drew) | exact HK.out)) hb)
         replace HB := Aside0.mk (below_step (hq_ HB) hb)
         clear hb
         refine hK.out _ _ ⟨HS0_, HS1_, HS2_, HS3_⟩ (fun hHeld => ?_)
         clear hK K
         refine nm_ (some 169) ?_
         refine pa_ 12 (some 170) (bl_ 14 8191) HT_ ?_
         refine pa_ 13 (some 171) (bl_ 14 16383) HT_ ?_
         refine done_ (done_of HT_.out (by kernel_rfl)) ?_
         try go_wp2
         go_roundg k2
         case measure => first | exact Nat.le_of_succ_le HJ59.out | exact Nat.le_of_succ_le HK2.out | exact HJ59.out | exact HK2.out | exact Nat.lt_succ_self _ | exact Nat.le_refl _ | (have := HJ59.out; have := HK2.out; omega)
         case rel => exact ⟨(wrap64 ((ji66) + 1)), (x21_2), (by first | rfl | (simp; done) | (simp only [← hji66] <;> (first | rfl | simp)) | (simp [*]; done)), rf_, H', ⟨by first | exact Nat.le_of_succ_le HJ59.out | exact Nat.le_of_succ_le HK2.out | exact HJ59.out | exact HK2.out | exact Nat.lt_succ_self _ | exact Nat.le_refl _ | (have := HJ59.out; have := HK2.out; omega)⟩, ⟨rs_ HO_0⟩, ⟨by repeat (first | (with_reducible first | exact HK.out | apply Kept.alloc | apply Kept.drewN | apply Kept.drew) | exact HK.out)⟩, bw_⟩
       ·as_aux_lemma =>
        rw [if_neg c62] at H
        have c62b0 : decide (x20_2 < x21_2) = false := decide_eq_false c62
        clear c62
        have HC77 := Aside0.mk H
        clear H
        go_upto_region 39 with (fail)
        go_cut [185] (fun v185 wc => ∃ (kq : Nat) (x185_76 : Bool), v185 = .bool x185_76 ∧ Aside0 (slices_symMergeCmpFunc_api_Charge_c47.j6 kq l0 a1 a2 a3 a4 (wrap64 ((IntKind.u64.wrap (wrap64 (a1 + a3))) / 2)) x20_2 (wrap64 ((wrap64 ((wrap64 ((IntKind.u64.wrap (wrap64 (a1 + a3))) / 2)) + a2)) - x20_2)) x185_76 = some r) ∧ Aside0 (kq ≤ k2) ∧ Aside0 (Kd.R k62 62 wc w0.heap.size (fun k_ => (P0_ k_ ∨ w.heap.size ≤ k_)) u9000_ l0) ∧ Aside0 (Kept w wc (fun k_ => P0_ k_)) ∧ Aside0 (Below w0.heap.size w0 wc))
        case first =>
         have H := HC77.out
         clear HC77
         by_cases c78 : x20_2 < a2
         ·rw [if_pos c78] at H
          have c78b0 : decide (x20_2 < a2) = true := decide_eq_true c78
          clear c78
          (first | rw [c78b0] | (simp only [i64_w, i32_w]; rw [c78b0]) | skip)
          have H' := Aside0.mk H
          clear H
          go_wp2
          go_meet
          case rel => exact ⟨_, (decide (a2 < (wrap64 ((wrap64 ((wrap64 ((IntKind.u64.wrap (wrap64 (a1 + a3))) / 2)) + a2)) - x20_2)))), rf_, H', ⟨by have := HJ59.out; have := HK2.out; first | omega | exact Nat.le_refl _⟩, ⟨rs_ HO_0⟩, ⟨by repeat (first | (with_reducible first | exact HK.out | apply Kept.alloc | apply Kept.drewN | apply Kept.drew) | exact HK.out)⟩, bw_⟩
         ·rw [if_neg c78] at H
          have c78b0 : decide (x20_2 < a2) = false := decide_eq_false c78
          clear c78
          (first | rw [c78b0] | (simp only [i64_w, i32_w]; rw [c78b0]) | skip)
          have H' := Aside0.mk H
          clear H
          go_wp2
          go_meet
          case rel => exact ⟨_, (false), rf_, H', ⟨by have := HJ59.out; have := HK2.out; first | omega | exact Nat.le_refl _⟩, ⟨rs_ HO_0⟩, ⟨by repeat (first | (with_reducible first | exact HK.out | apply Kept.alloc | apply Kept.drewN | apply Kept.drew) | exact HK.out)⟩, bw_⟩
        case rest =>
         clear HC77
         try clear c6
         try clear c6b0
         try clear c6b1
         try clear c33
         try clear c33b0
         try clear c33b1
         try clear c62
         try clear c62b0
         obtain ⟨kq, x185_76, rfl, HA, HJ76, HO_0, HK, HB⟩ := hcut
         cases kq with
         | zero => exact absurd HA.out (by simp [slices_symMergeCmpFunc_api_Charge_c47.j6])
         | succ kj76 =>
          have H := HA.out
          clear HA
          simp only [slices_symMergeCmpFunc_api_Charge_c47.j6] at H
          have HC79 := Aside0.mk H
          clear H
          go_upto_if 185 with (fail)
          go_cut [] (fun wc => ∃ (kq : Nat) (x0_78 : List (S62)), Aside0 (slices_symMergeCmpFunc_api_Charge_c47.j7 kq x0_78 a1 a3 a4 (wrap64 ((IntKind.u64.wrap (wrap64 (a1 + a3))) / 2)) x20_2 (wrap64 ((wrap64 ((wrap64 ((IntKind.u64.wrap (wrap64 (a1 + a3))) / 2)) + a2)) - x20_2)) = some r) ∧ Aside0 (kq ≤ kj76) ∧ Aside0 (Kd.R k62 62 wc w0.heap.size (fun k_ => (P0_ k_ ∨ w.heap.size ≤ k_)) u9000_ x0_78) ∧ Aside0 (Kept w wc (fun k_ => P0_ k_)) ∧ Aside0 (Below w0.heap.size w0 wc))
          case first =>
           have H := HC79.out
           clear HC79
           by_cases c80 : x185_76 = true
           ·subst c80
            rw [if_pos rfl] at H
            try dsimp only at H
            have H0_ := bo_ H; clear H; obtain ⟨t548, A81, H⟩ := H0_
            try dsimp only at H
            have H' := Aside0.mk H
            clear H
            obtain ⟨Ao82, co82, eo82⟩ := Kd.R_slice HO_0.out
            subst eo82
            go_wp2_with (first | ((with_reducible refine gate_callee (f := 87) rfl ?_); (try refine ug_ (by rfl) ?_); refine goesA_ (some 191) Try.func87 #[.slice Ao82 l0.length co82, .int .i64 x20_2, .int .i64 a2, .int .i64 (wrap64 ((wrap64 ((wrap64 ((IntKind.u64.wrap (wrap64 (a1 + a3))) / 2)) + a2)) - x20_2)), .func (.func 47) #[] #[]] ?_; (with_reducible refine (slices_rotateCmpFunc_api_Charge_c47.calls kj76 (fun k_ => some k_ = (.slice Ao82 l0.length co82 : Value).ownBlock) (.slice Ao82 l0.length co82) l0 x20_2 a2 (wrap64 ((wrap64 ((wrap64 ((IntKind.u64.wrap (wrap64 (a1 + a3))) / 2)) + a2)) - x20_2)) a4 t548 w0 _ ?side1 ?side2 A81.out).mono ?_); (case side1 => repeat (first | (with_reducible first | exact HB.out | apply below_alloc | apply pw_below_drewN | apply below_drew1) | exact HB.out)); (case side2 => exact Kd.R_tight rfl HO_0.out); rintro e w83 ⟨rfl, hy0, hb, hkp⟩; refine ⟨_, rfl, ?_⟩; replace HK := Aside0.mk (Kept.then_ (S := (fun k_ => P0_ k_)) (by repeat (first | (with_reducible first | exact HK.out | apply Kept.alloc | apply Kept.drewN | apply Kept.drew) | exact HK.out)) hkp (fun k_ hs_ => (fun e_ => (HO_0.out.1 k_ e_.symm)) hs_)); replace HO_0 := Aside0.mk (Kd.R_reok rfl hy0 (fun k_ e_ => HO_0.out.1 k_ e_)); replace HB := Aside0.mk (hb); (try clear hb); (try clear hkp); (try clear hy0)))
            go_meet
            case rel => exact ⟨_, (t548), H', ⟨by have := HJ59.out; have := HK2.out; have := HJ76.out; first | omega | exact Nat.le_refl _⟩, ⟨rs_ HO_0⟩, ⟨by repeat (first | (with_reducible first | exact HK.out | apply Kept.alloc | apply Kept.drewN | apply Kept.drew) | exact HK.out)⟩, bw_⟩
           ·replace c80 := Bool.eq_false_iff.mpr c80
            subst c80
            rw [if_neg (show ¬ (false = true) by decide)] at H
            try dsimp only at H
            have H' := Aside0.mk H
            clear H
            go_wp2
            go_meet
            case rel => exact ⟨_, (l0), H', ⟨by have := HJ59.out; have := HK2.out; have := HJ76.out; first | omega | exact Nat.le_refl _⟩, ⟨rs_ HO_0⟩, ⟨by repeat (first | (with_reducible first | exact HK.out | apply Kept.alloc | apply Kept.drewN | apply Kept.drew) | exact HK.out)⟩, bw_⟩
          case rest =>
           clear HC79
           try clear c6
           try clear c6b0
           try clear c6b1
           try clear c33
           try clear c33b0
           try clear c33b1
           try clear c62
           try clear c62b0
           obtain ⟨kq, x0_78, HA, HJ78, HO_0, HK, HB⟩ := hcut
           cases kq with
           | zero => exact absurd HA.out (by simp [slices_symMergeCmpFunc_api_Charge_c47.j7])
           | succ kj78 =>
            have H := HA.out
            clear HA
            simp only [slices_symMergeCmpFunc_api_Charge_c47.j7] at H
            have HC84 := Aside0.mk H
            clear H
            go_upto_region 41 with (fail)
            go_cut [199] (fun v199 wc => ∃ (kq : Nat) (x199_83 : Bool), v199 = .bool x199_83 ∧ Aside0 (slices_symMergeCmpFunc_api_Charge_c47.j8 kq x0_78 a1 a3 a4 (wrap64 ((IntKind.u64.wrap (wrap64 (a1 + a3))) / 2)) x20_2 (wrap64 ((wrap64 ((wrap64 ((IntKind.u64.wrap (wrap64 (a1 + a3))) / 2)) + a2)) - x20_2)) x199_83 = some r) ∧ Aside0 (kq ≤ kj78) ∧ Aside0 (Kd.R k62 62 wc w0.heap.size (fun k_ => (P0_ k_ ∨ w.heap.size ≤ k_)) u9000_ x0_78) ∧ Aside0 (Kept w wc (fun k_ => P0_ k_)) ∧ Aside0 (Below w0.heap.size w0 wc))
            case first =>
             have H := HC84.out
             clear HC84
             by_cases c85 : a1 < x20_2
             ·rw [if_pos c85] at H
              have c85b0 : decide (a1 < x20_2) = true := decide_eq_true c85
              clear c85
              (first | rw [c85b0] | (simp only [i64_w, i32_w]; rw [c85b0]) | skip)
              have H' := Aside0.mk H
              clear H
              go_wp2
              go_meet
              case rel => exact ⟨_, (decide (x20_2 < (wrap64 ((IntKind.u64.wrap (wrap64 (a1 + a3))) / 2)))), rf_, H', ⟨by have := HJ59.out; have := HK2.out; have := HJ76.out; have := HJ78.out; first | omega | exact Nat.le_refl _⟩, ⟨rs_ HO_0⟩, ⟨by repeat (first | (with_reducible first | exact HK.out | apply Kept.alloc | apply Kept.drewN | apply Kept.drew) | exact HK.out)⟩, bw_⟩
             ·rw [if_neg c85] at H
              have c85b0 : decide (a1 < x20_2) = false := decide_eq_false c85
              clear c85
              (first | rw [c85b0] | (simp only [i64_w, i32_w]; rw [c85b0]) | skip)
              have H' := Aside0.mk H
              clear H
              go_wp2
              go_meet
              case rel => exact ⟨_, (false), rf_, H', ⟨by have := HJ59.out; have := HK2.out; have := HJ76.out; have := HJ78.out; first | omega | exact Nat.le_refl _⟩, ⟨rs_ HO_0⟩, ⟨by repeat (first | (with_reducible first | exact HK.out | apply Kept.alloc | apply Kept.drewN | apply Kept.drew) | exact HK.out)⟩, bw_⟩
            case rest =>
             clear HC84
             try clear c6
             try clear c6b0
             try clear c6b1
             try clear c33
             try clear c33b0
             try clear c33b1
             try clear c62
             try clear c62b0
             obtain ⟨kq, x199_83, rfl, HA, HJ83, HO_0, HK, HB⟩ := hcut
             cases kq with
             | zero => exact absurd HA.out (by simp [slices_symMergeCmpFunc_api_Charge_c47.j8])
             | succ kj83 =>
              have H := HA.out
              clear HA
              simp only [slices_symMergeCmpFunc_api_Charge_c47.j8] at H
              by_cases c86 : x199_83 = true
              ·subst c86
               rw [if_pos rfl] at H
               try dsimp only at H
               have H0_ := bo_ H; clear H; obtain ⟨t549, A87, H⟩ := H0_
               try dsimp only at H
               by_cases c88 : (wrap64 ((IntKind.u64.wrap (wrap64 (a1 + a3))) / 2)) < (wrap64 ((wrap64 ((wrap64 ((IntKind.u64.wrap (wrap64 (a1 + a3))) / 2)) + a2)) - x20_2))
               ·rw [if_pos c88] at H
                have c88b0 : decide ((wrap64 ((IntKind.u64.wrap (wrap64 (a1 + a3))) / 2)) < (wrap64 ((wrap64 ((wrap64 ((IntKind.u64.wrap (wrap64 (a1 + a3))) / 2)) + a2)) - x20_2))) = true := decide_eq_true c88
                clear c88
                by_cases c89 : (wrap64 ((wrap64 ((wrap64 ((IntKind.u64.wrap (wrap64 (a1 + a3))) / 2)) + a2)) - x20_2)) < a3
                ·rw [if_pos c89] at H
                 have c89b0 : decide ((wrap64 ((wrap64 ((wrap64 ((IntKind.u64.wrap (wrap64 (a1 + a3))) / 2)) + a2)) - x20_2)) < a3) = true := decide_eq_true c89
                 clear c89
                 have H0_ := bo_ H; clear H; obtain ⟨t550, A90, H⟩ := H0_
                 replace H : (some t550) = some r := H
                 obtain rfl := Option.some.inj H
                 obtain ⟨Ao91, co91, eo91⟩ := Kd.R_slice HO_0.out
                 subst eo91
                 go_wp2_with (first | ((with_reducible refine gate_callee (f := 78) rfl ?_); (try refine ug_ (by rfl) ?_); refine goesA_ (some 205) Try.func78 #[.slice Ao91 x0_78.length co91, .int .i64 a1, .int .i64 x20_2, .int .i64 (wrap64 ((IntKind.u64.wrap (wrap64 (a1 + a3))) / 2)), .func (.func 47) #[] #[]] ?_; (with_reducible refine (ih kj83 (by first | exact Nat.le_of_succ_le HJ59.out | exact Nat.le_of_succ_le HK2.out | exact Nat.le_of_succ_le HJ76.out | exact Nat.le_of_succ_le HJ78.out | exact Nat.le_of_succ_le HJ83.out | exact HJ59.out | exact HK2.out | exact HJ76.out | exact HJ78.out | exact HJ83.out | exact Nat.lt_succ_self _ | exact Nat.le_refl _ | (have := HJ59.out; have := HK2.out; have := HJ76.out; have := HJ78.out; have := HJ83.out; omega)) (fun k_ => some k_ = (.slice Ao91 x0_78.length co91 : Value).ownBlock) (.slice Ao91 x0_78.length co91) x0_78 a1 x20_2 (wrap64 ((IntKind.u64.wrap (wrap64 (a1 + a3))) / 2)) a4 t549 w0 _ ?side1 ?side2 A87.out).mono ?_); (case side1 => repeat (first | (with_reducible first | exact HB.out | apply below_alloc | apply pw_below_drewN | apply below_drew1) | exact HB.out)); (case side2 => exact Kd.R_tight rfl HO_0.out); rintro e w92 ⟨rfl, hy0, hb, hkp⟩; refine ⟨_, rfl, ?_⟩; replace HK := Aside0.mk (Kept.then_ (S := (fun k_ => P0_ k_)) (by repeat (first | (with_reducible first | exact HK.out | apply Kept.alloc | apply Kept.drewN | apply Kept.drew) | exact HK.out)) hkp (fun k_ hs_ => (fun e_ => (HO_0.out.1 k_ e_.symm)) hs_)); replace HO_0 := Aside0.mk (Kd.R_reok rfl hy0 (fun k_ e_ => HO_0.out.1 k_ e_)); replace HB := Aside0.mk (hb); (try clear hb); (try clear hkp); (try clear hy0)) | ((with_reducible refine gate_callee (f := 78) rfl ?_); (try refine ug_ (by rfl) ?_); refine goesA_ (some 219) Try.func78 #[.slice Ao91 x0_78.length co91, .int .i64 (wrap64 ((IntKind.u64.wrap (wrap64 (a1 + a3))) / 2)), .int .i64 (wrap64 ((wrap64 ((wrap64 ((IntKind.u64.wrap (wrap64 (a1 + a3))) / 2)) + a2)) - x20_2)), .int .i64 a3, .func (.func 47) #[] #[]] ?_; (with_reducible refine (ih kj83 (by first | exact Nat.le_of_succ_le HJ59.out | exact Nat.le_of_succ_le HK2.out | exact Nat.le_of_succ_le HJ76.out | exact Nat.le_of_succ_le HJ78.out | exact Nat.le_of_succ_le HJ83.out | exact HJ59.out | exact HK2.out | exact HJ76.out | exact HJ78.out | exact HJ83.out | exact Nat.lt_succ_self _ | exact Nat.le_refl _ | (have := HJ59.out; have := HK2.out; have := HJ76.out; have := HJ78.out; have := HJ83.out; omega)) (fun k_ => some k_ = (.slice Ao91 x0_78.length co91 : Value).ownBlock) (.slice Ao91 x0_78.length co91) t549 (wrap64 ((IntKind.u64.wrap (wrap64 (a1 + a3))) / 2)) (wrap64 ((wrap64 ((wrap64 ((IntKind.u64.wrap (wrap64 (a1 + a3))) / 2)) + a2)) - x20_2)) a3 a4 t550 w0 _ ?side1 ?side2 A90.out).mono ?_); (case side1 => repeat (first | (with_reducible first | exact HB.out | apply below_alloc | apply pw_below_drewN | apply below_drew1) | exact HB.out)); (case side2 => exact Kd.R_tight rfl HO_0.out); rintro e w93 ⟨rfl, hy0, hb, hkp⟩; refine ⟨_, rfl, ?_⟩; replace HK := Aside0.mk (Kept.then_ (S := (fun k_ => P0_ k_)) (by repeat (first | (with_reducible first | exact HK.out | apply Kept.alloc | apply Kept.drewN | apply Kept.drew) | exact HK.out)) hkp (fun k_ hs_ => (fun e_ => (HO_0.out.1 k_ e_.symm)) hs_)); replace HO_0 := Aside0.mk (Kd.R_reok rfl hy0 (fun k_ e_ => HO_0.out.1 k_ e_)); replace HB := Aside0.mk (hb); (try clear hb); (try clear hkp); (try clear hy0)))
                 first | go_end0 | ((try simp only [Exit.inBlock, Exit.then]); refine bodyPost_ret (results_none rfl _ _ _) rfl ?_)
                 exact ⟨by first | rfl | (simp [errW_none, errW_some] <;> rfl) | (simp [*, errW_none, errW_some] <;> rfl), by (with_reducible repeat (first | apply Kd.R_alloc | apply Kd.R_drewN | apply Kd.R_drew)); exact HO_0.out, by repeat (first | (with_reducible first | exact HB.out | apply below_alloc | apply pw_below_drewN | apply below_drew1) | exact HB.out), by repeat (first | (with_reducible first | exact HK.out | apply Kept.alloc | apply Kept.drewN | apply Kept.drew) | exact HK.out)⟩
                ·rw [if_neg c89] at H
                 have c89b0 : decide ((wrap64 ((wrap64 ((wrap64 ((IntKind.u64.wrap (wrap64 (a1 + a3))) / 2)) + a2)) - x20_2)) < a3) = false := decide_eq_false c89
                 clear c89
                 obtain rfl := Option.some.inj H
                 obtain ⟨Ao94, co94, eo94⟩ := Kd.R_slice HO_0.out
                 subst eo94
                 go_wp2_with (first | ((with_reducible refine gate_callee (f := 78) rfl ?_); (try refine ug_ (by rfl) ?_); refine goesA_ (some 205) Try.func78 #[.slice Ao94 x0_78.length co94, .int .i64 a1, .int .i64 x20_2, .int .i64 (wrap64 ((IntKind.u64.wrap (wrap64 (a1 + a3))) / 2)), .func (.func 47) #[] #[]] ?_; (with_reducible refine (ih kj83 (by first | exact Nat.le_of_succ_le HJ59.out | exact Nat.le_of_succ_le HK2.out | exact Nat.le_of_succ_le HJ76.out | exact Nat.le_of_succ_le HJ78.out | exact Nat.le_of_succ_le HJ83.out | exact HJ59.out | exact HK2.out | exact HJ76.out | exact HJ78.out | exact HJ83.out | exact Nat.lt_succ_self _ | exact Nat.le_refl _ | (have := HJ59.out; have := HK2.out; have := HJ76.out; have := HJ78.out; have := HJ83.out; omega)) (fun k_ => some k_ = (.slice Ao94 x0_78.length co94 : Value).ownBlock) (.slice Ao94 x0_78.length co94) x0_78 a1 x20_2 (wrap64 ((IntKind.u64.wrap (wrap64 (a1 + a3))) / 2)) a4 t549 w0 _ ?side1 ?side2 A87.out).mono ?_); (case side1 => repeat (first | (with_reducible first | exact HB.out | apply below_alloc | apply pw_below_drewN | apply below_drew1) | exact HB.out)); (case side2 => exact Kd.R_tight rfl HO_0.out); rintro e w95 ⟨rfl, hy0, hb, hkp⟩; refine ⟨_, rfl, ?_⟩; replace HK := Aside0.mk (Kept.then_ (S := (fun k_ => P0_ k_)) (by repeat (first | (with_reducible first | exact HK.out | apply Kept.alloc | apply Kept.drewN | apply Kept.drew) | exact HK.out)) hkp (fun k_ hs_ => (fun e_ => (HO_0.out.1 k_ e_.symm)) hs_)); replace HO_0 := Aside0.mk (Kd.R_reok rfl hy0 (fun k_ e_ => HO_0.out.1 k_ e_)); replace HB := Aside0.mk (hb); (try clear hb); (try clear hkp); (try clear hy0)))
                 first | go_end0 | ((try simp only [Exit.inBlock, Exit.then]); refine bodyPost_ret (results_none rfl _ _ _) rfl ?_)
                 exact ⟨by first | rfl | (simp [errW_none, errW_some] <;> rfl) | (simp [*, errW_none, errW_some] <;> rfl), by (with_reducible repeat (first | apply Kd.R_alloc | apply Kd.R_drewN | apply Kd.R_drew)); exact HO_0.out, by repeat (first | (with_reducible first | exact HB.out | apply below_alloc | apply pw_below_drewN | apply below_drew1) | exact HB.out), by repeat (first | (with_reducible first | exact HK.out | apply Kept.alloc | apply Kept.drewN | apply Kept.drew) | exact HK.out)⟩
               ·rw [if_neg c88] at H
                have c88b0 : decide ((wrap64 ((IntKind.u64.wrap (wrap64 (a1 + a3))) / 2)) < (wrap64 ((wrap64 ((wrap64 ((IntKind.u64.wrap (wrap64 (a1 + a3))) / 2)) + a2)) - x20_2))) = false := decide_eq_false c88
                clear c88
                obtain rfl := Option.some.inj H
                obtain ⟨Ao96, co96, eo96⟩ := Kd.R_slice HO_0.out
                subst eo96
                go_wp2_with (first | ((with_reducible refine gate_callee (f := 78) rfl ?_); (try refine ug_ (by rfl) ?_); refine goesA_ (some 205) Try.func78 #[.slice Ao96 x0_78.length co96, .int .i64 a1, .int .i64 x20_2, .int .i64 (wrap64 ((IntKind.u64.wrap (wrap64 (a1 + a3))) / 2)), .func (.func 47) #[] #[]] ?_; (with_reducible refine (ih kj83 (by first | exact Nat.le_of_succ_le HJ59.out | exact Nat.le_of_succ_le HK2.out | exact Nat.le_of_succ_le HJ76.out | exact Nat.le_of_succ_le HJ78.out | exact Nat.le_of_succ_le HJ83.out | exact HJ59.out | exact HK2.out | exact HJ76.out | exact HJ78.out | exact HJ83.out | exact Nat.lt_succ_self _ | exact Nat.le_refl _ | (have := HJ59.out; have := HK2.out; have := HJ76.out; have := HJ78.out; have := HJ83.out; omega)) (fun k_ => some k_ = (.slice Ao96 x0_78.length co96 : Value).ownBlock) (.slice Ao96 x0_78.length co96) x0_78 a1 x20_2 (wrap64 ((IntKind.u64.wrap (wrap64 (a1 + a3))) / 2)) a4 t549 w0 _ ?side1 ?side2 A87.out).mono ?_); (case side1 => repeat (first | (with_reducible first | exact HB.out | apply below_alloc | apply pw_below_drewN | apply below_drew1) | exact HB.out)); (case side2 => exact Kd.R_tight rfl HO_0.out); rintro e w97 ⟨rfl, hy0, hb, hkp⟩; refine ⟨_, rfl, ?_⟩; replace HK := Aside0.mk (Kept.then_ (S := (fun k_ => P0_ k_)) (by repeat (first | (with_reducible first | exact HK.out | apply Kept.alloc | apply Kept.drewN | apply Kept.drew) | exact HK.out)) hkp (fun k_ hs_ => (fun e_ => (HO_0.out.1 k_ e_.symm)) hs_)); replace HO_0 := Aside0.mk (Kd.R_reok rfl hy0 (fun k_ e_ => HO_0.out.1 k_ e_)); replace HB := Aside0.mk (hb); (try clear hb); (try clear hkp); (try clear hy0)))
                first | go_end0 | ((try simp only [Exit.inBlock, Exit.then]); refine bodyPost_ret (results_none rfl _ _ _) rfl ?_)
                exact ⟨by first | rfl | (simp [errW_none, errW_some] <;> rfl) | (simp [*, errW_none, errW_some] <;> rfl), by (with_reducible repeat (first | apply Kd.R_alloc | apply Kd.R_drewN | apply Kd.R_drew)); exact HO_0.out, by repeat (first | (with_reducible first | exact HB.out | apply below_alloc | apply pw_below_drewN | apply below_drew1) | exact HB.out), by repeat (first | (with_reducible first | exact HK.out | apply Kept.alloc | apply Kept.drewN | apply Kept.drew) | exact HK.out)⟩
              ·replace c86 := Bool.eq_false_iff.mpr c86
               subst c86
               rw [if_neg (show ¬ (false = true) by decide)] at H
               try dsimp only at H
               by_cases c98 : (wrap64 ((IntKind.u64.wrap (wrap64 (a1 + a3))) / 2)) < (wrap64 ((wrap64 ((wrap64 ((IntKind.u64.wrap (wrap64 (a1 + a3))) / 2)) + a2)) - x20_2))
               ·rw [if_pos c98] at H
                have c98b0 : decide ((wrap64 ((IntKind.u64.wrap (wrap64 (a1 + a3))) / 2)) < (wrap64 ((wrap64 ((wrap64 ((IntKind.u64.wrap (wrap64 (a1 + a3))) / 2)) + a2)) - x20_2))) = true := decide_eq_true c98
                clear c98
                by_cases c99 : (wrap64 ((wrap64 ((wrap64 ((IntKind.u64.wrap (wrap64 (a1 + a3))) / 2)) + a2)) - x20_2)) < a3
                ·rw [if_pos c99] at H
                 have c99b0 : decide ((wrap64 ((wrap64 ((wrap64 ((IntKind.u64.wrap (wrap64 (a1 + a3))) / 2)) + a2)) - x20_2)) < a3) = true := decide_eq_true c99
                 clear c99
                 have H0_ := bo_ H; clear H; obtain ⟨t551, A100, H⟩ := H0_
                 replace H : (some t551) = some r := H
                 obtain rfl := Option.some.inj H
                 obtain ⟨Ao101, co101, eo101⟩ := Kd.R_slice HO_0.out
                 subst eo101
                 go_wp2_with (first | ((with_reducible refine gate_callee (f := 78) rfl ?_); (try refine ug_ (by rfl) ?_); refine goesA_ (some 219) Try.func78 #[.slice Ao101 x0_78.length co101, .int .i64 (wrap64 ((IntKind.u64.wrap (wrap64 (a1 + a3))) / 2)), .int .i64 (wrap64 ((wrap64 ((wrap64 ((IntKind.u64.wrap (wrap64 (a1 + a3))) / 2)) + a2)) - x20_2)), .int .i64 a3, .func (.func 47) #[] #[]] ?_; (with_reducible refine (ih kj83 (by first | exact Nat.le_of_succ_le HJ59.out | exact Nat.le_of_succ_le HK2.out | exact Nat.le_of_succ_le HJ76.out | exact Nat.le_of_succ_le HJ78.out | exact Nat.le_of_succ_le HJ83.out | exact HJ59.out | exact HK2.out | exact HJ76.out | exact HJ78.out | exact HJ83.out | exact Nat.lt_succ_self _ | exact Nat.le_refl _ | (have := HJ59.out; have := HK2.out; have := HJ76.out; have := HJ78.out; have := HJ83.out; omega)) (fun k_ => some k_ = (.slice Ao101 x0_78.length co101 : Value).ownBlock) (.slice Ao101 x0_78.length co101) x0_78 (wrap64 ((IntKind.u64.wrap (wrap64 (a1 + a3))) / 2)) (wrap64 ((wrap64 ((wrap64 ((IntKind.u64.wrap (wrap64 (a1 + a3))) / 2)) + a2)) - x20_2)) a3 a4 t551 w0 _ ?side1 ?side2 A100.out).mono ?_); (case side1 => repeat (first | (with_reducible first | exact HB.out | apply below_alloc | apply pw_below_drewN | apply below_drew1) | exact HB.out)); (case side2 => exact Kd.R_tight rfl HO_0.out); rintro e w102 ⟨rfl, hy0, hb, hkp⟩; refine ⟨_, rfl, ?_⟩; replace HK := Aside0.mk (Kept.then_ (S := (fun k_ => P0_ k_)) (by repeat (first | (with_reducible first | exact HK.out | apply Kept.alloc | apply Kept.drewN | apply Kept.drew) | exact HK.out)) hkp (fun k_ hs_ => (fun e_ => (HO_0.out.1 k_ e_.symm)) hs_)); replace HO_0 := Aside0.mk (Kd.R_reok rfl hy0 (fun k_ e_ => HO_0.out.1 k_ e_)); replace HB := Aside0.mk (hb); (try clear hb); (try clear hkp); (try clear hy0)))
                 first | go_end0 | ((try simp only [Exit.inBlock, Exit.then]); refine bodyPost_ret (results_none rfl _ _ _) rfl ?_)
                 exact ⟨by first | rfl | (simp [errW_none, errW_some] <;> rfl) | (simp [*, errW_none, errW_some] <;> rfl), by (with_reducible repeat (first | apply Kd.R_alloc | apply Kd.R_drewN | apply Kd.R_drew)); exact HO_0.out, by repeat (first | (with_reducible first | exact HB.out | apply below_alloc | apply pw_below_drewN | apply below_drew1) | exact HB.out), by repeat (first | (with_reducible first | exact HK.out | apply Kept.alloc | apply Kept.drewN | apply Kept.drew) | exact HK.out)⟩
                ·rw [if_neg c99] at H
                 have c99b0 : decide ((wrap64 ((wrap64 ((wrap64 ((IntKind.u64.wrap (wrap64 (a1 + a3))) / 2)) + a2)) - x20_2)) < a3) = false := decide_eq_false c99
                 clear c99
                 obtain rfl := Option.some.inj H
                 go_wp2
                 first | go_end0 | ((try simp only [Exit.inBlock, Exit.then]); refine bodyPost_ret (results_none rfl _ _ _) rfl ?_)
                 exact ⟨by first | rfl | (simp [errW_none, errW_some] <;> rfl) | (simp [*, errW_none, errW_some] <;> rfl), by (with_reducible repeat (first | apply Kd.R_alloc | apply Kd.R_drewN | apply Kd.R_drew)); exact HO_0.out, by repeat (first | (with_reducible first | exact HB.out | apply below_alloc | apply pw_below_drewN | apply below_drew1) | exact HB.out), by repeat (first | (with_reducible first | exact HK.out | apply Kept.alloc | apply Kept.drewN | apply Kept.drew) | exact HK.out)⟩
               ·rw [if_neg c98] at H
                have c98b0 : decide ((wrap64 ((IntKind.u64.wrap (wrap64 (a1 + a3))) / 2)) < (wrap64 ((wrap64 ((wrap64 ((IntKind.u64.wrap (wrap64 (a1 + a3))) / 2)) + a2)) - x20_2))) = false := decide_eq_false c98
                clear c98
                obtain rfl := Option.some.inj H
                go_wp2
                first | go_end0 | ((try simp only [Exit.inBlock, Exit.then]); refine bodyPost_ret (results_none rfl _ _ _) rfl ?_)
                exact ⟨by first | rfl | (simp [errW_none, errW_some] <;> rfl) | (simp [*, errW_none, errW_some] <;> rfl), by (with_reducible repeat (first | apply Kd.R_alloc | apply Kd.R_drewN | apply Kd.R_drew)); exact HO_0.out, by repeat (first | (with_reducible first | exact HB.out | apply below_alloc | apply pw_below_drewN | apply below_drew1) | exact HB.out), by repeat (first | (with_reducible first | exact HK.out | apply Kept.alloc | apply Kept.drewN | apply Kept.drew) | exact HK.out)⟩

end Go.Proofs.Ytimhghmfhfggoaa.X
