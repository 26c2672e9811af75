-- written by xprint.py, a program of this session over the kit's print
import Derived.Test.YtimhghmfhfggoaaX0
import Derived.Test.YtimhghmfhfggoaaX22
import Derived.Test.YtimhghmfhfggoaaX38
import Derived.Test.YtimhghmfhfggoaaX43
namespace Go.Proofs.Ytimhghmfhfggoaa.X
open Go.RowKit Go.Proofs.YtimhghmfhfggoaaW.PrintWords Go.Proofs.YtimhghmfhfggoaaW.PrintLast Go.Proofs.YtimhghmfhfggoaaW.PrintMore
attribute [local go_sem] max2_int min2_int max_two min_two max_three min_three max_four min_four   -- for this text's walks alone
set_option linter.unusedVariables false
set_option linter.unusedSimpArgs false

mutual
def spigotref40_Pass.j1 : Nat → List (S62) → List (S51) → Option ((List (S62)) × Int)
  | 0, _, _ => none
  | k + 1, x1, x7 => spigotref40_Pass.l1 k x1 x7 ([] : List (S62)) 0
def spigotref40_Pass.l1 : Nat → List (S62) → List (S51) → List (S62) → Int → Option ((List (S62)) × Int)
  | 0, _, _, _, _ => none
  | k + 1, x1, x7, x11, x12 => if x12 < (x1.length : Int) then (if 0 ≤ x12 then ((spigotref04_Take.f k x7 ((rd_T62 x1 x12).f0) ((rd_T62 x1 x12).f1)).bind fun bt498 => (if bt498.2.1 = true then (if x11.length < 8796093022208 then (spigotref40_Pass.l1 k x1 bt498.1 (x11 ++ [(⟨(rd_T62 x1 x12).f0, (rd_T62 x1 x12).f1⟩ : S62)]) (wrap64 (x12 + 1))) else (none)) else (spigotref40_Pass.l1 k x1 bt498.1 x11 (wrap64 (x12 + 1))))) else (none)) else (some (x11, 0))
def spigotref40_Pass.l0 : Nat → List (S49) → List (S62) → List (S51) → Int → Option ((List (S62)) × Int)
  | 0, _, _, _, _ => none
  | k + 1, x0, x1, x7, x8 => if x8 < (x0.length : Int) then (if (x1.length : Int) > 0 then (if 0 ≤ x8 then (if 0 < (x1.length : Int) then ((spigotref03_Full.f ((rd_T49 x0 x8).f0) ((rd_T49 x0 x8).f1) ((rd_T49 x0 x8).f2) ((rd_T62 x1 0).f0)).bind fun bt485 => (if x7.length < 2932031007402 then (spigotref40_Pass.l0 k x0 x1 (x7 ++ [(⟨(⟨bt485.1, bt485.2.1, bt485.2.2.1⟩ : S49), bt485.2.2.2.1, bt485.2.2.2.2.1, bt485.2.2.2.2.2.1⟩ : S51)]) (wrap64 (x8 + 1))) else (none))) else (none)) else (none)) else (spigotref40_Pass.j1 k x1 x7)) else (spigotref40_Pass.j1 k x1 x7)
end
def spigotref40_Pass.f (k : Nat) (l0 : List (S49)) (l1 : List (S62)) : Option ((List (S62)) × Int) := (spigotref40_both.f k l0 l1).bind fun t482 => (if t482 = 0 then (spigotref40_Pass.l0 k l0 l1 ([] : List (S51)) 0) else (some (([] : List (S62)), t482)))
def spigotref40_Pass.T8 : Bool × List (List Nat × List Nat) := (true, [([], []), ([], []), ([0, 1], [0, 1]), ([2], [2]), ([], []), ([4], [4]), ([5], [5]), ([6], [6]), ([3, 7], [3, 7]), ([8], [8]), ([9], [9]), ([9], [9]), ([], []), ([12, 10, 8, 0, 1, 2, 3, 4, 5, 6, 7, 8, 9, 10, 12], [10, 12]), ([11, 13, 0, 1, 2, 3, 4, 5, 6, 7, 8, 9, 10, 11, 12, 13], [11])])
def spigotref40_Pass.B8 : List Nat := [0, 0, 3, 7, 0, 16, 48, 112, 255, 511, 1023, 1023, 0, 6143, 16383]
theorem spigotref40_Pass.tab8 : rtab .any (opsOf Try.f24 8) = spigotref40_Pass.T8 := by kernel_rfl
theorem spigotref40_Pass.bits8 : waitsOk spigotref40_Pass.T8.2 spigotref40_Pass.B8 = true := by kernel_rfl
def spigotref40_Pass.T14 : Bool × List (List Nat × List Nat) := (true, [([], []), ([], []), ([], []), ([1, 2], [1, 2]), ([3], [3]), ([4], [4]), ([], []), ([], []), ([6, 7], [6, 7]), ([8], [8]), ([9], [9]), ([0, 5, 10], [0, 5, 10]), ([11], [11]), ([12], [12]), ([12], [12]), ([12], [12]), ([13, 11, 0, 1, 2, 3, 4, 5, 6, 7, 8, 9, 10, 11, 12, 13], [13]), ([14, 16, 0, 1, 2, 3, 4, 5, 6, 7, 8, 9, 10, 11, 12, 13, 14, 16], [14]), ([15, 17, 0, 1, 2, 3, 4, 5, 6, 7, 8, 9, 10, 11, 12, 13, 14, 15, 16, 17], [15])])
def spigotref40_Pass.B14 : List Nat := [0, 0, 0, 6, 14, 30, 0, 0, 192, 448, 960, 2047, 4095, 8191, 8191, 8191, 16383, 98303, 262143]
theorem spigotref40_Pass.tab14 : rtab .any (opsOf Try.f24 14) = spigotref40_Pass.T14 := by kernel_rfl
theorem spigotref40_Pass.bits14 : waitsOk spigotref40_Pass.T14.2 spigotref40_Pass.B14 = true := by kernel_rfl
set_option maxHeartbeats 8000000 in
set_option maxRecDepth 100000 in
theorem spigotref40_Pass.calls (k : Nat) (A0 : Option Addr) (c0 : Nat) (l0 : List (S49)) (A1 : Option Addr) (c1 : Nat) (l1 : List (S62)) (r1 : List (S62)) (r2 : Int) (w : World) (hr0 : Kd.C k49 w A0 l0.length l0) (hc0 : l0.length ≤ c0) (hr1 : Kd.C k62 w A1 l1.length l1) (hc1 : l1.length ≤ c1) (h : spigotref40_Pass.f k l0 l1 = some (r1, r2)) :
  Calls Try.prog 24 #[.slice A0 l0.length c0, .slice A1 l1.length c1] w fun e w' => ∃ v0_ : Value, e = .returned (.tuple #[v0_, .int .i64 r2]) ∧ Kd.R k62 62 w' w.heap.size (fun _ => True) v0_ r1 ∧ Below w.heap.size w w' := by
 have hu49 := Try.underlying49
 have hu51 := Try.underlying51
 have hu62 := Try.underlying62
 have HR0 := Aside0.mk hr0
 have HC0 := Aside0.mk hc0
 clear hr0 hc0
 have HR1 := Aside0.mk hr1
 have HC1 := Aside0.mk hc1
 clear hr1 hc1
 have HB := Aside0.mk (Below.refl w.heap.size w)
 have H : ((spigotref40_both.f k l0 l1).bind fun t482 => (if t482 = 0 then (spigotref40_Pass.l0 k l0 l1 ([] : List (S51)) 0) else (some (([] : List (S62)), t482)))) = some (r1, r2) := h
 clear h
 have H0_ := bo_ H; clear H; obtain ⟨t482, A3, H⟩ := H0_
 replace H : (if t482 = 0 then (spigotref40_Pass.l0 k l0 l1 ([] : List (S51)) 0) else (some (([] : List (S62)), t482))) = some (r1, r2) := H
 by_cases c4 : t482 = 0
 ·rw [if_pos c4] at H
  have c4b0 : (t482 == 0) = true := beq_iff_eq.mpr c4
  have c4b1 : (t482 != 0) = false := bne_eq_false_iff_eq.mpr c4
  clear c4
  have HC5 := Aside0.mk H
  clear H
  go_enter Try.func24, Try.ntmps24
  go_upto_block 0 with (first | ((with_reducible refine gate_callee (f := 30) rfl ?_); (try refine ug_ (by rfl) ?_); refine goesA_ (some 18) Try.func30 #[.slice A0 l0.length c0, .slice A1 l1.length c1] ?_; (with_reducible refine (spigotref40_both.calls k _ _ l0 _ _ l1 t482 _ ?side1 ?side2 ?side3 ?side4 A3.out).mono ?_); (case side1 => exact ch_ HR0); (case side2 => exact HC0.out); (case side3 => exact ch_ HR1); (case side4 => exact HC1.out); rintro e w6 ⟨rfl, hb⟩; refine ⟨_, rfl, ?_⟩; replace HB := bs_ w hb; clear hb))
  (try simp only [Act.put, List.setIfInBounds_toArray, List.set_cons_zero, List.set_cons_succ])
  go_cut [7] (fun v7 wc => ∃ (kq : Nat) (x7_4 : List (S51)), Aside0 (spigotref40_Pass.j1 kq l1 x7_4 = some (r1, r2)) ∧ Aside0 (kq ≤ k) ∧ Aside0 (Kd.R k51 51 wc w.heap.size (fun _ => True) v7 x7_4) ∧ Aside0 (Below w.heap.size w wc))
  case first =>
   have H := HC5.out
   clear HC5
   have H' := Aside0.mk H
   clear H
   go_wp2
   go_loopg [7, 8] k (fun kq v7 v8 w' => ∃ (x7_1 : List (S51)) (x8_1 : Int), v8 = .int .i64 x8_1 ∧ Aside0 (spigotref40_Pass.l0 kq l0 l1 x7_1 x8_1 = some (r1, r2)) ∧ Aside0 (kq ≤ k) ∧ Aside0 (Kd.R k51 51 w' w.heap.size (fun _ => True) v7 x7_1) ∧ Aside0 (Below w.heap.size w w'))
   case atStart => exact ⟨(([] : List (S51))), (0), rf_, H', ⟨Nat.le_refl _⟩, ⟨by first | exact Kd.R_nil _ _ _ _ _ | exact Kd.N_nil _ _ _ _ _ | exact Kd.V_nil _ _ _ _ _ | exact Kd.Q_nil _ _ _ _ _ | exact Kd.S_nil _ _ _ _ _⟩, bw_⟩
   case round =>
    clear H'
    try clear c1
    try clear c4
    try clear c4b0
    try clear c4b1
    obtain ⟨x7_1, x8_1, rfl, HA, HK1, HO_7, HB⟩ := hrel
    cases gk with
    | zero => exact absurd HA.out (by simp [spigotref40_Pass.l0])
    | succ k1 =>
     have H := HA.out
     clear HA
     simp only [spigotref40_Pass.l0] at H
     by_cases c7 : x8_1 < (l0.length : Int)
     ·rw [if_pos c7] at H
      have c7b0 : decide (x8_1 < (l0.length : Int)) = true := decide_eq_true c7
      clear c7
      (first | rw [c7b0] | (simp only [i64_w, i32_w]; rw [c7b0]) | skip)
      by_cases c8 : (l1.length : Int) > 0
      ·rw [if_pos c8] at H
       have c8b0 : decide (0 < (l1.length : Int)) = true := decide_eq_true c8
       have c8b1 : decide (0 < l1.length) = true := decide_eq_true (by omega)
       clear c8
       by_cases c9 : 0 ≤ x8_1
       rotate_left
       ·rw [if_neg c9] at H; exact absurd H (by simp)
       rw [if_pos c9] at H
       have c9b0 : decide (0 ≤ x8_1) = true := decide_eq_true c9
       clear c9
       by_cases c10 : 0 < (l1.length : Int)
       rotate_left
       ·rw [if_neg c10] at H; exact absurd H (by simp)
       rw [if_pos c10] at H
       have c10b0 : decide (0 < (l1.length : Int)) = true := decide_eq_true c10
       have c10b1 : decide (0 < l1.length) = true := decide_eq_true (by omega)
       clear c10
       have H0_ := bo_ H; clear H; obtain ⟨⟨t485, t486, t487, t488, t489, t490, t491⟩, A11, H⟩ := H0_
       try dsimp only at H
       by_cases c12 : x7_1.length < 2932031007402
       rotate_left
       ·rw [if_neg c12] at H; exact absurd H (by simp)
       rw [if_pos c12] at H
       have LMc12 := Aside0.mk c12
       clear c12
       obtain ⟨y493, hy493⟩ : ∃ y_ : List (S51), y_ = (x7_1 ++ [(⟨(⟨t485, t486, t487⟩ : S49), t488, t489, t490⟩ : S51)]) := ⟨_, rfl⟩
       replace H : (spigotref40_Pass.l0 k1 l0 l1 y493 (wrap64 (x8_1 + 1))) = some (r1, r2) := by first | (rw [hy493]; with_reducible exact H) | (have H2_ := (Option.bind_some _ _).symm.trans H; rw [hy493]; with_reducible exact H2_) | (have H2_ := (Option.bind_some _ _).symm.trans H; with_reducible exact H2_) | with_reducible exact H | (rw [hy493]; exact H) | exact H
       have Ny493 := Aside0.mk hy493
       clear hy493
       have H' := Aside0.mk H
       clear H
       try go_wp2
       replace HO_7 := Aside0.mk (Kd.R_drew HO_7.out)
       replace HB := Aside0.mk (below_drew1 HB.out)
       have p483 : 0 ≤ (x8_1 : Int) := of_decide_eq_true (by first | (with_reducible assumption) | assumption)
       have q483 : x8_1 < (l0.length : Int) := of_decide_eq_true (by first | (with_reducible assumption) | assumption)
       obtain ⟨ad483, e483, hx483_0, hx483_1, hx483_2⟩ := at_T49 HR0.out x8_1 p483 q483
       have hw483_2 := hx483_2
       have hw483_1 := hx483_1
       have hw483_0 := hx483_0
       cases e483
       replace hx483_0 := (HB.out.cell (World.block_lt_of_cell? w _ hx483_0)).trans hx483_0
       replace hx483_1 := (HB.out.cell (World.block_lt_of_cell? w _ hx483_1)).trans hx483_1
       replace hx483_2 := (HB.out.cell (World.block_lt_of_cell? w _ hx483_2)).trans hx483_2
       replace p483 := eq_true p483
       replace q483 := eq_true q483
       have p484 : 0 ≤ (0 : Int) := (by omega)
       have q484 : 0 < (l1.length : Int) := of_decide_eq_true (by first | (with_reducible assumption) | assumption)
       obtain ⟨ad484, e484, hx484_0, hx484_1⟩ := at_T62 HR1.out 0 p484 q484
       have hw484_1 := hx484_1
       (try rw [show ((0 : Int)).toNat = 0 from rfl] at hw484_1)
       (try rw [show 0 * 2 = 0 from rfl] at hw484_1)
       (try rw [Addr.add_zero'] at hw484_1)
       have hw484_0 := hx484_0
       (try rw [show ((0 : Int)).toNat = 0 from rfl] at hw484_0)
       (try rw [show 0 * 2 = 0 from rfl] at hw484_0)
       (try rw [Addr.add_zero'] at hw484_0)
       cases e484
       have qi484 : (0 < l1.length) = True := eq_true (by omega)
       (try rw [show ((0 : Int)).toNat = 0 from rfl] at hx484_0)
       (try rw [show 0 * 2 = 0 from rfl] at hx484_0)
       (try rw [Addr.add_zero'] at hx484_0)
       (try rw [show ((0 : Int)).toNat = 0 from rfl] at hx484_1)
       (try rw [show 0 * 2 = 0 from rfl] at hx484_1)
       (try rw [Addr.add_zero'] at hx484_1)
       replace hx484_0 := (HB.out.cell (World.block_lt_of_cell? w _ hx484_0)).trans hx484_0
       replace hx484_1 := (HB.out.cell (World.block_lt_of_cell? w _ hx484_1)).trans hx484_1
       replace p484 := eq_true p484
       replace q484 := eq_true q484
       refine start_ (n := 15) (S := fun w' => w'.cell? (ad483.add ((x8_1).toNat * 3)) = some (.int .i64 ((rd_T49 l0 x8_1).f0)) ∧ w'.cell? ⟨(ad483.add ((x8_1).toNat * 3)).block, (ad483.add ((x8_1).toNat * 3)).off + 1, none⟩ = some (.int .i64 ((rd_T49 l0 x8_1).f1)) ∧ w'.cell? ⟨(ad483.add ((x8_1).toNat * 3)).block, (ad483.add ((x8_1).toNat * 3)).off + 2, none⟩ = some (.int .i64 ((rd_T49 l0 x8_1).f2)) ∧ w'.cell? ad484 = some (.int .u64 ((rd_T62 l1 0).f0)) ∧ w'.cell? ⟨ad484.block, ad484.off + 1, none⟩ = some (.int .i64 ((rd_T62 l1 0).f1))) (ds := []) (bl_ 15 0) (by kernel_rfl) rfl (by kernel_rfl) ⟨((HB.out.cell (World.block_lt_of_cell? w _ hw483_0)).trans hw483_0), ((HB.out.cell (World.block_lt_of_cell? w _ hw483_1)).trans hw483_1), ((HB.out.cell (World.block_lt_of_cell? w _ hw483_2)).trans hw483_2), ((HB.out.cell (World.block_lt_of_cell? w _ hw484_0)).trans hw484_0), ((HB.out.cell (World.block_lt_of_cell? w _ hw484_1)).trans hw484_1)⟩ (fun hHeld => ?_); refine with_tabW spigotref40_Pass.tab8 spigotref40_Pass.bits8 (fun HT_ HW_ => ?_)
       generalize wr.drew = w13 at HO_7 HB hx483_0 hx483_1 hx483_2 hx484_0 hx484_1 hHeld ⊢
       refine pa_ 0 (some 34) (bl_ 15 1) HT_ ?_
       refine pa_ 1 (some 35) (bl_ 15 3) HT_ ?_
       refine pa_ 2 (some 36) (bl_ 15 7) HT_ ?_
       refine pa_ 4 (some 38) (bl_ 15 23) HT_ ?_
       refine pa_ 5 (some 39) (bl_ 15 55) HT_ ?_
       refine pa_ 6 (some 40) (bl_ 15 119) HT_ ?_
       refine ta_ 3 (some 37) (bl_ 15 127) HT_ HW_ hHeld ?_
       refine ta_ 7 (some 41) (bl_ 15 255) HT_ HW_ hHeld ?_
       refine join_ (σ := Nat) 2 (bl_ 15 8191) (fun s_ => [(42, .tuple #[.agg #[.int .i64 t485, .int .i64 t486, .int .i64 t487, .int .i64 t488, .int .i64 t489, .int .u64 t490], .int .i64 t491]), (9, .pointer (some ⟨s_, 0, none⟩)), (33, .tuple #[.agg #[.int .i64 t485, .int .i64 t486, .int .i64 t487, .int .i64 t488, .int .i64 t489, .int .u64 t490], .int .i64 t491]), (43, .agg #[.int .i64 t485, .int .i64 t486, .int .i64 t487, .int .i64 t488, .int .i64 t489, .int .u64 t490]), (44, .int .i64 t491)]) (fun s_ w' => (w'.cell? (ad483.add ((x8_1).toNat * 3)) = some (.int .i64 ((rd_T49 l0 x8_1).f0)) ∧ w'.cell? ⟨(ad483.add ((x8_1).toNat * 3)).block, (ad483.add ((x8_1).toNat * 3)).off + 1, none⟩ = some (.int .i64 ((rd_T49 l0 x8_1).f1)) ∧ w'.cell? ⟨(ad483.add ((x8_1).toNat * 3)).block, (ad483.add ((x8_1).toNat * 3)).off + 2, none⟩ = some (.int .i64 ((rd_T49 l0 x8_1).f2)) ∧ w'.cell? ad484 = some (.int .u64 ((rd_T62 l1 0).f0)) ∧ w'.cell? ⟨ad484.block, ad484.off + 1, none⟩ = some (.int .i64 ((rd_T62 l1 0).f1))) ∧ (Kd.R k51 51 w' w.heap.size (fun k_ => k_ ≠ s_) u7 x7_1) ∧ (w'.heap[s_]? = some (.cells #[.int .i64 0, .int .i64 0, .int .i64 0, .int .i64 0, .int .i64 0, .int .u64 0] 51 (0, 0))) ∧ (w.heap.size ≤ s_) ∧ (w.heap.size ≤ s_) ∧ (Below w.heap.size w w')) ?_ ?_
       rotate_left
       ·intro hCont
        refine tw_ 8 12 (some 42) (some 9) (bl_ 15 511) (bl_ 15 4351) HT_ (fun K hK => ?_) fun K hK => ?_
        ·refine goesB_ Try.func43 #[.agg #[.int .i64 ((rd_T49 l0 x8_1).f0), .int .i64 ((rd_T49 l0 x8_1).f1), .int .i64 ((rd_T49 l0 x8_1).f2)], .int .u64 ((rd_T62 l1 0).f0)] ?_
         with_reducible refine (spigotref03_Full.calls ((rd_T49 l0 x8_1).f0) ((rd_T49 l0 x8_1).f1) ((rd_T49 l0 x8_1).f2) ((rd_T62 l1 0).f0) t485 t486 t487 t488 t489 t490 t491 _ A11.out).mono ?_
         rintro e w14 ⟨rfl, hb⟩
         refine ⟨_, rfl, ?_⟩
         replace HO_7 := rb_ HO_7 hb
         replace HB := bs_ w hb
         clear hb
         refine hK.out _ _ ⟨((HB.out.cell (World.block_lt_of_cell? w _ hw483_0)).trans hw483_0), ((HB.out.cell (World.block_lt_of_cell? w _ hw483_1)).trans hw483_1), ((HB.out.cell (World.block_lt_of_cell? w _ hw483_2)).trans hw483_2), ((HB.out.cell (World.block_lt_of_cell? w _ hw484_0)).trans hw484_0), ((HB.out.cell (World.block_lt_of_cell? w _ hw484_1)).trans hw484_1)⟩ (fun hHeld => ?_)
         clear hK K
         refine nm_ (some 42) ?_
         refine pa_ 9 (some 33) (bl_ 15 1023) HT_ ?_
         refine pa_ 10 (some 43) (bl_ 15 2047) HT_ ?_
         refine pa_ 11 (some 44) (bl_ 15 4095) HT_ ?_
         refine oa_ 12 (some 9) (bl_ 15 8191) HT_ fun K hK => ?_
         refine bs2_ #[.int .i64 0, .int .i64 0, .int .i64 0, .int .i64 0, .int .i64 0, .int .u64 0] 51 ?_
         intro gb492 hg w15 BK492 hb
         have GW492 := bz_ w hg
         have GE492 := GW492
         replace HO_7 := Aside0.mk (Kd.R_below (Kd.R_elderB (rs_ HO_7) gb492 (Nat.le_of_eq hg.symm)) hb)
         replace HB := bs_ w hb
         clear hb hg
         refine hK.out _ _ ⟨((HB.out.cell (World.block_lt_of_cell? w _ hw483_0)).trans hw483_0), ((HB.out.cell (World.block_lt_of_cell? w _ hw483_1)).trans hw483_1), ((HB.out.cell (World.block_lt_of_cell? w _ hw483_2)).trans hw483_2), ((HB.out.cell (World.block_lt_of_cell? w _ hw484_0)).trans hw484_0), ((HB.out.cell (World.block_lt_of_cell? w _ hw484_1)).trans hw484_1)⟩ (fun hHeld => ?_)
         clear hK K
         refine nm_ (some 9) ?_
         exact no_ (hCont (gb492) _ ⟨hHeld, (by (with_reducible repeat (first | apply Kd.R_alloc | apply Kd.R_drewN | apply Kd.R_drew)); exact Kd.R_mono HO_7.out (fun _ hk => hk.2)), (bq_ BK492), GW492.out, GE492.out, bh_⟩)
        ·refine bs2_ #[.int .i64 0, .int .i64 0, .int .i64 0, .int .i64 0, .int .i64 0, .int .u64 0] 51 ?_
         intro gb492 hg w14 BK492 hb
         have GW492 := bz_ w hg
         have GE492 := GW492
         replace HO_7 := Aside0.mk (Kd.R_below (Kd.R_elderB (rs_ HO_7) gb492 (Nat.le_of_eq hg.symm)) hb)
         replace HB := bs_ w hb
         clear hb hg
         refine hK.out _ _ ⟨((HB.out.cell (World.block_lt_of_cell? w _ hw483_0)).trans hw483_0), ((HB.out.cell (World.block_lt_of_cell? w _ hw483_1)).trans hw483_1), ((HB.out.cell (World.block_lt_of_cell? w _ hw483_2)).trans hw483_2), ((HB.out.cell (World.block_lt_of_cell? w _ hw484_0)).trans hw484_0), ((HB.out.cell (World.block_lt_of_cell? w _ hw484_1)).trans hw484_1)⟩ (fun hHeld => ?_)
         clear hK K
         refine nm_ (some 9) ?_
         refine oa_ 8 (some 42) (bl_ 15 4607) HT_ fun K hK => ?_
         refine goesB_ Try.func43 #[.agg #[.int .i64 ((rd_T49 l0 x8_1).f0), .int .i64 ((rd_T49 l0 x8_1).f1), .int .i64 ((rd_T49 l0 x8_1).f2)], .int .u64 ((rd_T62 l1 0).f0)] ?_
         with_reducible refine (spigotref03_Full.calls ((rd_T49 l0 x8_1).f0) ((rd_T49 l0 x8_1).f1) ((rd_T49 l0 x8_1).f2) ((rd_T62 l1 0).f0) t485 t486 t487 t488 t489 t490 t491 _ A11.out).mono ?_
         rintro e w15 ⟨rfl, hb⟩
         refine ⟨_, rfl, ?_⟩
         replace HO_7 := rb_ HO_7 hb
         replace BK492 := bb_ BK492 hb
         replace HB := bs_ w hb
         clear hb
         refine hK.out _ _ ⟨((HB.out.cell (World.block_lt_of_cell? w _ hw483_0)).trans hw483_0), ((HB.out.cell (World.block_lt_of_cell? w _ hw483_1)).trans hw483_1), ((HB.out.cell (World.block_lt_of_cell? w _ hw483_2)).trans hw483_2), ((HB.out.cell (World.block_lt_of_cell? w _ hw484_0)).trans hw484_0), ((HB.out.cell (World.block_lt_of_cell? w _ hw484_1)).trans hw484_1)⟩ (fun hHeld => ?_)
         clear hK K
         refine nm_ (some 42) ?_
         refine pa_ 9 (some 33) (bl_ 15 5119) HT_ ?_
         refine pa_ 10 (some 43) (bl_ 15 6143) HT_ ?_
         refine pa_ 11 (some 44) (bl_ 15 8191) HT_ ?_
         exact no_ (hCont (gb492) _ ⟨hHeld, (by (with_reducible repeat (first | apply Kd.R_alloc | apply Kd.R_drewN | apply Kd.R_drew)); exact Kd.R_mono HO_7.out (fun _ hk => hk.2)), (bq_ BK492), GW492.out, GE492.out, bh_⟩)
       rintro gb492 w16 ⟨hS_, h0_, h1_, h2_, h3_, h4_⟩
       have BK492 := Aside0.mk h1_
       have GW492 := Aside0.mk h2_
       have GE492 := Aside0.mk h3_
       replace HO_7 : Aside0 (Kd.R k51 51 w16 w.heap.size (fun k_ => k_ ≠ gb492) u7 x7_1) := ⟨h0_⟩
       replace HB := Aside0.mk h4_
       clear h0_ h1_ h2_ h3_ h4_
       have hHeld := hS_
       refine nq_ ?_
       refine oa_ 13 none (bl_ 15 16383) HT_ fun K hK => ?_
       have hs17 : w16.cell? ⟨gb492, 0, none⟩ = some (.int .i64 0) := (blk_cell BK492.out 0).trans rfl
       have hfs17 := blk_frozen BK492.out 0
       have hs18 : w16.cell? ⟨gb492, 1, none⟩ = some (.int .i64 0) := (blk_cell BK492.out 1).trans rfl
       have hfs18 := blk_frozen BK492.out 1
       have hs19 : w16.cell? ⟨gb492, 2, none⟩ = some (.int .i64 0) := (blk_cell BK492.out 2).trans rfl
       have hfs19 := blk_frozen BK492.out 2
       have hs20 : w16.cell? ⟨gb492, 3, none⟩ = some (.int .i64 0) := (blk_cell BK492.out 3).trans rfl
       have hfs20 := blk_frozen BK492.out 3
       have hs21 : w16.cell? ⟨gb492, 4, none⟩ = some (.int .i64 0) := (blk_cell BK492.out 4).trans rfl
       have hfs21 := blk_frozen BK492.out 4
       have hs22 : w16.cell? ⟨gb492, 5, none⟩ = some (.int .u64 0) := (blk_cell BK492.out 5).trans rfl
       have hfs22 := blk_frozen BK492.out 5
       refine sk_ ?_
       refine hK.out _ _ ⟨(fcr6_ (by first | exact Nat.ne_of_lt (Nat.lt_of_lt_of_le (by have := World.block_lt_of_cell? _ _ hw483_0; first | rwa [add_block] at this | exact this) GW492.out) | (rw [add_block]; exact Nat.ne_of_lt (Nat.lt_of_lt_of_le (by have := World.block_lt_of_cell? _ _ hw483_0; first | rwa [add_block] at this | exact this) GW492.out)) | (show (Addr.add _ _).block ≠ _; rw [add_block]; exact Nat.ne_of_lt (Nat.lt_of_lt_of_le (by have := World.block_lt_of_cell? _ _ hw483_0; first | rwa [add_block] at this | exact this) GW492.out)) | (dsimp only; exact Nat.ne_of_lt (Nat.lt_of_lt_of_le (by have := World.block_lt_of_cell? _ _ hw483_0; first | rwa [add_block] at this | exact this) GW492.out))) hHeld.1), (fcr6_ (by first | exact Nat.ne_of_lt (Nat.lt_of_lt_of_le (by have := World.block_lt_of_cell? _ _ hw483_1; first | rwa [add_block] at this | exact this) GW492.out) | (rw [add_block]; exact Nat.ne_of_lt (Nat.lt_of_lt_of_le (by have := World.block_lt_of_cell? _ _ hw483_1; first | rwa [add_block] at this | exact this) GW492.out)) | (show (Addr.add _ _).block ≠ _; rw [add_block]; exact Nat.ne_of_lt (Nat.lt_of_lt_of_le (by have := World.block_lt_of_cell? _ _ hw483_1; first | rwa [add_block] at this | exact this) GW492.out)) | (dsimp only; exact Nat.ne_of_lt (Nat.lt_of_lt_of_le (by have := World.block_lt_of_cell? _ _ hw483_1; first | rwa [add_block] at this | exact this) GW492.out))) hHeld.2.1), (fcr6_ (by first | exact Nat.ne_of_lt (Nat.lt_of_lt_of_le (by have := World.block_lt_of_cell? _ _ hw483_2; first | rwa [add_block] at this | exact this) GW492.out) | (rw [add_block]; exact Nat.ne_of_lt (Nat.lt_of_lt_of_le (by have := World.block_lt_of_cell? _ _ hw483_2; first | rwa [add_block] at this | exact this) GW492.out)) | (show (Addr.add _ _).block ≠ _; rw [add_block]; exact Nat.ne_of_lt (Nat.lt_of_lt_of_le (by have := World.block_lt_of_cell? _ _ hw483_2; first | rwa [add_block] at this | exact this) GW492.out)) | (dsimp only; exact Nat.ne_of_lt (Nat.lt_of_lt_of_le (by have := World.block_lt_of_cell? _ _ hw483_2; first | rwa [add_block] at this | exact this) GW492.out))) hHeld.2.2.1), (fcr6_ (by first | exact Nat.ne_of_lt (Nat.lt_of_lt_of_le (by have := World.block_lt_of_cell? _ _ hw484_0; first | rwa [add_block] at this | exact this) GW492.out) | (rw [add_block]; exact Nat.ne_of_lt (Nat.lt_of_lt_of_le (by have := World.block_lt_of_cell? _ _ hw484_0; first | rwa [add_block] at this | exact this) GW492.out)) | (show (Addr.add _ _).block ≠ _; rw [add_block]; exact Nat.ne_of_lt (Nat.lt_of_lt_of_le (by have := World.block_lt_of_cell? _ _ hw484_0; first | rwa [add_block] at this | exact this) GW492.out)) | (dsimp only; exact Nat.ne_of_lt (Nat.lt_of_lt_of_le (by have := World.block_lt_of_cell? _ _ hw484_0; first | rwa [add_block] at this | exact this) GW492.out))) hHeld.2.2.2.1), (fcr6_ (by first | exact Nat.ne_of_lt (Nat.lt_of_lt_of_le (by have := World.block_lt_of_cell? _ _ hw484_1; first | rwa [add_block] at this | exact this) GW492.out) | (rw [add_block]; exact Nat.ne_of_lt (Nat.lt_of_lt_of_le (by have := World.block_lt_of_cell? _ _ hw484_1; first | rwa [add_block] at this | exact this) GW492.out)) | (show (Addr.add _ _).block ≠ _; rw [add_block]; exact Nat.ne_of_lt (Nat.lt_of_lt_of_le (by have := World.block_lt_of_cell? _ _ hw484_1; first | rwa [add_block] at this | exact this) GW492.out)) | (dsimp only; exact Nat.ne_of_lt (Nat.lt_of_lt_of_le (by have := World.block_lt_of_cell? _ _ hw484_1; first | rwa [add_block] at this | exact this) GW492.out))) hHeld.2.2.2.2)⟩ (fun hHeld => ?_)
       clear hK K
       refine pa_ 14 (some 10) (bl_ 15 32767) HT_ ?_
       refine done_ (done_of HT_.out (by kernel_rfl)) ?_
       replace hc492 := ce6_ BK492
       try go_wp2_with (first | ((with_reducible refine gate_builtin (b := .append) (xs := #[.tmp 45, .tmp 47]) rfl ?_); (try refine ug_ (by rfl) ?_); at_builtin; refine Kd.R_append k51 (w0 := w) w.heap.size rfl (.tmp 45) (.tmp 47) 77 51 (.agg #[(.int .i64 0), (.int .i64 0), (.int .i64 0), (.int .i64 0), (.int .i64 0), (.int .u64 0)]) 48 rfl Try.underlying77 info51 rfl (by decide) (by omega) u7 x7_1 (⟨(⟨t485, t486, t487⟩ : S49), t488, t489, t490⟩ : S51) [.int .i64 t485, .int .i64 t486, .int .i64 t487, .int .i64 t488, .int .i64 t489, .int .u64 t490] (fun k_ => k_ ≠ gb492) (fun _ => False) rfl (by first | (go_simp; done) | (go_simp; rfl)) ?aP (fun _ hk => hk.elim) ?aF ?aO ?aB ?aS ?aL ?_; (case aP => exact k51_mkM _ _ _ (⟨(⟨t485, t486, t487⟩ : S49), t488, t489, t490⟩ : S51)); (case aB => exact bh_); (case aF => exact (fun k_ hk => Kd.freshB (g := gb492) (o := .cells #[.int .i64 t485, .int .i64 t486, .int .i64 t487, .int .i64 t488, .int .i64 t489, .int .u64 t490] 51 (0, 0)) (bp6_ (bq_ BK492)) k_ hk)); (case aO => exact (by (with_reducible repeat (first | apply Kd.R_alloc | apply Kd.R_drewN | apply Kd.R_drew)); exact Kd.R_mono (rf6_ (g := gb492) (Kd.R_mono HO_7.out (fun k_ hk => (⟨hk, hk⟩ : _ ∧ k_ ≠ gb492))) (fun _ hk => hk.2)) (fun _ hk => hk.1))); (case aS => exact (below_size bh_)); (case aL => have := LMc12.out; omega); intro v494 w24 ho hb hg hat; rw [← Ny493.out] at ho; have HO495 := Aside0.mk (ho); replace BK492 := Aside0.mk (blk_grown (g := gb492) (o := .cells #[.int .i64 t485, .int .i64 t486, .int .i64 t487, .int .i64 t488, .int .i64 t489, .int .u64 t490] 51 (0, 0)) (bp6_ (bq_ BK492)) hg (Kd.R_away HO_7.out (fun _ hk => hk))); replace HB := Aside0.mk (hb); clear HO_7; clear ho hb hg hat))
       go_roundg k1
       case measure => have := HK1.out; omega
       case rel => exact ⟨(y493), (wrap64 (x8_1 + 1)), rf_, H', ⟨by have := HK1.out; omega⟩, ⟨by (with_reducible repeat (first | apply Kd.R_alloc | apply Kd.R_drewN | apply Kd.R_drew)); exact Kd.R_mono HO495.out (fun _ hk => trivial)⟩, bw_⟩
      ·rw [if_neg c8] at H
       have c8b0 : decide (0 < (l1.length : Int)) = false := decide_eq_false c8
       have c8b1 : decide (0 < l1.length) = false := decide_eq_false (by omega)
       clear c8
       have H' := Aside0.mk H
       clear H
       go_wp2
       go_meet
       case rel => exact ⟨_, (x7_1), H', ⟨by have := HK1.out; first | omega | exact Nat.le_refl _⟩, ⟨rs_ HO_7⟩, bw_⟩
     ·rw [if_neg c7] at H
      have c7b0 : decide (x8_1 < (l0.length : Int)) = false := decide_eq_false c7
      clear c7
      (first | rw [c7b0] | (simp only [i64_w, i32_w]; rw [c7b0]) | skip)
      have H' := Aside0.mk H
      clear H
      go_wp2
      go_meet
      case rel => exact ⟨_, (x7_1), H', ⟨by have := HK1.out; first | omega | exact Nat.le_refl _⟩, ⟨rs_ HO_7⟩, bw_⟩
  case rest =>
   clear HC5
   try clear c1
   try clear c4
   try clear c4b0
   try clear c4b1
   obtain ⟨kq, x7_4, HA, HJ4, HO_7, HB⟩ := hcut
   cases kq with
   | zero => exact absurd HA.out (by simp [spigotref40_Pass.j1])
   | succ kj4 =>
    have H := HA.out
    clear HA
    simp only [spigotref40_Pass.j1] at H
    have H' := Aside0.mk H
    clear H
    go_wp2
    go_loopg [7, 11, 12] kj4 (fun kq v7 v11 v12 w' => ∃ (x7_2 : List (S51)) (x11_2 : List (S62)) (x12_2 : Int), v12 = .int .i64 x12_2 ∧ Aside0 (spigotref40_Pass.l1 kq l1 x7_2 x11_2 x12_2 = some (r1, r2)) ∧ Aside0 (kq ≤ kj4) ∧ Aside0 (Kd.R k51 51 w' w.heap.size (fun _ => True) v7 x7_2) ∧ Aside0 (Kd.R k62 62 w' w.heap.size (fun _ => True) v11 x11_2) ∧ Aside0 (Below w.heap.size w w'))
    case atStart => exact ⟨(x7_4), (([] : List (S62))), (0), rf_, H', ⟨Nat.le_refl _⟩, ⟨rs_ HO_7⟩, ⟨by first | exact Kd.R_nil _ _ _ _ _ | exact Kd.N_nil _ _ _ _ _ | exact Kd.V_nil _ _ _ _ _ | exact Kd.Q_nil _ _ _ _ _ | exact Kd.S_nil _ _ _ _ _⟩, bw_⟩
    case round =>
     clear H'
     try clear c1
     try clear c4
     try clear c4b0
     try clear c4b1
     obtain ⟨x7_2, x11_2, x12_2, rfl, HA, HK2, HO_7, HO_11, HB⟩ := hrel
     cases gk with
     | zero => exact absurd HA.out (by simp [spigotref40_Pass.l1])
     | succ k2 =>
      have H := HA.out
      clear HA
      simp only [spigotref40_Pass.l1] at H
      by_cases c25 : x12_2 < (l1.length : Int)
      ·rw [if_pos c25] at H
       have c25b0 : decide (x12_2 < (l1.length : Int)) = true := decide_eq_true c25
       clear c25
       by_cases c26 : 0 ≤ x12_2
       rotate_left
       ·rw [if_neg c26] at H; exact absurd H (by simp)
       rw [if_pos c26] at H
       have c26b0 : decide (0 ≤ x12_2) = true := decide_eq_true c26
       clear c26
       have H0_ := bo_ H; clear H; obtain ⟨⟨t498, t499, t500⟩, A27, H⟩ := H0_
       try dsimp only at H
       by_cases c28 : t499 = true
       ·subst c28
        rw [if_pos rfl] at H
        try dsimp only at H
        by_cases c29 : x11_2.length < 8796093022208
        rotate_left
        ·rw [if_neg c29] at H; exact absurd H (by simp)
        rw [if_pos c29] at H
        have LMc29 := Aside0.mk c29
        clear c29
        obtain ⟨y504, hy504⟩ : ∃ y_ : List (S62), y_ = (x11_2 ++ [(⟨(rd_T62 l1 x12_2).f0, (rd_T62 l1 x12_2).f1⟩ : S62)]) := ⟨_, rfl⟩
        replace H : (spigotref40_Pass.l1 k2 l1 t498 y504 (wrap64 (x12_2 + 1))) = some (r1, r2) := by first | (rw [hy504]; with_reducible exact H) | (have H2_ := (Option.bind_some _ _).symm.trans H; rw [hy504]; with_reducible exact H2_) | (have H2_ := (Option.bind_some _ _).symm.trans H; with_reducible exact H2_) | with_reducible exact H | (rw [hy504]; exact H) | exact H
        have Ny504 := Aside0.mk hy504
        clear hy504
        have H' := Aside0.mk H
        clear H
        try go_wp2
        replace HO_7 := Aside0.mk (Kd.R_drew HO_7.out)
        replace HO_11 := Aside0.mk (Kd.R_drew HO_11.out)
        replace HB := Aside0.mk (below_drew1 HB.out)
        have p496 : 0 ≤ (x12_2 : Int) := of_decide_eq_true (by first | (with_reducible assumption) | assumption)
        have q496 : x12_2 < (l1.length : Int) := of_decide_eq_true (by first | (with_reducible assumption) | assumption)
        obtain ⟨ad496, e496, hx496_0, hx496_1⟩ := at_T62 HR1.out x12_2 p496 q496
        have hw496_1 := hx496_1
        have hw496_0 := hx496_0
        cases e496
        replace hx496_0 := (HB.out.cell (World.block_lt_of_cell? w _ hx496_0)).trans hx496_0
        replace hx496_1 := (HB.out.cell (World.block_lt_of_cell? w _ hx496_1)).trans hx496_1
        replace p496 := eq_true p496
        replace q496 := eq_true q496
        have p497 : 0 ≤ (x12_2 : Int) := of_decide_eq_true (by first | (with_reducible assumption) | assumption)
        have q497 : x12_2 < (l1.length : Int) := of_decide_eq_true (by first | (with_reducible assumption) | assumption)
        obtain ⟨ad497, e497, hx497_0, hx497_1⟩ := at_T62 HR1.out x12_2 p497 q497
        have hw497_1 := hx497_1
        have hw497_0 := hx497_0
        obtain rfl : ad496 = ad497 := (by injection e497)
        replace hx497_0 := (HB.out.cell (World.block_lt_of_cell? w _ hx497_0)).trans hx497_0
        replace hx497_1 := (HB.out.cell (World.block_lt_of_cell? w _ hx497_1)).trans hx497_1
        replace p497 := eq_true p497
        replace q497 := eq_true q497
        obtain ⟨Ao31, co31, eo31⟩ := Kd.R_slice HO_7.out
        (first | subst eo31 | (injection eo31 with f1_ f2_ f3_; have f4_ := f1_.symm; have f5_ := f3_.symm; clear f1_ f2_ f3_; subst f4_; subst f5_))
        refine start_ (n := 19) (S := fun w' => w'.cell? (ad496.add ((x12_2).toNat * 2)) = some (.int .u64 ((rd_T62 l1 x12_2).f0)) ∧ w'.cell? ⟨(ad496.add ((x12_2).toNat * 2)).block, (ad496.add ((x12_2).toNat * 2)).off + 1, none⟩ = some (.int .i64 ((rd_T62 l1 x12_2).f1)) ∧ w'.cell? (ad496.add ((x12_2).toNat * 2)) = some (.int .u64 ((rd_T62 l1 x12_2).f0)) ∧ w'.cell? ⟨(ad496.add ((x12_2).toNat * 2)).block, (ad496.add ((x12_2).toNat * 2)).off + 1, none⟩ = some (.int .i64 ((rd_T62 l1 x12_2).f1))) (ds := []) (bl_ 19 0) (by kernel_rfl) rfl (by kernel_rfl) ⟨((HB.out.cell (World.block_lt_of_cell? w _ hw496_0)).trans hw496_0), ((HB.out.cell (World.block_lt_of_cell? w _ hw496_1)).trans hw496_1), ((HB.out.cell (World.block_lt_of_cell? w _ hw497_0)).trans hw497_0), ((HB.out.cell (World.block_lt_of_cell? w _ hw497_1)).trans hw497_1)⟩ (fun hHeld => ?_); refine with_tabW spigotref40_Pass.tab14 spigotref40_Pass.bits14 (fun HT_ HW_ => ?_)
        generalize wr.drew = w30 at HO_7 HO_11 HB hx496_0 hx496_1 hx497_0 hx497_1 hHeld ⊢
        refine pa_ 0 (some 56) (bl_ 19 1) HT_ ?_
        refine pa_ 1 (some 57) (bl_ 19 3) HT_ ?_
        refine pa_ 2 (some 58) (bl_ 19 7) HT_ ?_
        refine pa_ 3 (some 59) (bl_ 19 15) HT_ ?_
        refine pa_ 4 (some 60) (bl_ 19 31) HT_ ?_
        refine pa_ 6 (some 62) (bl_ 19 95) HT_ ?_
        refine pa_ 7 (some 63) (bl_ 19 223) HT_ ?_
        refine pa_ 8 (some 64) (bl_ 19 479) HT_ ?_
        refine pa_ 9 (some 65) (bl_ 19 991) HT_ ?_
        refine ta_ 5 (some 61) (bl_ 19 1023) HT_ HW_ hHeld ?_
        refine ta_ 10 (some 66) (bl_ 19 2047) HT_ HW_ hHeld ?_
        refine oa_ 11 (some 67) (bl_ 19 4095) HT_ fun K hK => ?_
        refine goesB_ Try.func44 #[.slice Ao31 x7_2.length co31, .int .u64 ((rd_T62 l1 x12_2).f0), .int .i64 ((rd_T62 l1 x12_2).f1)] ?_
        with_reducible refine (spigotref04_Take.calls k2 _ _ x7_2 ((rd_T62 l1 x12_2).f0) ((rd_T62 l1 x12_2).f1) t498 true t500 _ ?side1 ?side2 A27.out).mono ?_
        (case side1 => exact cr_ HO_7)
        (case side2 => exact (Kd.R_reads' HO_7.out).2.1)
        rintro e w32 ⟨v501, rfl, ho0, hb⟩
        refine ⟨_, rfl, ?_⟩
        have HO502 := Aside0.mk (Kd.R_lower (Kd.R_new' ho0 (Kd.R_lt (rs_ HO_7))) (below_size (hq_ HB)))
        replace HO_7 := Aside0.mk (Kd.R_elder' (rs_ HO_7) (Kd.R_base ho0) hb)
        replace HO_11 := rb_ HO_11 hb
        replace HB := bs_ w hb
        (try clear hb)
        (try clear ho0)
        refine hK.out _ _ ⟨((HB.out.cell (World.block_lt_of_cell? w _ hw496_0)).trans hw496_0), ((HB.out.cell (World.block_lt_of_cell? w _ hw496_1)).trans hw496_1), ((HB.out.cell (World.block_lt_of_cell? w _ hw497_0)).trans hw497_0), ((HB.out.cell (World.block_lt_of_cell? w _ hw497_1)).trans hw497_1)⟩ (fun hHeld => ?_)
        clear hK K
        refine nm_ (some 67) ?_
        refine pa_ 12 (some 55) (bl_ 19 8191) HT_ ?_
        refine pa_ 13 (some 68) (bl_ 19 16383) HT_ ?_
        refine pa_ 14 (some 69) (bl_ 19 32767) HT_ ?_
        refine pa_ 15 (some 70) (bl_ 19 65535) HT_ ?_
        refine pa_ 16 (some 13) (bl_ 19 131071) HT_ ?_
        refine pa_ 17 (some 14) (bl_ 19 262143) HT_ ?_
        refine pa_ 18 (some 15) (bl_ 19 524287) HT_ ?_
        refine done_ (done_of HT_.out (by kernel_rfl)) ?_
        have p503 : 0 ≤ (x12_2 : Int) := of_decide_eq_true (by first | (with_reducible assumption) | assumption)
        have q503 : x12_2 < (l1.length : Int) := of_decide_eq_true (by first | (with_reducible assumption) | assumption)
        obtain ⟨ad503, e503, hx503_0, hx503_1⟩ := at_T62 HR1.out x12_2 p503 q503
        obtain rfl : ad496 = ad503 := (by injection e503)
        replace hx503_0 := (HB.out.cell (World.block_lt_of_cell? w _ hx503_0)).trans hx503_0
        replace hx503_1 := (HB.out.cell (World.block_lt_of_cell? w _ hx503_1)).trans hx503_1
        replace p503 := eq_true p503
        replace q503 := eq_true q503
        try go_wp2_with (first | ((with_reducible refine gate_builtin (b := .append) (xs := #[.tmp 73, .tmp 78]) rfl ?_); (try refine ug_ (by rfl) ?_); at_builtin; refine Kd.R_append k62 (w0 := w) w.heap.size rfl (.tmp 73) (.tmp 78) 23 62 (.agg #[(.int .u64 0), (.int .i64 0)]) 16 rfl Try.underlying23 info62 rfl (by decide) (by omega) u11 x11_2 (⟨(rd_T62 l1 x12_2).f0, (rd_T62 l1 x12_2).f1⟩ : S62) [.int .u64 ((rd_T62 l1 x12_2).f0), .int .i64 ((rd_T62 l1 x12_2).f1)] (fun _ => True) (fun _ => False) rfl rfl ?aP (fun _ hk => hk.elim) ?aF ?aO ?aB ?aS ?aL ?_; (case aP => exact k62_mkM _ _ _ (⟨(rd_T62 l1 x12_2).f0, (rd_T62 l1 x12_2).f1⟩ : S62)); (case aB => exact (hq_ HB)); (case aF => exact (fun _ _ => trivial)); (case aO => exact (rs_ HO_11)); (case aS => exact (below_size (hq_ HB))); (case aL => have := LMc29.out; omega); intro v505 w33 ho hb hg hat; rw [← Ny504.out] at ho; have HO506 := Aside0.mk (ho); replace HO_7 := Aside0.mk (Kd.R_over' (rs_ HO_7) (Kd.R_typed (rs_ HO_11)) (by decide) hg); replace HO502 := Aside0.mk (Kd.R_over' (rs_ HO502) (Kd.R_typed (rs_ HO_11)) (by decide) hg); replace HB := Aside0.mk (hb); clear HO_11; clear ho hb hg hat))
        go_roundg k2
        case measure => have := HJ4.out; have := HK2.out; omega
        case rel => exact ⟨(t498), (y504), (wrap64 (x12_2 + 1)), rf_, H', ⟨by have := HJ4.out; have := HK2.out; omega⟩, ⟨by (with_reducible repeat (first | apply Kd.R_alloc | apply Kd.R_drewN | apply Kd.R_drew)); exact Kd.R_mono HO502.out (fun _ hk => trivial)⟩, ⟨rs_ HO506⟩, bw_⟩
       ·replace c28 := Bool.eq_false_iff.mpr c28
        subst c28
        rw [if_neg (show ¬ (false = true) by decide)] at H
        try dsimp only at H
        have H' := Aside0.mk H
        clear H
        try go_wp2
        replace HO_7 := Aside0.mk (Kd.R_drew HO_7.out)
        replace HO_11 := Aside0.mk (Kd.R_drew HO_11.out)
        replace HB := Aside0.mk (below_drew1 HB.out)
        have p496 : 0 ≤ (x12_2 : Int) := of_decide_eq_true (by first | (with_reducible assumption) | assumption)
        have q496 : x12_2 < (l1.length : Int) := of_decide_eq_true (by first | (with_reducible assumption) | assumption)
        obtain ⟨ad496, e496, hx496_0, hx496_1⟩ := at_T62 HR1.out x12_2 p496 q496
        have hw496_1 := hx496_1
        have hw496_0 := hx496_0
        cases e496
        replace hx496_0 := (HB.out.cell (World.block_lt_of_cell? w _ hx496_0)).trans hx496_0
        replace hx496_1 := (HB.out.cell (World.block_lt_of_cell? w _ hx496_1)).trans hx496_1
        replace p496 := eq_true p496
        replace q496 := eq_true q496
        have p497 : 0 ≤ (x12_2 : Int) := of_decide_eq_true (by first | (with_reducible assumption) | assumption)
        have q497 : x12_2 < (l1.length : Int) := of_decide_eq_true (by first | (with_reducible assumption) | assumption)
        obtain ⟨ad497, e497, hx497_0, hx497_1⟩ := at_T62 HR1.out x12_2 p497 q497
        have hw497_1 := hx497_1
        have hw497_0 := hx497_0
        obtain rfl : ad496 = ad497 := (by injection e497)
        replace hx497_0 := (HB.out.cell (World.block_lt_of_cell? w _ hx497_0)).trans hx497_0
        replace hx497_1 := (HB.out.cell (World.block_lt_of_cell? w _ hx497_1)).trans hx497_1
        replace p497 := eq_true p497
        replace q497 := eq_true q497
        obtain ⟨Ao35, co35, eo35⟩ := Kd.R_slice HO_7.out
        (first | subst eo35 | (injection eo35 with f1_ f2_ f3_; have f4_ := f1_.symm; have f5_ := f3_.symm; clear f1_ f2_ f3_; subst f4_; subst f5_))
        refine start_ (n := 19) (S := fun w' => w'.cell? (ad496.add ((x12_2).toNat * 2)) = some (.int .u64 ((rd_T62 l1 x12_2).f0)) ∧ w'.cell? ⟨(ad496.add ((x12_2).toNat * 2)).block, (ad496.add ((x12_2).toNat * 2)).off + 1, none⟩ = some (.int .i64 ((rd_T62 l1 x12_2).f1)) ∧ w'.cell? (ad496.add ((x12_2).toNat * 2)) = some (.int .u64 ((rd_T62 l1 x12_2).f0)) ∧ w'.cell? ⟨(ad496.add ((x12_2).toNat * 2)).block, (ad496.add ((x12_2).toNat * 2)).off + 1, none⟩ = some (.int .i64 ((rd_T62 l1 x12_2).f1))) (ds := []) (bl_ 19 0) (by kernel_rfl) rfl (by kernel_rfl) ⟨((HB.out.cell (World.block_lt_of_cell? w _ hw496_0)).trans hw496_0), ((HB.out.cell (World.block_lt_of_cell? w _ hw496_1)).trans hw496_1), ((HB.out.cell (World.block_lt_of_cell? w _ hw497_0)).trans hw497_0), ((HB.out.cell (World.block_lt_of_cell? w _ hw497_1)).trans hw497_1)⟩ (fun hHeld => ?_); refine with_tabW spigotref40_Pass.tab14 spigotref40_Pass.bits14 (fun HT_ HW_ => ?_)
        generalize wr.drew = w34 at HO_7 HO_11 HB hx496_0 hx496_1 hx497_0 hx497_1 hHeld ⊢
        refine pa_ 0 (some 56) (bl_ 19 1) HT_ ?_
        refine pa_ 1 (some 57) (bl_ 19 3) HT_ ?_
        refine pa_ 2 (some 58) (bl_ 19 7) HT_ ?_
        refine pa_ 3 (some 59) (bl_ 19 15) HT_ ?_
        refine pa_ 4 (some 60) (bl_ 19 31) HT_ ?_
        refine pa_ 6 (some 62) (bl_ 19 95) HT_ ?_
        refine pa_ 7 (some 63) (bl_ 19 223) HT_ ?_
        refine pa_ 8 (some 64) (bl_ 19 479) HT_ ?_
        refine pa_ 9 (some 65) (bl_ 19 991) HT_ ?_
        refine ta_ 5 (some 61) (bl_ 19 1023) HT_ HW_ hHeld ?_
        refine ta_ 10 (some 66) (bl_ 19 2047) HT_ HW_ hHeld ?_
        refine oa_ 11 (some 67) (bl_ 19 4095) HT_ fun K hK => ?_
        refine goesB_ Try.func44 #[.slice Ao35 x7_2.length co35, .int .u64 ((rd_T62 l1 x12_2).f0), .int .i64 ((rd_T62 l1 x12_2).f1)] ?_
        with_reducible refine (spigotref04_Take.calls k2 _ _ x7_2 ((rd_T62 l1 x12_2).f0) ((rd_T62 l1 x12_2).f1) t498 false t500 _ ?side1 ?side2 A27.out).mono ?_
        (case side1 => exact cr_ HO_7)
        (case side2 => exact (Kd.R_reads' HO_7.out).2.1)
        rintro e w36 ⟨v501, rfl, ho0, hb⟩
        refine ⟨_, rfl, ?_⟩
        have HO502 := Aside0.mk (Kd.R_lower (Kd.R_new' ho0 (Kd.R_lt (rs_ HO_7))) (below_size (hq_ HB)))
        replace HO_7 := Aside0.mk (Kd.R_elder' (rs_ HO_7) (Kd.R_base ho0) hb)
        replace HO_11 := rb_ HO_11 hb
        replace HB := bs_ w hb
        (try clear hb)
        (try clear ho0)
        refine hK.out _ _ ⟨((HB.out.cell (World.block_lt_of_cell? w _ hw496_0)).trans hw496_0), ((HB.out.cell (World.block_lt_of_cell? w _ hw496_1)).trans hw496_1), ((HB.out.cell (World.block_lt_of_cell? w _ hw497_0)).trans hw497_0), ((HB.out.cell (World.block_lt_of_cell? w _ hw497_1)).trans hw497_1)⟩ (fun hHeld => ?_)
        clear hK K
        refine nm_ (some 67) ?_
        refine pa_ 12 (some 55) (bl_ 19 8191) HT_ ?_
        refine pa_ 13 (some 68) (bl_ 19 16383) HT_ ?_
        refine pa_ 14 (some 69) (bl_ 19 32767) HT_ ?_
        refine pa_ 15 (some 70) (bl_ 19 65535) HT_ ?_
        refine pa_ 16 (some 13) (bl_ 19 131071) HT_ ?_
        refine pa_ 17 (some 14) (bl_ 19 262143) HT_ ?_
        refine pa_ 18 (some 15) (bl_ 19 524287) HT_ ?_
        refine done_ (done_of HT_.out (by kernel_rfl)) ?_
        try go_wp2
        go_roundg k2
        case measure => have := HJ4.out; have := HK2.out; omega
        case rel => exact ⟨(t498), (x11_2), (wrap64 (x12_2 + 1)), rf_, H', ⟨by have := HJ4.out; have := HK2.out; omega⟩, ⟨by (with_reducible repeat (first | apply Kd.R_alloc | apply Kd.R_drewN | apply Kd.R_drew)); exact Kd.R_mono HO502.out (fun _ hk => trivial)⟩, ⟨rs_ HO_11⟩, bw_⟩
      ·rw [if_neg c25] at H
       have c25b0 : decide (x12_2 < (l1.length : Int)) = false := decide_eq_false c25
       clear c25
       simp only [Option.some.injEq, Prod.mk.injEq] at H
       obtain ⟨rfl, rfl⟩ := H
       go_wp2
       go_ret2
       exact ⟨_, by first | rfl | (simp [errW_none, errW_some] <;> rfl) | (simp [*, errW_none, errW_some] <;> rfl), by (with_reducible repeat (first | apply Kd.R_alloc | apply Kd.R_drewN | apply Kd.R_drew)); exact HO_11.out, by repeat (first | (with_reducible first | exact HB.out | apply below_alloc | apply pw_below_drewN | apply below_drew1) | exact HB.out)⟩
 ·rw [if_neg c4] at H
  have c4b0 : (t482 == 0) = false := beq_eq_false_iff_ne.mpr c4
  have c4b1 : (t482 != 0) = true := bne_iff_ne.mpr c4
  simp only [Option.some.injEq, Prod.mk.injEq] at H
  obtain ⟨rfl, rfl⟩ := H
  go_enter Try.func24, Try.ntmps24
  go_wp2_with (first | ((with_reducible refine gate_callee (f := 30) rfl ?_); (try refine ug_ (by rfl) ?_); refine goesA_ (some 18) Try.func30 #[.slice A0 l0.length c0, .slice A1 l1.length c1] ?_; (with_reducible refine (spigotref40_both.calls k _ _ l0 _ _ l1 t482 _ ?side1 ?side2 ?side3 ?side4 A3.out).mono ?_); (case side1 => exact ch_ HR0); (case side2 => exact HC0.out); (case side3 => exact ch_ HR1); (case side4 => exact HC1.out); rintro e w37 ⟨rfl, hb⟩; refine ⟨_, rfl, ?_⟩; replace HB := bs_ w hb; clear hb))
  go_ret2
  exact ⟨_, by first | rfl | (simp [errW_none, errW_some] <;> rfl) | (simp [*, errW_none, errW_some] <;> rfl), by first | exact Kd.R_nil _ _ _ _ _ | exact Kd.N_nil _ _ _ _ _ | exact Kd.V_nil _ _ _ _ _ | exact Kd.Q_nil _ _ _ _ _ | exact Kd.S_nil _ _ _ _ _, by repeat (first | (with_reducible first | exact HB.out | apply below_alloc | apply pw_below_drewN | apply below_drew1) | exact HB.out)⟩

end Go.Proofs.Ytimhghmfhfggoaa.X
