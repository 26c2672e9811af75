-- written by xprint.py, a program of this session over the kit's print
import Derived.Test.YtimhghmfhfggoaaX0
import Derived.Test.YtimhghmfhfggoaaX21
namespace Go.Proofs.Ytimhghmfhfggoaa.X
open Go.RowKit Go.Proofs.YtimhghmfhfggoaaW.PrintWords Go.Proofs.YtimhghmfhfggoaaW.PrintLast Go.Proofs.YtimhghmfhfggoaaW.PrintMore
attribute [local go_sem] max2_int min2_int max_two min_two max_three min_three max_four min_four   -- for this text's walks alone
set_option linter.unusedVariables false
set_option linter.unusedSimpArgs false

mutual
def spigotref40_Join.l0 : Nat → List (S62) → List (S62) → List (S62) → Int → Int → Option ((List (S62)) × Int)
  | 0, _, _, _, _, _ => none
  | k + 1, x0, x1, x8, x9, x10 => if x10 < (x0.length : Int) then (spigotref40_Join.l1 k x0 x1 x8 x9 x10) else (if 0 ≤ x9 then (if x9 ≤ (x1.length : Int) then ((some (x1.drop (x9 : Int).toNat : List (S62))).bind fun y571 => (if x8.length + y571.length < 8796093022208 then (some ((x8 ++ y571), 0)) else (none))) else (none)) else (none))
def spigotref40_Join.l1 : Nat → List (S62) → List (S62) → List (S62) → Int → Int → Option ((List (S62)) × Int)
  | 0, _, _, _, _, _ => none
  | k + 1, x0, x1, x8, x9, x10 => if x9 < (x1.length : Int) then (if 0 ≤ x9 then (if 0 ≤ x10 then (if x10 < (x0.length : Int) then (if ((rd_T62 x1 x9).f0) < ((rd_T62 x0 x10).f0) then (if x8.length < 8796093022208 then (spigotref40_Join.l1 k x0 x1 (x8 ++ [(⟨(rd_T62 x1 x9).f0, (rd_T62 x1 x9).f1⟩ : S62)]) (wrap64 (x9 + 1)) x10) else (none)) else (if x8.length < 8796093022208 then (spigotref40_Join.l0 k x0 x1 (x8 ++ [(⟨(rd_T62 x0 x10).f0, (rd_T62 x0 x10).f1⟩ : S62)]) x9 (wrap64 (x10 + 1))) else (none))) else (none)) else (none)) else (none)) else (if 0 ≤ x10 then (if x10 < (x0.length : Int) then (if x8.length < 8796093022208 then (spigotref40_Join.l0 k x0 x1 (x8 ++ [(⟨(rd_T62 x0 x10).f0, (rd_T62 x0 x10).f1⟩ : S62)]) x9 (wrap64 (x10 + 1))) else (none)) else (none)) else (none))
end
def spigotref40_Join.f (k : Nat) (l0 : List (S62)) (l1 : List (S62)) : Option ((List (S62)) × Int) := (spigotref40_Charges.f k l0).bind fun t569 => (if t569 = 0 then ((spigotref40_Charges.f k l1).bind fun t570 => (if t570 = 0 then (if (wrap64 ((l0.length : Int) + (l1.length : Int))) > 60 then (some (([] : List (S62)), 4)) else (spigotref40_Join.l0 k l0 l1 ([] : List (S62)) 0 0)) else (some (([] : List (S62)), t570)))) else (some (([] : List (S62)), t569)))
set_option maxHeartbeats 8000000 in
set_option maxRecDepth 100000 in
theorem spigotref40_Join.calls (k : Nat) (A0 : Option Addr) (c0 : Nat) (l0 : List (S62)) (A1 : Option Addr) (c1 : Nat) (l1 : List (S62)) (r1 : List (S62)) (r2 : Int) (w : World) (hr0 : Kd.C k62 w A0 l0.length l0) (hc0 : l0.length ≤ c0) (hr1 : Kd.C k62 w A1 l1.length l1) (hc1 : l1.length ≤ c1) (h : spigotref40_Join.f k l0 l1 = some (r1, r2)) :
  Calls Try.prog 26 #[.slice A0 l0.length c0, .slice A1 l1.length c1] w fun e w' => ∃ v0_ : Value, e = .returned (.tuple #[v0_, .int .i64 r2]) ∧ Kd.R k62 62 w' w.heap.size (fun _ => True) v0_ r1 ∧ Below w.heap.size w w' := by
 have hu62 := Try.underlying62
 have HR0 := Aside0.mk hr0
 have HC0 := Aside0.mk hc0
 clear hr0 hc0
 have HR1 := Aside0.mk hr1
 have HC1 := Aside0.mk hc1
 clear hr1 hc1
 have HB := Aside0.mk (Below.refl w.heap.size w)
 have H : ((spigotref40_Charges.f k l0).bind fun t569 => (if t569 = 0 then ((spigotref40_Charges.f k l1).bind fun t570 => (if t570 = 0 then (if (wrap64 ((l0.length : Int) + (l1.length : Int))) > 60 then (some (([] : List (S62)), 4)) else (spigotref40_Join.l0 k l0 l1 ([] : List (S62)) 0 0)) else (some (([] : List (S62)), t570)))) else (some (([] : List (S62)), t569)))) = some (r1, r2) := h
 clear h
 have H0_ := bo_ H; clear H; obtain ⟨t569, A3, H⟩ := H0_
 try dsimp only at H
 by_cases c4 : t569 = 0
 ·rw [if_pos c4] at H
  have c4b0 : (t569 == 0) = true := beq_iff_eq.mpr c4
  have c4b1 : (t569 != 0) = false := bne_eq_false_iff_eq.mpr c4
  clear c4
  have H0_ := bo_ H; clear H; obtain ⟨t570, A5, H⟩ := H0_
  try dsimp only at H
  by_cases c6 : t570 = 0
  ·rw [if_pos c6] at H
   have c6b0 : (t570 == 0) = true := beq_iff_eq.mpr c6
   have c6b1 : (t570 != 0) = false := bne_eq_false_iff_eq.mpr c6
   clear c6
   by_cases c7 : (wrap64 ((l0.length : Int) + (l1.length : Int))) > 60
   ·rw [if_pos c7] at H
    have c7b0 : decide (60 < (wrap64 ((l0.length : Int) + (l1.length : Int)))) = true := decide_eq_true c7
    clear c7
    simp only [Option.some.injEq, Prod.mk.injEq] at H
    obtain ⟨rfl, rfl⟩ := H
    go_enter Try.func26, Try.ntmps26
    go_wp2_with (first | (go_at_call 19; (with_reducible refine (spigotref40_Charges.calls k _ _ l0 t569 _ ?side1 ?side2 A3.out).mono ?_); (case side1 => exact ch_ HR0); (case side2 => exact HC0.out); rintro e w' ⟨rfl, ⟨nd, rfl⟩⟩; (try first | exact ⟨rfl, _, World.drewN_drewN _ _ _⟩ | exact ⟨rfl, _, Eq.trans (World.drewN_drewN _ _ _) (congrArg (World.drewN _) (Nat.add_assoc _ _ _))⟩)) | (go_at_call 19; (with_reducible refine (spigotref40_Charges.calls k _ _ l1 t570 _ ?side1 ?side2 A5.out).mono ?_); (case side1 => exact ch_ HR1); (case side2 => exact HC1.out); rintro e w' ⟨rfl, ⟨nd, rfl⟩⟩; (try first | exact ⟨rfl, _, World.drewN_drewN _ _ _⟩ | exact ⟨rfl, _, Eq.trans (World.drewN_drewN _ _ _) (congrArg (World.drewN _) (Nat.add_assoc _ _ _))⟩)))
    repeat (go_quiet (first | (go_at_call 19; (with_reducible refine (spigotref40_Charges.calls k _ _ l0 t569 _ ?side1 ?side2 A3.out).mono ?_); (case side1 => exact ch_ HR0); (case side2 => exact HC0.out); rintro e w' ⟨rfl, ⟨nd, rfl⟩⟩; (try first | exact ⟨rfl, _, World.drewN_drewN _ _ _⟩ | exact ⟨rfl, _, Eq.trans (World.drewN_drewN _ _ _) (congrArg (World.drewN _) (Nat.add_assoc _ _ _))⟩)) | (go_at_call 19; (with_reducible refine (spigotref40_Charges.calls k _ _ l1 t570 _ ?side1 ?side2 A5.out).mono ?_); (case side1 => exact ch_ HR1); (case side2 => exact HC1.out); rintro e w' ⟨rfl, ⟨nd, rfl⟩⟩; (try first | exact ⟨rfl, _, World.drewN_drewN _ _ _⟩ | exact ⟨rfl, _, Eq.trans (World.drewN_drewN _ _ _) (congrArg (World.drewN _) (Nat.add_assoc _ _ _))⟩))); try go_wp2_with (first | (go_at_call 19; (with_reducible refine (spigotref40_Charges.calls k _ _ l0 t569 _ ?side1 ?side2 A3.out).mono ?_); (case side1 => exact ch_ HR0); (case side2 => exact HC0.out); rintro e w' ⟨rfl, ⟨nd, rfl⟩⟩; (try first | exact ⟨rfl, _, World.drewN_drewN _ _ _⟩ | exact ⟨rfl, _, Eq.trans (World.drewN_drewN _ _ _) (congrArg (World.drewN _) (Nat.add_assoc _ _ _))⟩)) | (go_at_call 19; (with_reducible refine (spigotref40_Charges.calls k _ _ l1 t570 _ ?side1 ?side2 A5.out).mono ?_); (case side1 => exact ch_ HR1); (case side2 => exact HC1.out); rintro e w' ⟨rfl, ⟨nd, rfl⟩⟩; (try first | exact ⟨rfl, _, World.drewN_drewN _ _ _⟩ | exact ⟨rfl, _, Eq.trans (World.drewN_drewN _ _ _) (congrArg (World.drewN _) (Nat.add_assoc _ _ _))⟩))))
    go_ret2
    exact ⟨_, by first | rfl | (simp [errW_none, errW_some] <;> rfl) | (simp [*, errW_none, errW_some] <;> rfl), by first | exact Kd.R_nil _ _ _ _ _ | exact Kd.N_nil _ _ _ _ _ | exact Kd.V_nil _ _ _ _ _ | exact Kd.Q_nil _ _ _ _ _ | exact Kd.S_nil _ _ _ _ _, by repeat (first | (with_reducible first | exact HB.out | apply below_alloc | apply pw_below_drewN | apply below_drew1) | exact HB.out)⟩
   ·rw [if_neg c7] at H
    have c7b0 : decide (60 < (wrap64 ((l0.length : Int) + (l1.length : Int)))) = false := decide_eq_false c7
    clear c7
    have H' := Aside0.mk H
    clear H
    go_enter Try.func26, Try.ntmps26
    go_wp2_with (first | (go_at_call 19; (with_reducible refine (spigotref40_Charges.calls k _ _ l0 t569 _ ?side1 ?side2 A3.out).mono ?_); (case side1 => exact ch_ HR0); (case side2 => exact HC0.out); rintro e w' ⟨rfl, ⟨nd, rfl⟩⟩; (try first | exact ⟨rfl, _, World.drewN_drewN _ _ _⟩ | exact ⟨rfl, _, Eq.trans (World.drewN_drewN _ _ _) (congrArg (World.drewN _) (Nat.add_assoc _ _ _))⟩)) | (go_at_call 19; (with_reducible refine (spigotref40_Charges.calls k _ _ l1 t570 _ ?side1 ?side2 A5.out).mono ?_); (case side1 => exact ch_ HR1); (case side2 => exact HC1.out); rintro e w' ⟨rfl, ⟨nd, rfl⟩⟩; (try first | exact ⟨rfl, _, World.drewN_drewN _ _ _⟩ | exact ⟨rfl, _, Eq.trans (World.drewN_drewN _ _ _) (congrArg (World.drewN _) (Nat.add_assoc _ _ _))⟩)))
    repeat (go_quiet (first | (go_at_call 19; (with_reducible refine (spigotref40_Charges.calls k _ _ l0 t569 _ ?side1 ?side2 A3.out).mono ?_); (case side1 => exact ch_ HR0); (case side2 => exact HC0.out); rintro e w' ⟨rfl, ⟨nd, rfl⟩⟩; (try first | exact ⟨rfl, _, World.drewN_drewN _ _ _⟩ | exact ⟨rfl, _, Eq.trans (World.drewN_drewN _ _ _) (congrArg (World.drewN _) (Nat.add_assoc _ _ _))⟩)) | (go_at_call 19; (with_reducible refine (spigotref40_Charges.calls k _ _ l1 t570 _ ?side1 ?side2 A5.out).mono ?_); (case side1 => exact ch_ HR1); (case side2 => exact HC1.out); rintro e w' ⟨rfl, ⟨nd, rfl⟩⟩; (try first | exact ⟨rfl, _, World.drewN_drewN _ _ _⟩ | exact ⟨rfl, _, Eq.trans (World.drewN_drewN _ _ _) (congrArg (World.drewN _) (Nat.add_assoc _ _ _))⟩))); try go_wp2_with (first | (go_at_call 19; (with_reducible refine (spigotref40_Charges.calls k _ _ l0 t569 _ ?side1 ?side2 A3.out).mono ?_); (case side1 => exact ch_ HR0); (case side2 => exact HC0.out); rintro e w' ⟨rfl, ⟨nd, rfl⟩⟩; (try first | exact ⟨rfl, _, World.drewN_drewN _ _ _⟩ | exact ⟨rfl, _, Eq.trans (World.drewN_drewN _ _ _) (congrArg (World.drewN _) (Nat.add_assoc _ _ _))⟩)) | (go_at_call 19; (with_reducible refine (spigotref40_Charges.calls k _ _ l1 t570 _ ?side1 ?side2 A5.out).mono ?_); (case side1 => exact ch_ HR1); (case side2 => exact HC1.out); rintro e w' ⟨rfl, ⟨nd, rfl⟩⟩; (try first | exact ⟨rfl, _, World.drewN_drewN _ _ _⟩ | exact ⟨rfl, _, Eq.trans (World.drewN_drewN _ _ _) (congrArg (World.drewN _) (Nat.add_assoc _ _ _))⟩))))
    go_loopg [8, 9, 10] k (fun kq v8 v9 v10 w' => ∃ (x8_1 : List (S62)) (x9_1 : Int) (x10_1 : Int), v9 = .int .i64 x9_1 ∧ v10 = .int .i64 x10_1 ∧ Aside0 (spigotref40_Join.l0 kq l0 l1 x8_1 x9_1 x10_1 = some (r1, r2)) ∧ Aside0 (kq ≤ k) ∧ Aside0 (Kd.R k62 62 w' w.heap.size (fun _ => True) v8 x8_1) ∧ Aside0 (Below w.heap.size w w'))
    case atStart => exact ⟨(([] : List (S62))), (0), (0), rf_, rf_, H', ⟨Nat.le_refl _⟩, ⟨by first | exact Kd.R_nil _ _ _ _ _ | exact Kd.N_nil _ _ _ _ _ | exact Kd.V_nil _ _ _ _ _ | exact Kd.Q_nil _ _ _ _ _ | exact Kd.S_nil _ _ _ _ _⟩, bw_⟩
    case round =>
     clear H'
     try clear c1
     try clear c4
     try clear c4b0
     try clear c4b1
     try clear c6
     try clear c6b0
     try clear c6b1
     try clear c7
     try clear c7b0
     obtain ⟨x8_1, x9_1, x10_1, rfl, rfl, HA, HK1, HO_8, HB⟩ := hrel
     cases gk with
     | zero => exact absurd HA.out (by simp [spigotref40_Join.l0])
     | succ k1 =>
      have H := HA.out
      clear HA
      simp only [spigotref40_Join.l0] at H
      by_cases c8 : x10_1 < (l0.length : Int)
      ·rw [if_pos c8] at H
       have c8b0 : decide (x10_1 < (l0.length : Int)) = true := decide_eq_true c8
       clear c8
       have H' := Aside0.mk H
       clear H
       go_wp2
       repeat (go_quiet (fail); try go_wp2)
       go_loopg [8, 9] k1 (fun kq v8 v9 w' => ∃ (x8_2 : List (S62)) (x9_2 : Int), v9 = .int .i64 x9_2 ∧ Aside0 (spigotref40_Join.l1 kq l0 l1 x8_2 x9_2 x10_1 = some (r1, r2)) ∧ Aside0 (kq ≤ k1) ∧ Aside0 (Kd.R k62 62 w' w.heap.size (fun _ => True) v8 x8_2) ∧ Aside0 (Below w.heap.size w w'))
       case atStart => exact ⟨(x8_1), (x9_1), rf_, H', ⟨Nat.le_refl _⟩, ⟨rs_ HO_8⟩, bw_⟩
       case round =>
        clear H'
        try clear c1
        try clear c4
        try clear c4b0
        try clear c4b1
        try clear c6
        try clear c6b0
        try clear c6b1
        try clear c7
        try clear c7b0
        try clear c8
        try clear c8b0
        obtain ⟨x8_2, x9_2, rfl, HA, HK2, HO_8, HB⟩ := hrel
        cases gk with
        | zero => exact absurd HA.out (by simp [spigotref40_Join.l1])
        | succ k2 =>
         have H := HA.out
         clear HA
         simp only [spigotref40_Join.l1] at H
         by_cases c9 : x9_2 < (l1.length : Int)
         ·rw [if_pos c9] at H
          have c9b0 : decide (x9_2 < (l1.length : Int)) = true := decide_eq_true c9
          clear c9
          by_cases c10 : 0 ≤ x9_2
          rotate_left
          ·rw [if_neg c10] at H; exact absurd H (by simp)
          rw [if_pos c10] at H
          have c10b0 : decide (0 ≤ x9_2) = true := decide_eq_true c10
          clear c10
          by_cases c11 : 0 ≤ x10_1
          rotate_left
          ·rw [if_neg c11] at H; exact absurd H (by simp)
          rw [if_pos c11] at H
          have c11b0 : decide (0 ≤ x10_1) = true := decide_eq_true c11
          clear c11
          by_cases c12 : x10_1 < (l0.length : Int)
          rotate_left
          ·rw [if_neg c12] at H; exact absurd H (by simp)
          rw [if_pos c12] at H
          have c12b0 : decide (x10_1 < (l0.length : Int)) = true := decide_eq_true c12
          clear c12
          by_cases c13 : ((rd_T62 l1 x9_2).f0) < ((rd_T62 l0 x10_1).f0)
          ·rw [if_pos c13] at H
           have c13b0 : decide (((rd_T62 l1 x9_2).f0) < ((rd_T62 l0 x10_1).f0)) = true := decide_eq_true c13
           clear c13
           by_cases c14 : x8_2.length < 8796093022208
           rotate_left
           ·rw [if_neg c14] at H; exact absurd H (by simp)
           rw [if_pos c14] at H
           have LMc14 := Aside0.mk c14
           clear c14
           obtain ⟨y581, hy581⟩ : ∃ y_ : List (S62), y_ = (x8_2 ++ [(⟨(rd_T62 l1 x9_2).f0, (rd_T62 l1 x9_2).f1⟩ : S62)]) := ⟨_, rfl⟩
           replace H : (spigotref40_Join.l1 k2 l0 l1 y581 (wrap64 (x9_2 + 1)) x10_1) = some (r1, r2) := by first | (rw [hy581]; with_reducible exact H) | (have H2_ := (Option.bind_some _ _).symm.trans H; rw [hy581]; with_reducible exact H2_) | (have H2_ := (Option.bind_some _ _).symm.trans H; with_reducible exact H2_) | with_reducible exact H | (rw [hy581]; exact H) | exact H
           have Ny581 := Aside0.mk hy581
           clear hy581
           have H' := Aside0.mk H
           clear H
           have p578 : 0 ≤ (x9_2 : Int) := of_decide_eq_true (by first | (with_reducible assumption) | assumption)
           have q578 : x9_2 < (l1.length : Int) := of_decide_eq_true (by first | (with_reducible assumption) | assumption)
           obtain ⟨ad578, e578, hx578_0, hx578_1⟩ := at_T62 HR1.out x9_2 p578 q578
           cases e578
           replace hx578_0 := (HB.out.cell (World.block_lt_of_cell? w _ hx578_0)).trans hx578_0
           replace hx578_1 := (HB.out.cell (World.block_lt_of_cell? w _ hx578_1)).trans hx578_1
           replace p578 := eq_true p578
           replace q578 := eq_true q578
           have p579 : 0 ≤ (x10_1 : Int) := of_decide_eq_true (by first | (with_reducible assumption) | assumption)
           have q579 : x10_1 < (l0.length : Int) := of_decide_eq_true (by first | (with_reducible assumption) | assumption)
           obtain ⟨ad579, e579, hx579_0, hx579_1⟩ := at_T62 HR0.out x10_1 p579 q579
           cases e579
           replace hx579_0 := (HB.out.cell (World.block_lt_of_cell? w _ hx579_0)).trans hx579_0
           replace hx579_1 := (HB.out.cell (World.block_lt_of_cell? w _ hx579_1)).trans hx579_1
           replace p579 := eq_true p579
           replace q579 := eq_true q579
           have p580 : 0 ≤ (x9_2 : Int) := of_decide_eq_true (by first | (with_reducible assumption) | assumption)
           have q580 : x9_2 < (l1.length : Int) := of_decide_eq_true (by first | (with_reducible assumption) | assumption)
           obtain ⟨ad580, e580, hx580_0, hx580_1⟩ := at_T62 HR1.out x9_2 p580 q580
           obtain rfl : ad578 = ad580 := (by injection e580)
           replace hx580_0 := (HB.out.cell (World.block_lt_of_cell? w _ hx580_0)).trans hx580_0
           replace hx580_1 := (HB.out.cell (World.block_lt_of_cell? w _ hx580_1)).trans hx580_1
           replace p580 := eq_true p580
           replace q580 := eq_true q580
           go_wp2_with (first | ((with_reducible refine gate_builtin (b := .append) (xs := #[.tmp 50, .tmp 55]) rfl ?_); (try refine ug_ (by rfl) ?_); at_builtin; refine Kd.R_append k62 (w0 := w) w.heap.size rfl (.tmp 50) (.tmp 55) 23 62 (.agg #[(.int .u64 0), (.int .i64 0)]) 16 rfl Try.underlying23 info62 rfl (by decide) (by omega) u8 x8_2 (⟨(rd_T62 l1 x9_2).f0, (rd_T62 l1 x9_2).f1⟩ : S62) [.int .u64 ((rd_T62 l1 x9_2).f0), .int .i64 ((rd_T62 l1 x9_2).f1)] (fun _ => True) (fun _ => False) rfl rfl ?aP (fun _ hk => hk.elim) ?aF ?aO ?aB ?aS ?aL ?_; (case aP => exact k62_mkM _ _ _ (⟨(rd_T62 l1 x9_2).f0, (rd_T62 l1 x9_2).f1⟩ : S62)); (case aB => exact (hq_ HB)); (case aF => exact (fun _ _ => trivial)); (case aO => exact (rs_ HO_8)); (case aS => exact (below_size (hq_ HB))); (case aL => have := LMc14.out; omega); intro v582 w15 ho hb hg hat; rw [← Ny581.out] at ho; have HO583 := Aside0.mk (ho); replace HB := Aside0.mk (hb); clear HO_8; clear ho hb hg hat))
           repeat (go_quiet (first | ((with_reducible refine gate_builtin (b := .append) (xs := #[.tmp 50, .tmp 55]) rfl ?_); (try refine ug_ (by rfl) ?_); at_builtin; refine Kd.R_append k62 (w0 := w) w.heap.size rfl (.tmp 50) (.tmp 55) 23 62 (.agg #[(.int .u64 0), (.int .i64 0)]) 16 rfl Try.underlying23 info62 rfl (by decide) (by omega) u8 x8_2 (⟨(rd_T62 l1 x9_2).f0, (rd_T62 l1 x9_2).f1⟩ : S62) [.int .u64 ((rd_T62 l1 x9_2).f0), .int .i64 ((rd_T62 l1 x9_2).f1)] (fun _ => True) (fun _ => False) rfl rfl ?aP (fun _ hk => hk.elim) ?aF ?aO ?aB ?aS ?aL ?_; (case aP => exact k62_mkM _ _ _ (⟨(rd_T62 l1 x9_2).f0, (rd_T62 l1 x9_2).f1⟩ : S62)); (case aB => exact (hq_ HB)); (case aF => exact (fun _ _ => trivial)); (case aO => exact (rs_ HO_8)); (case aS => exact (below_size (hq_ HB))); (case aL => have := LMc14.out; omega); intro v582 w15 ho hb hg hat; rw [← Ny581.out] at ho; have HO583 := Aside0.mk (ho); replace HB := Aside0.mk (hb); clear HO_8; clear ho hb hg hat)); try go_wp2_with (first | ((with_reducible refine gate_builtin (b := .append) (xs := #[.tmp 50, .tmp 55]) rfl ?_); (try refine ug_ (by rfl) ?_); at_builtin; refine Kd.R_append k62 (w0 := w) w.heap.size rfl (.tmp 50) (.tmp 55) 23 62 (.agg #[(.int .u64 0), (.int .i64 0)]) 16 rfl Try.underlying23 info62 rfl (by decide) (by omega) u8 x8_2 (⟨(rd_T62 l1 x9_2).f0, (rd_T62 l1 x9_2).f1⟩ : S62) [.int .u64 ((rd_T62 l1 x9_2).f0), .int .i64 ((rd_T62 l1 x9_2).f1)] (fun _ => True) (fun _ => False) rfl rfl ?aP (fun _ hk => hk.elim) ?aF ?aO ?aB ?aS ?aL ?_; (case aP => exact k62_mkM _ _ _ (⟨(rd_T62 l1 x9_2).f0, (rd_T62 l1 x9_2).f1⟩ : S62)); (case aB => exact (hq_ HB)); (case aF => exact (fun _ _ => trivial)); (case aO => exact (rs_ HO_8)); (case aS => exact (below_size (hq_ HB))); (case aL => have := LMc14.out; omega); intro v582 w15 ho hb hg hat; rw [← Ny581.out] at ho; have HO583 := Aside0.mk (ho); replace HB := Aside0.mk (hb); clear HO_8; clear ho hb hg hat)))
           go_roundg k2
           case measure => have := HK1.out; have := HK2.out; omega
           case rel => exact ⟨(y581), (wrap64 (x9_2 + 1)), rf_, H', ⟨by have := HK1.out; have := HK2.out; omega⟩, ⟨rs_ HO583⟩, bw_⟩
          ·rw [if_neg c13] at H
           have c13b0 : decide (((rd_T62 l1 x9_2).f0) < ((rd_T62 l0 x10_1).f0)) = false := decide_eq_false c13
           clear c13
           by_cases c16 : x8_2.length < 8796093022208
           rotate_left
           ·rw [if_neg c16] at H; exact absurd H (by simp)
           rw [if_pos c16] at H
           have LMc16 := Aside0.mk c16
           clear c16
           obtain ⟨y585, hy585⟩ : ∃ y_ : List (S62), y_ = (x8_2 ++ [(⟨(rd_T62 l0 x10_1).f0, (rd_T62 l0 x10_1).f1⟩ : S62)]) := ⟨_, rfl⟩
           replace H : (spigotref40_Join.l0 k2 l0 l1 y585 x9_2 (wrap64 (x10_1 + 1))) = some (r1, r2) := by first | (rw [hy585]; with_reducible exact H) | (have H2_ := (Option.bind_some _ _).symm.trans H; rw [hy585]; with_reducible exact H2_) | (have H2_ := (Option.bind_some _ _).symm.trans H; with_reducible exact H2_) | with_reducible exact H | (rw [hy585]; exact H) | exact H
           have Ny585 := Aside0.mk hy585
           clear hy585
           have H' := Aside0.mk H
           clear H
           have p578 : 0 ≤ (x9_2 : Int) := of_decide_eq_true (by first | (with_reducible assumption) | assumption)
           have q578 : x9_2 < (l1.length : Int) := of_decide_eq_true (by first | (with_reducible assumption) | assumption)
           obtain ⟨ad578, e578, hx578_0, hx578_1⟩ := at_T62 HR1.out x9_2 p578 q578
           cases e578
           replace hx578_0 := (HB.out.cell (World.block_lt_of_cell? w _ hx578_0)).trans hx578_0
           replace hx578_1 := (HB.out.cell (World.block_lt_of_cell? w _ hx578_1)).trans hx578_1
           replace p578 := eq_true p578
           replace q578 := eq_true q578
           have p579 : 0 ≤ (x10_1 : Int) := of_decide_eq_true (by first | (with_reducible assumption) | assumption)
           have q579 : x10_1 < (l0.length : Int) := of_decide_eq_true (by first | (with_reducible assumption) | assumption)
           obtain ⟨ad579, e579, hx579_0, hx579_1⟩ := at_T62 HR0.out x10_1 p579 q579
           cases e579
           replace hx579_0 := (HB.out.cell (World.block_lt_of_cell? w _ hx579_0)).trans hx579_0
           replace hx579_1 := (HB.out.cell (World.block_lt_of_cell? w _ hx579_1)).trans hx579_1
           replace p579 := eq_true p579
           replace q579 := eq_true q579
           have p584 : 0 ≤ (x10_1 : Int) := of_decide_eq_true (by first | (with_reducible assumption) | assumption)
           have q584 : x10_1 < (l0.length : Int) := of_decide_eq_true (by first | (with_reducible assumption) | assumption)
           obtain ⟨ad584, e584, hx584_0, hx584_1⟩ := at_T62 HR0.out x10_1 p584 q584
           obtain rfl : ad579 = ad584 := (by injection e584)
           replace hx584_0 := (HB.out.cell (World.block_lt_of_cell? w _ hx584_0)).trans hx584_0
           replace hx584_1 := (HB.out.cell (World.block_lt_of_cell? w _ hx584_1)).trans hx584_1
           replace p584 := eq_true p584
           replace q584 := eq_true q584
           go_wp2_with (first | ((with_reducible refine gate_builtin (b := .append) (xs := #[.tmp 59, .tmp 64]) rfl ?_); (try refine ug_ (by rfl) ?_); at_builtin; refine Kd.R_append k62 (w0 := w) w.heap.size rfl (.tmp 59) (.tmp 64) 23 62 (.agg #[(.int .u64 0), (.int .i64 0)]) 16 rfl Try.underlying23 info62 rfl (by decide) (by omega) u8 x8_2 (⟨(rd_T62 l0 x10_1).f0, (rd_T62 l0 x10_1).f1⟩ : S62) [.int .u64 ((rd_T62 l0 x10_1).f0), .int .i64 ((rd_T62 l0 x10_1).f1)] (fun _ => True) (fun _ => False) rfl rfl ?aP (fun _ hk => hk.elim) ?aF ?aO ?aB ?aS ?aL ?_; (case aP => exact k62_mkM _ _ _ (⟨(rd_T62 l0 x10_1).f0, (rd_T62 l0 x10_1).f1⟩ : S62)); (case aB => exact (hq_ HB)); (case aF => exact (fun _ _ => trivial)); (case aO => exact (rs_ HO_8)); (case aS => exact (below_size (hq_ HB))); (case aL => have := LMc16.out; omega); intro v586 w17 ho hb hg hat; rw [← Ny585.out] at ho; have HO587 := Aside0.mk (ho); replace HB := Aside0.mk (hb); clear HO_8; clear ho hb hg hat))
           repeat (go_quiet (first | ((with_reducible refine gate_builtin (b := .append) (xs := #[.tmp 59, .tmp 64]) rfl ?_); (try refine ug_ (by rfl) ?_); at_builtin; refine Kd.R_append k62 (w0 := w) w.heap.size rfl (.tmp 59) (.tmp 64) 23 62 (.agg #[(.int .u64 0), (.int .i64 0)]) 16 rfl Try.underlying23 info62 rfl (by decide) (by omega) u8 x8_2 (⟨(rd_T62 l0 x10_1).f0, (rd_T62 l0 x10_1).f1⟩ : S62) [.int .u64 ((rd_T62 l0 x10_1).f0), .int .i64 ((rd_T62 l0 x10_1).f1)] (fun _ => True) (fun _ => False) rfl rfl ?aP (fun _ hk => hk.elim) ?aF ?aO ?aB ?aS ?aL ?_; (case aP => exact k62_mkM _ _ _ (⟨(rd_T62 l0 x10_1).f0, (rd_T62 l0 x10_1).f1⟩ : S62)); (case aB => exact (hq_ HB)); (case aF => exact (fun _ _ => trivial)); (case aO => exact (rs_ HO_8)); (case aS => exact (below_size (hq_ HB))); (case aL => have := LMc16.out; omega); intro v586 w17 ho hb hg hat; rw [← Ny585.out] at ho; have HO587 := Aside0.mk (ho); replace HB := Aside0.mk (hb); clear HO_8; clear ho hb hg hat)); try go_wp2_with (first | ((with_reducible refine gate_builtin (b := .append) (xs := #[.tmp 59, .tmp 64]) rfl ?_); (try refine ug_ (by rfl) ?_); at_builtin; refine Kd.R_append k62 (w0 := w) w.heap.size rfl (.tmp 59) (.tmp 64) 23 62 (.agg #[(.int .u64 0), (.int .i64 0)]) 16 rfl Try.underlying23 info62 rfl (by decide) (by omega) u8 x8_2 (⟨(rd_T62 l0 x10_1).f0, (rd_T62 l0 x10_1).f1⟩ : S62) [.int .u64 ((rd_T62 l0 x10_1).f0), .int .i64 ((rd_T62 l0 x10_1).f1)] (fun _ => True) (fun _ => False) rfl rfl ?aP (fun _ hk => hk.elim) ?aF ?aO ?aB ?aS ?aL ?_; (case aP => exact k62_mkM _ _ _ (⟨(rd_T62 l0 x10_1).f0, (rd_T62 l0 x10_1).f1⟩ : S62)); (case aB => exact (hq_ HB)); (case aF => exact (fun _ _ => trivial)); (case aO => exact (rs_ HO_8)); (case aS => exact (below_size (hq_ HB))); (case aL => have := LMc16.out; omega); intro v586 w17 ho hb hg hat; rw [← Ny585.out] at ho; have HO587 := Aside0.mk (ho); replace HB := Aside0.mk (hb); clear HO_8; clear ho hb hg hat)))
           go_roundg k2
           case measure => have := HK1.out; have := HK2.out; omega
           case rel => exact ⟨(y585), (x9_2), (wrap64 (x10_1 + 1)), rf_, rf_, H', ⟨by have := HK1.out; have := HK2.out; omega⟩, ⟨rs_ HO587⟩, bw_⟩
         ·rw [if_neg c9] at H
          have c9b0 : decide (x9_2 < (l1.length : Int)) = false := decide_eq_false c9
          clear c9
          by_cases c18 : 0 ≤ x10_1
          rotate_left
          ·rw [if_neg c18] at H; exact absurd H (by simp)
          rw [if_pos c18] at H
          have c18b0 : decide (0 ≤ x10_1) = true := decide_eq_true c18
          clear c18
          by_cases c19 : x10_1 < (l0.length : Int)
          rotate_left
          ·rw [if_neg c19] at H; exact absurd H (by simp)
          rw [if_pos c19] at H
          have c19b0 : decide (x10_1 < (l0.length : Int)) = true := decide_eq_true c19
          clear c19
          by_cases c20 : x8_2.length < 8796093022208
          rotate_left
          ·rw [if_neg c20] at H; exact absurd H (by simp)
          rw [if_pos c20] at H
          have LMc20 := Aside0.mk c20
          clear c20
          obtain ⟨y589, hy589⟩ : ∃ y_ : List (S62), y_ = (x8_2 ++ [(⟨(rd_T62 l0 x10_1).f0, (rd_T62 l0 x10_1).f1⟩ : S62)]) := ⟨_, rfl⟩
          replace H : (spigotref40_Join.l0 k2 l0 l1 y589 x9_2 (wrap64 (x10_1 + 1))) = some (r1, r2) := by first | (rw [hy589]; with_reducible exact H) | (have H2_ := (Option.bind_some _ _).symm.trans H; rw [hy589]; with_reducible exact H2_) | (have H2_ := (Option.bind_some _ _).symm.trans H; with_reducible exact H2_) | with_reducible exact H | (rw [hy589]; exact H) | exact H
          have Ny589 := Aside0.mk hy589
          clear hy589
          have H' := Aside0.mk H
          clear H
          have p588 : 0 ≤ (x10_1 : Int) := of_decide_eq_true (by first | (with_reducible assumption) | assumption)
          have q588 : x10_1 < (l0.length : Int) := of_decide_eq_true (by first | (with_reducible assumption) | assumption)
          obtain ⟨ad588, e588, hx588_0, hx588_1⟩ := at_T62 HR0.out x10_1 p588 q588
          cases e588
          replace hx588_0 := (HB.out.cell (World.block_lt_of_cell? w _ hx588_0)).trans hx588_0
          replace hx588_1 := (HB.out.cell (World.block_lt_of_cell? w _ hx588_1)).trans hx588_1
          replace p588 := eq_true p588
          replace q588 := eq_true q588
          go_wp2_with (first | ((with_reducible refine gate_builtin (b := .append) (xs := #[.tmp 59, .tmp 64]) rfl ?_); (try refine ug_ (by rfl) ?_); at_builtin; refine Kd.R_append k62 (w0 := w) w.heap.size rfl (.tmp 59) (.tmp 64) 23 62 (.agg #[(.int .u64 0), (.int .i64 0)]) 16 rfl Try.underlying23 info62 rfl (by decide) (by omega) u8 x8_2 (⟨(rd_T62 l0 x10_1).f0, (rd_T62 l0 x10_1).f1⟩ : S62) [.int .u64 ((rd_T62 l0 x10_1).f0), .int .i64 ((rd_T62 l0 x10_1).f1)] (fun _ => True) (fun _ => False) rfl rfl ?aP (fun _ hk => hk.elim) ?aF ?aO ?aB ?aS ?aL ?_; (case aP => exact k62_mkM _ _ _ (⟨(rd_T62 l0 x10_1).f0, (rd_T62 l0 x10_1).f1⟩ : S62)); (case aB => exact (hq_ HB)); (case aF => exact (fun _ _ => trivial)); (case aO => exact (rs_ HO_8)); (case aS => exact (below_size (hq_ HB))); (case aL => have := LMc20.out; omega); intro v590 w21 ho hb hg hat; rw [← Ny589.out] at ho; have HO591 := Aside0.mk (ho); replace HB := Aside0.mk (hb); clear HO_8; clear ho hb hg hat))
          repeat (go_quiet (first | ((with_reducible refine gate_builtin (b := .append) (xs := #[.tmp 59, .tmp 64]) rfl ?_); (try refine ug_ (by rfl) ?_); at_builtin; refine Kd.R_append k62 (w0 := w) w.heap.size rfl (.tmp 59) (.tmp 64) 23 62 (.agg #[(.int .u64 0), (.int .i64 0)]) 16 rfl Try.underlying23 info62 rfl (by decide) (by omega) u8 x8_2 (⟨(rd_T62 l0 x10_1).f0, (rd_T62 l0 x10_1).f1⟩ : S62) [.int .u64 ((rd_T62 l0 x10_1).f0), .int .i64 ((rd_T62 l0 x10_1).f1)] (fun _ => True) (fun _ => False) rfl rfl ?aP (fun _ hk => hk.elim) ?aF ?aO ?aB ?aS ?aL ?_; (case aP => exact k62_mkM _ _ _ (⟨(rd_T62 l0 x10_1).f0, (rd_T62 l0 x10_1).f1⟩ : S62)); (case aB => exact (hq_ HB)); (case aF => exact (fun _ _ => trivial)); (case aO => exact (rs_ HO_8)); (case aS => exact (below_size (hq_ HB))); (case aL => have := LMc20.out; omega); intro v590 w21 ho hb hg hat; rw [← Ny589.out] at ho; have HO591 := Aside0.mk (ho); replace HB := Aside0.mk (hb); clear HO_8; clear ho hb hg hat)); try go_wp2_with (first | ((with_reducible refine gate_builtin (b := .append) (xs := #[.tmp 59, .tmp 64]) rfl ?_); (try refine ug_ (by rfl) ?_); at_builtin; refine Kd.R_append k62 (w0 := w) w.heap.size rfl (.tmp 59) (.tmp 64) 23 62 (.agg #[(.int .u64 0), (.int .i64 0)]) 16 rfl Try.underlying23 info62 rfl (by decide) (by omega) u8 x8_2 (⟨(rd_T62 l0 x10_1).f0, (rd_T62 l0 x10_1).f1⟩ : S62) [.int .u64 ((rd_T62 l0 x10_1).f0), .int .i64 ((rd_T62 l0 x10_1).f1)] (fun _ => True) (fun _ => False) rfl rfl ?aP (fun _ hk => hk.elim) ?aF ?aO ?aB ?aS ?aL ?_; (case aP => exact k62_mkM _ _ _ (⟨(rd_T62 l0 x10_1).f0, (rd_T62 l0 x10_1).f1⟩ : S62)); (case aB => exact (hq_ HB)); (case aF => exact (fun _ _ => trivial)); (case aO => exact (rs_ HO_8)); (case aS => exact (below_size (hq_ HB))); (case aL => have := LMc20.out; omega); intro v590 w21 ho hb hg hat; rw [← Ny589.out] at ho; have HO591 := Aside0.mk (ho); replace HB := Aside0.mk (hb); clear HO_8; clear ho hb hg hat)))
          go_roundg k2
          case measure => have := HK1.out; have := HK2.out; omega
          case rel => exact ⟨(y589), (x9_2), (wrap64 (x10_1 + 1)), rf_, rf_, H', ⟨by have := HK1.out; have := HK2.out; omega⟩, ⟨rs_ HO591⟩, bw_⟩
      ·rw [if_neg c8] at H
       have c8b0 : decide (x10_1 < (l0.length : Int)) = false := decide_eq_false c8
       clear c8
       by_cases c22 : 0 ≤ x9_1
       rotate_left
       ·rw [if_neg c22] at H; exact absurd H (by simp)
       rw [if_pos c22] at H
       have c22b0 := eq_true c22
       have c22b1 : decide (0 ≤ x9_1) = true := decide_eq_true c22
       clear c22
       by_cases c23 : x9_1 ≤ (l1.length : Int)
       rotate_left
       ·rw [if_neg c23] at H; exact absurd H (by simp)
       rw [if_pos c23] at H
       have c23b0 := eq_true c23
       have c23b1 : decide (x9_1 ≤ (l1.length : Int)) = true := decide_eq_true c23
       clear c23
       obtain ⟨y571, hy571⟩ : ∃ y_ : List (S62), y_ = (l1.drop (x9_1 : Int).toNat) := ⟨_, rfl⟩
       replace H : (if x8_1.length + y571.length < 8796093022208 then (some ((x8_1 ++ y571), 0)) else (none)) = some (r1, r2) := by first | (rw [hy571]; with_reducible exact H) | (have H2_ := (Option.bind_some _ _).symm.trans H; rw [hy571]; with_reducible exact H2_) | (have H2_ := (Option.bind_some _ _).symm.trans H; with_reducible exact H2_) | with_reducible exact H | (rw [hy571]; exact H) | exact H
       have Ny571 := Aside0.mk hy571
       clear hy571
       by_cases c24 : x8_1.length + y571.length < 8796093022208
       rotate_left
       ·rw [if_neg c24] at H; exact absurd H (by simp)
       rw [if_pos c24] at H
       have LMc24 := Aside0.mk c24
       clear c24
       obtain ⟨y575, hy575⟩ : ∃ y_ : List (S62), y_ = (x8_1 ++ y571) := ⟨_, rfl⟩
       replace H : (some (y575, 0)) = some (r1, r2) := by first | (rw [hy575]; with_reducible exact H) | (have H2_ := (Option.bind_some _ _).symm.trans H; rw [hy575]; with_reducible exact H2_) | (have H2_ := (Option.bind_some _ _).symm.trans H; with_reducible exact H2_) | with_reducible exact H | (rw [hy575]; exact H) | exact H
       have Ny575 := Aside0.mk hy575
       clear hy575
       simp only [Option.some.injEq, Prod.mk.injEq] at H
       obtain ⟨rfl, rfl⟩ := H
       have q25 : (x9_1 : Int) ≤ ((l1.length : Int) : Int) := of_decide_eq_true (by first | (with_reducible assumption) | assumption)
       obtain ⟨i025, hi025, _, hsz25, _⟩ := info_parts info62
       have hroom25 : l1.length ≤ c1 := HC1.out
       have hC25 : Kd.C k62 _ A1 l1.length l1 := HR1.out
       have q025 : (0 : Int) ≤ (x9_1 : Int) := of_decide_eq_true (by first | (with_reducible assumption) | assumption)
       have hcut25 := cut_from (P := Try.prog) 23 62 .i64 Try.underlying23 hi025 2 hsz25 A1 l1.length c1 x9_1 q025 q25
       have hr25 := Kd.C_drop (m := (x9_1 : Int).toNat) (c := c1) hC25 (by omega) hroom25
       obtain ⟨A25, hA25⟩ : ∃ Az_, Az_ = (if c1 = (x9_1 : Int).toNat then A1 else (A1 : Option Addr).map (·.add ((x9_1 : Int).toNat * 2))) := ⟨_, rfl⟩
       obtain ⟨c25, hc25⟩ : ∃ cz_, cz_ = c1 - (x9_1 : Int).toNat := ⟨_, rfl⟩
       have hy25 : y571.length = l1.length - (x9_1 : Int).toNat := (by rw [Ny571.out, List.length_drop] <;> omega)
       rw [show (l1).drop (x9_1 : Int).toNat = y571 from Ny571.out.symm] at hr25
       replace hr25 : Kd.C k62 _ A25 y571.length y571 := (by rw [hA25]; exact hr25)
       rw [← hy25, ← hA25, ← hc25] at hcut25
       have HR574 := Aside0.mk hr25
       have HC574 := Aside0.mk (show y571.length ≤ c25 from by rw [hy25, hc25]; exact Nat.sub_le_sub_right hroom25 _)
       clear hr25 hC25 hroom25 hi025 hsz25 hc25
       have KY25 := Aside0.mk hy25
       have KA25 := Aside0.mk hA25
       clear hy25 hA25
       replace q25 := eq_true q25
       go_wp2_with (first | ((with_reducible refine gate_builtin (b := .append) (xs := #[.tmp 66, .tmp 69]) rfl ?_); (try refine ug_ (by rfl) ?_); at_builtin; refine Kd.R_append_rows k62 (w0 := w) w.heap.size rfl (.tmp 66) (.tmp 69) 23 62 (.agg #[(.int .u64 0), (.int .i64 0)]) 16 rfl Try.underlying23 info62 rfl (by decide) (by omega) u8 x8_1 y571 _ _ _ (fun _ => True) (fun _ => False) rfl rfl ?aO ?aR (fun _ _ h => h) (fun _ h => h.elim) ?aF ?aB ?aS ?aL ?_; (case aR => exact cs_ HR574 HB); (case aB => exact (hq_ HB)); (case aF => exact (fun _ _ => trivial)); (case aO => exact (rs_ HO_8)); (case aS => exact (below_size (hq_ HB))); (case aL => have := LMc24.out; omega); intro v576 w26 ho hb hg hat; rw [← Ny575.out] at ho; have HO577 := Aside0.mk (ho); replace HB := Aside0.mk (hb); clear HO_8; clear ho hb hg hat))
       repeat (go_quiet (first | ((with_reducible refine gate_builtin (b := .append) (xs := #[.tmp 66, .tmp 69]) rfl ?_); (try refine ug_ (by rfl) ?_); at_builtin; refine Kd.R_append_rows k62 (w0 := w) w.heap.size rfl (.tmp 66) (.tmp 69) 23 62 (.agg #[(.int .u64 0), (.int .i64 0)]) 16 rfl Try.underlying23 info62 rfl (by decide) (by omega) u8 x8_1 y571 _ _ _ (fun _ => True) (fun _ => False) rfl rfl ?aO ?aR (fun _ _ h => h) (fun _ h => h.elim) ?aF ?aB ?aS ?aL ?_; (case aR => exact cs_ HR574 HB); (case aB => exact (hq_ HB)); (case aF => exact (fun _ _ => trivial)); (case aO => exact (rs_ HO_8)); (case aS => exact (below_size (hq_ HB))); (case aL => have := LMc24.out; omega); intro v576 w26 ho hb hg hat; rw [← Ny575.out] at ho; have HO577 := Aside0.mk (ho); replace HB := Aside0.mk (hb); clear HO_8; clear ho hb hg hat)); try go_wp2_with (first | ((with_reducible refine gate_builtin (b := .append) (xs := #[.tmp 66, .tmp 69]) rfl ?_); (try refine ug_ (by rfl) ?_); at_builtin; refine Kd.R_append_rows k62 (w0 := w) w.heap.size rfl (.tmp 66) (.tmp 69) 23 62 (.agg #[(.int .u64 0), (.int .i64 0)]) 16 rfl Try.underlying23 info62 rfl (by decide) (by omega) u8 x8_1 y571 _ _ _ (fun _ => True) (fun _ => False) rfl rfl ?aO ?aR (fun _ _ h => h) (fun _ h => h.elim) ?aF ?aB ?aS ?aL ?_; (case aR => exact cs_ HR574 HB); (case aB => exact (hq_ HB)); (case aF => exact (fun _ _ => trivial)); (case aO => exact (rs_ HO_8)); (case aS => exact (below_size (hq_ HB))); (case aL => have := LMc24.out; omega); intro v576 w26 ho hb hg hat; rw [← Ny575.out] at ho; have HO577 := Aside0.mk (ho); replace HB := Aside0.mk (hb); clear HO_8; clear ho hb hg hat)))
       go_ret2
       exact ⟨_, by first | rfl | (simp [errW_none, errW_some] <;> rfl) | (simp [*, errW_none, errW_some] <;> rfl), by (with_reducible repeat (first | apply Kd.R_alloc | apply Kd.R_drewN | apply Kd.R_drew)); exact HO577.out, by repeat (first | (with_reducible first | exact HB.out | apply below_alloc | apply pw_below_drewN | apply below_drew1) | exact HB.out)⟩
  ·rw [if_neg c6] at H
   have c6b0 : (t570 == 0) = false := beq_eq_false_iff_ne.mpr c6
   have c6b1 : (t570 != 0) = true := bne_iff_ne.mpr c6
   simp only [Option.some.injEq, Prod.mk.injEq] at H
   obtain ⟨rfl, rfl⟩ := H
   go_enter Try.func26, Try.ntmps26
   go_wp2_with (first | (go_at_call 19; (with_reducible refine (spigotref40_Charges.calls k _ _ l0 t569 _ ?side1 ?side2 A3.out).mono ?_); (case side1 => exact ch_ HR0); (case side2 => exact HC0.out); rintro e w' ⟨rfl, ⟨nd, rfl⟩⟩; (try first | exact ⟨rfl, _, World.drewN_drewN _ _ _⟩ | exact ⟨rfl, _, Eq.trans (World.drewN_drewN _ _ _) (congrArg (World.drewN _) (Nat.add_assoc _ _ _))⟩)) | (go_at_call 19; (with_reducible refine (spigotref40_Charges.calls k _ _ l1 t570 _ ?side1 ?side2 A5.out).mono ?_); (case side1 => exact ch_ HR1); (case side2 => exact HC1.out); rintro e w' ⟨rfl, ⟨nd, rfl⟩⟩; (try first | exact ⟨rfl, _, World.drewN_drewN _ _ _⟩ | exact ⟨rfl, _, Eq.trans (World.drewN_drewN _ _ _) (congrArg (World.drewN _) (Nat.add_assoc _ _ _))⟩)))
   repeat (go_quiet (first | (go_at_call 19; (with_reducible refine (spigotref40_Charges.calls k _ _ l0 t569 _ ?side1 ?side2 A3.out).mono ?_); (case side1 => exact ch_ HR0); (case side2 => exact HC0.out); rintro e w' ⟨rfl, ⟨nd, rfl⟩⟩; (try first | exact ⟨rfl, _, World.drewN_drewN _ _ _⟩ | exact ⟨rfl, _, Eq.trans (World.drewN_drewN _ _ _) (congrArg (World.drewN _) (Nat.add_assoc _ _ _))⟩)) | (go_at_call 19; (with_reducible refine (spigotref40_Charges.calls k _ _ l1 t570 _ ?side1 ?side2 A5.out).mono ?_); (case side1 => exact ch_ HR1); (case side2 => exact HC1.out); rintro e w' ⟨rfl, ⟨nd, rfl⟩⟩; (try first | exact ⟨rfl, _, World.drewN_drewN _ _ _⟩ | exact ⟨rfl, _, Eq.trans (World.drewN_drewN _ _ _) (congrArg (World.drewN _) (Nat.add_assoc _ _ _))⟩))); try go_wp2_with (first | (go_at_call 19; (with_reducible refine (spigotref40_Charges.calls k _ _ l0 t569 _ ?side1 ?side2 A3.out).mono ?_); (case side1 => exact ch_ HR0); (case side2 => exact HC0.out); rintro e w' ⟨rfl, ⟨nd, rfl⟩⟩; (try first | exact ⟨rfl, _, World.drewN_drewN _ _ _⟩ | exact ⟨rfl, _, Eq.trans (World.drewN_drewN _ _ _) (congrArg (World.drewN _) (Nat.add_assoc _ _ _))⟩)) | (go_at_call 19; (with_reducible refine (spigotref40_Charges.calls k _ _ l1 t570 _ ?side1 ?side2 A5.out).mono ?_); (case side1 => exact ch_ HR1); (case side2 => exact HC1.out); rintro e w' ⟨rfl, ⟨nd, rfl⟩⟩; (try first | exact ⟨rfl, _, World.drewN_drewN _ _ _⟩ | exact ⟨rfl, _, Eq.trans (World.drewN_drewN _ _ _) (congrArg (World.drewN _) (Nat.add_assoc _ _ _))⟩))))
   go_ret2
   exact ⟨_, by first | rfl | (simp [errW_none, errW_some] <;> rfl) | (simp [*, errW_none, errW_some] <;> rfl), by first | exact Kd.R_nil _ _ _ _ _ | exact Kd.N_nil _ _ _ _ _ | exact Kd.V_nil _ _ _ _ _ | exact Kd.Q_nil _ _ _ _ _ | exact Kd.S_nil _ _ _ _ _, by repeat (first | (with_reducible first | exact HB.out | apply below_alloc | apply pw_below_drewN | apply below_drew1) | exact HB.out)⟩
 ·rw [if_neg c4] at H
  have c4b0 : (t569 == 0) = false := beq_eq_false_iff_ne.mpr c4
  have c4b1 : (t569 != 0) = true := bne_iff_ne.mpr c4
  simp only [Option.some.injEq, Prod.mk.injEq] at H
  obtain ⟨rfl, rfl⟩ := H
  go_enter Try.func26, Try.ntmps26
  go_wp2_with (first | (go_at_call 19; (with_reducible refine (spigotref40_Charges.calls k _ _ l0 t569 _ ?side1 ?side2 A3.out).mono ?_); (case side1 => exact ch_ HR0); (case side2 => exact HC0.out); rintro e w' ⟨rfl, ⟨nd, rfl⟩⟩; (try first | exact ⟨rfl, _, World.drewN_drewN _ _ _⟩ | exact ⟨rfl, _, Eq.trans (World.drewN_drewN _ _ _) (congrArg (World.drewN _) (Nat.add_assoc _ _ _))⟩)))
  repeat (go_quiet (first | (go_at_call 19; (with_reducible refine (spigotref40_Charges.calls k _ _ l0 t569 _ ?side1 ?side2 A3.out).mono ?_); (case side1 => exact ch_ HR0); (case side2 => exact HC0.out); rintro e w' ⟨rfl, ⟨nd, rfl⟩⟩; (try first | exact ⟨rfl, _, World.drewN_drewN _ _ _⟩ | exact ⟨rfl, _, Eq.trans (World.drewN_drewN _ _ _) (congrArg (World.drewN _) (Nat.add_assoc _ _ _))⟩))); try go_wp2_with (first | (go_at_call 19; (with_reducible refine (spigotref40_Charges.calls k _ _ l0 t569 _ ?side1 ?side2 A3.out).mono ?_); (case side1 => exact ch_ HR0); (case side2 => exact HC0.out); rintro e w' ⟨rfl, ⟨nd, rfl⟩⟩; (try first | exact ⟨rfl, _, World.drewN_drewN _ _ _⟩ | exact ⟨rfl, _, Eq.trans (World.drewN_drewN _ _ _) (congrArg (World.drewN _) (Nat.add_assoc _ _ _))⟩))))
  go_ret2
  exact ⟨_, by first | rfl | (simp [errW_none, errW_some] <;> rfl) | (simp [*, errW_none, errW_some] <;> rfl), by first | exact Kd.R_nil _ _ _ _ _ | exact Kd.N_nil _ _ _ _ _ | exact Kd.V_nil _ _ _ _ _ | exact Kd.Q_nil _ _ _ _ _ | exact Kd.S_nil _ _ _ _ _, by repeat (first | (with_reducible first | exact HB.out | apply below_alloc | apply pw_below_drewN | apply below_drew1) | exact HB.out)⟩

end Go.Proofs.Ytimhghmfhfggoaa.X
