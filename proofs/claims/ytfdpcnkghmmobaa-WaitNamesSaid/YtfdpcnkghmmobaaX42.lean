-- written by xprint.py, a program of this session over the kit's print
import Derived.Test.YtfdpcnkghmmobaaX0
import Derived.Test.YtfdpcnkghmmobaaX22
import Derived.Test.YtfdpcnkghmmobaaX27
import Derived.Test.YtfdpcnkghmmobaaX41
namespace Go.Proofs.Ytfdpcnkghmmobaa.X
open Go.RowKit Go.Proofs.YtfdpcnkghmmobaaW.PrintWords Go.Proofs.YtfdpcnkghmmobaaW.PrintLast Go.Proofs.YtfdpcnkghmmobaaW.PrintMore
attribute [local go_sem] max2_int min2_int max_two min_two max_three min_three max_four min_four   -- for this text's walks alone
set_option linter.unusedVariables false
set_option linter.unusedSimpArgs false

/-! ### spigotref39_planned: function 39 -/
def spigotref39_planned.l0 : Nat → Int → List Int → List (S63) → List Int → Int → Option (List Int × (List (S63)))
  | 0, _, _, _, _, _ => none
  | k + 1, x1, x2, x8, x9, x10 => if x10 < (x2.length : Int) then (if 0 ≤ x10 then ((spigotref39_first.f k x8 x1 (rd x2 x10)).bind fun bt532 => (if bt532.2 = true then ((spigotref04_Take.f k x8 bt532.1 (rd x2 x10)).bind fun bt535 => (if x9.length < 17592186044416 then (spigotref39_planned.l0 k bt532.1 x2 bt535.1 (x9 ++ [bt532.1]) (wrap64 (x10 + 1))) else (none))) else (some (x9, x8)))) else (none)) else (some (x9, x8))
def spigotref39_planned.f (k : Nat) (l0 : List (S63)) (a1 : Int) (l2 : List Int) : Option (List Int × (List (S63))) := (some (([] : List (S63)) : List (S63))).bind fun y525 => (if y525.length + l0.length < 2932031007402 then (spigotref39_planned.l0 k a1 l2 (y525 ++ l0) ([] : List Int) 0) else (none))
theorem spigotref39_planned.mono_l : ∀ k, (∀ y0 y1 y2 y3 y4, LeO (spigotref39_planned.l0 k y0 y1 y2 y3 y4) (spigotref39_planned.l0 (k + 1) y0 y1 y2 y3 y4))
  | 0 => fun _ _ _ _ _ r h => by simp [spigotref39_planned.l0] at h
  | k + 1 => by
    have ih0 := spigotref39_planned.mono_l k
    · intro y0 y1 y2 y3 y4
      unfold spigotref39_planned.l0
      repeat' first
      | (with_reducible exact ih0 _ _ _ _ _)
      | (with_reducible exact spigotref04_Take.mono _ _ _ _)
      | (with_reducible exact spigotref39_first.mono _ _ _ _)
      | (with_reducible exact LeO.refl _)
      | (with_reducible exact LeO.none _)
      | (with_reducible refine LeO.ite ?_ ?_)
      | (with_reducible refine LeO.bind ?_ (fun _ => ?_))
      | exact ih0 _ _ _ _ _
      | exact spigotref04_Take.mono _ _ _ _
      | exact spigotref39_first.mono _ _ _ _
      | exact LeO.none _
      | refine LeO.ite ?_ ?_
      | refine LeO.bind ?_ (fun _ => ?_)
theorem spigotref39_planned.mono : ∀ a0 a1 a2 k, LeO (spigotref39_planned.f k a0 a1 a2) (spigotref39_planned.f (k + 1) a0 a1 a2) := by
  intro a0 a1 a2 k
  have ih0 := spigotref39_planned.mono_l k
  unfold spigotref39_planned.f
  repeat' first
      | (with_reducible exact ih0 _ _ _ _ _)
      | (with_reducible exact spigotref04_Take.mono _ _ _ _)
      | (with_reducible exact spigotref39_first.mono _ _ _ _)
      | (with_reducible exact LeO.refl _)
      | (with_reducible exact LeO.none _)
      | (with_reducible refine LeO.ite ?_ ?_)
      | (with_reducible refine LeO.bind ?_ (fun _ => ?_))
      | exact ih0 _ _ _ _ _
      | exact spigotref04_Take.mono _ _ _ _
      | exact spigotref39_first.mono _ _ _ _
      | exact LeO.none _
      | refine LeO.ite ?_ ?_
      | refine LeO.bind ?_ (fun _ => ?_)
set_option maxHeartbeats 8000000 in
set_option maxRecDepth 100000 in
theorem spigotref39_planned.calls (k : Nat) (A0 : Option Addr) (c0 : Nat) (l0 : List (S63)) (a1 : Int) (A2 : Option Addr) (c2 : Nat) (l2 : List Int) (r1 : List Int) (r2 : List (S63)) (w : World) (hr0 : Kd.C k63 w A0 l0.length l0) (hc0 : l0.length ≤ c0) (hr2 : Kd.C (Kd.int .i64) w A2 l2.length l2) (hc2 : l2.length ≤ c2) (h : spigotref39_planned.f k l0 a1 l2 = some (r1, r2)) :
  Calls Try.prog 39 #[.slice A0 l0.length c0, .int .u64 a1, .slice A2 l2.length c2] w fun e w' => ∃ v0_ v1_ : Value, e = .returned (.tuple #[v0_, v1_]) ∧ Kd.R (Kd.int .u64) 23 w' w.heap.size (fun _ => True) v0_ r1 ∧ Kd.R k63 63 w' w.heap.size (fun _ => True) v1_ r2 ∧ Below w.heap.size w w' := by
 have HR0 := Aside0.mk hr0
 have HC0 := Aside0.mk hc0
 clear hr0 hc0
 have HR2 := Aside0.mk hr2
 have HC2 := Aside0.mk hc2
 clear hr2 hc2
 have HB := Aside0.mk (Below.refl w.heap.size w)
 have H : ((some (([] : List (S63)) : List (S63))).bind fun y525 => (if y525.length + l0.length < 2932031007402 then (spigotref39_planned.l0 k a1 l2 (y525 ++ l0) ([] : List Int) 0) else (none))) = some (r1, r2) := h
 clear h
 obtain ⟨y525, hy525⟩ : ∃ y_ : List (S63), y_ = (([] : List (S63))) := ⟨_, rfl⟩
 replace H : (if y525.length + l0.length < 2932031007402 then (spigotref39_planned.l0 k a1 l2 (y525 ++ l0) ([] : List Int) 0) else (none)) = some (r1, r2) := by first | (rw [hy525]; with_reducible exact H) | (have H2_ := (Option.bind_some _ _).symm.trans H; rw [hy525]; with_reducible exact H2_) | (have H2_ := (Option.bind_some _ _).symm.trans H; with_reducible exact H2_) | with_reducible exact H | (rw [hy525]; exact H) | exact H
 have Ny525 := Aside0.mk hy525
 clear hy525
 by_cases c4 : y525.length + l0.length < 2932031007402
 rotate_left
 ·rw [if_neg c4] at H; exact absurd H (by simp)
 rw [if_pos c4] at H
 have LMc4 := Aside0.mk c4
 clear c4
 obtain ⟨y528, hy528⟩ : ∃ y_ : List (S63), y_ = (y525 ++ l0) := ⟨_, rfl⟩
 replace H : (spigotref39_planned.l0 k a1 l2 y528 ([] : List Int) 0) = some (r1, r2) := by first | (rw [hy528]; with_reducible exact H) | (have H2_ := (Option.bind_some _ _).symm.trans H; rw [hy528]; with_reducible exact H2_) | (have H2_ := (Option.bind_some _ _).symm.trans H; with_reducible exact H2_) | with_reducible exact H | (rw [hy528]; exact H) | exact H
 have Ny528 := Aside0.mk hy528
 clear hy528
 have H' := Aside0.mk H
 clear H
 go_enter Try.func39, Try.ntmps39
 go_wp2_with (first | ((with_reducible refine gate_dst (N := 13) rfl ?_); refine Kd.R_lit k63 _ 63 ?hg (N := 13) ?hd (xs := ([] : List (S63))) (inner := []) (ok := fun _ => True) (okp := fun _ => True) ?hr ?hp (fun _ hk => hk) trivial (Below.refl _ _) (Nat.le_refl _) (by simp) ?_; (case hd => rfl); (case hg => rfl); (case hr => first | (go_simp; done) | (go_simp; rfl)); (case hp => exact (Reps.none _ _)); intro v526 w5 ho6 hb hg_ hnew_; clear hg_ hnew_; (first | rw [← Ny525.out] at ho6 | (simp only [Int.reduceToNat] at ho6; rw [← Ny525.out] at ho6)); have HO527 := Aside0.mk (Kd.R_lower ho6 (below_size (hq_ HB))); replace HB := bs_ w hb; clear hb ho6) | ((with_reducible refine gate_builtin (b := .append) (xs := #[.tmp 13, .tmp 14]) rfl ?_); at_builtin; refine Kd.R_append_rows k63 (w0 := w) w.heap.size rfl (.tmp 13) (.tmp 14) 22 63 (.agg #[(.int .i64 0), (.int .i64 0), (.int .i64 0), (.int .i64 0), (.int .i64 0), (.int .u64 0)]) 48 rfl Try.underlying22 info63 rfl (by decide) (by omega) v526 y525 l0 _ _ _ (fun _ => True) (fun _ => False) rfl rfl ?aO ?aR (fun _ _ h => h) (fun _ h => h.elim) ?aF ?aB ?aS ?aL ?_; (case aR => exact cs_ HR0 HB); (case aB => exact (hq_ HB)); (case aF => exact (fun _ _ => trivial)); (case aO => exact (rs_ HO527)); (case aS => exact (below_size (hq_ HB))); (case aL => have := LMc4.out; omega); intro v529 w7 ho hb hg hat; rw [← Ny528.out] at ho; have HO530 := Aside0.mk (ho); replace HB := Aside0.mk (hb); clear HO527; clear ho hb hg hat))
 go_loopg [1, 8, 9, 10] k (fun kq v1 v8 v9 v10 w' => ∃ (x1_1 : Int) (x8_1 : List (S63)) (x9_1 : List Int) (x10_1 : Int), v1 = .int .u64 x1_1 ∧ v10 = .int .i64 x10_1 ∧ Aside0 (spigotref39_planned.l0 kq x1_1 l2 x8_1 x9_1 x10_1 = some (r1, r2)) ∧ Aside0 (kq ≤ k) ∧ Aside0 (Kd.R k63 63 w' w.heap.size (fun _ => True) v8 x8_1) ∧ Aside0 (Kd.R (Kd.int .u64) 23 w' w.heap.size (fun _ => True) v9 x9_1) ∧ Aside0 (Below w.heap.size w w'))
 case atStart => exact ⟨(a1), (y528), (([] : List Int)), (0), rf_, rf_, H', ⟨Nat.le_refl _⟩, ⟨rs_ HO530⟩, ⟨by first | exact Kd.R_nil _ _ _ _ _ | exact Kd.N_nil _ _ _ _ _ | exact Kd.V_nil _ _ _ _ _ | exact Kd.Q_nil _ _ _ _ _ | exact Kd.S_nil _ _ _ _ _⟩, bw_⟩
 case round =>
  clear H'
  try clear c2
  try clear c4
  obtain ⟨x1_1, x8_1, x9_1, x10_1, rfl, rfl, HA, HK1, HO_8, HO_9, HB⟩ := hrel
  cases gk with
  | zero => exact absurd HA.out (by simp [spigotref39_planned.l0])
  | succ k1 =>
   have H := HA.out
   clear HA
   simp only [spigotref39_planned.l0] at H
   by_cases c8 : x10_1 < (l2.length : Int)
   ·rw [if_pos c8] at H
    have c8b0 : decide (x10_1 < (l2.length : Int)) = true := decide_eq_true c8
    clear c8
    by_cases c9 : 0 ≤ x10_1
    rotate_left
    ·rw [if_neg c9] at H; exact absurd H (by simp)
    rw [if_pos c9] at H
    have c9b0 : decide (0 ≤ x10_1) = true := decide_eq_true c9
    clear c9
    have H0_ := bo_ H; clear H; obtain ⟨⟨t532, t533⟩, A10, H⟩ := H0_
    try dsimp only at H
    by_cases c11 : t533 = true
    ·subst c11
     rw [if_pos rfl] at H
     try dsimp only at H
     have H0_ := bo_ H; clear H; obtain ⟨⟨t535, t536, t537⟩, A12, H⟩ := H0_
     replace H : (if x9_1.length < 17592186044416 then (spigotref39_planned.l0 k1 t532 l2 t535 (x9_1 ++ [t532]) (wrap64 (x10_1 + 1))) else (none)) = some (r1, r2) := H
     by_cases c13 : x9_1.length < 17592186044416
     rotate_left
     ·rw [if_neg c13] at H; exact absurd H (by simp)
     rw [if_pos c13] at H
     have LMc13 := Aside0.mk c13
     clear c13
     obtain ⟨y540, hy540⟩ : ∃ y_ : List Int, y_ = (x9_1 ++ [t532]) := ⟨_, rfl⟩
     replace H : (spigotref39_planned.l0 k1 t532 l2 t535 y540 (wrap64 (x10_1 + 1))) = some (r1, r2) := by first | (rw [hy540]; with_reducible exact H) | (have H2_ := (Option.bind_some _ _).symm.trans H; rw [hy540]; with_reducible exact H2_) | (have H2_ := (Option.bind_some _ _).symm.trans H; with_reducible exact H2_) | with_reducible exact H | (rw [hy540]; exact H) | exact H
     have Ny540 := Aside0.mk hy540
     clear hy540
     have H' := Aside0.mk H
     clear H
     have p531 : 0 ≤ (x10_1 : Int) := of_decide_eq_true (by first | (with_reducible assumption) | assumption)
     have q531 : x10_1 < (l2.length : Int) := of_decide_eq_true (by first | (with_reducible assumption) | assumption)
     obtain ⟨ad531, e531, hx531_0⟩ := Kd.at_int HR2.out x10_1 p531 q531
     cases e531
     replace hx531_0 := (HB.out.cell (World.block_lt_of_cell? w _ hx531_0)).trans hx531_0
     replace p531 := eq_true p531
     replace q531 := eq_true q531
     obtain ⟨Ao14, co14, eo14⟩ := Kd.R_slice HO_8.out
     subst eo14
     go_wp2_with (first | ((with_reducible refine gate_callee (f := 38) rfl ?_); refine goesA_ (some 29) Try.func38 #[.slice Ao14 x8_1.length co14, .int .u64 x1_1, .int .i64 (rd l2 x10_1)] ?_; (with_reducible refine (spigotref39_first.calls k1 _ _ x8_1 x1_1 (rd l2 x10_1) t532 true _ ?side1 ?side2 A10.out).mono ?_); (case side1 => exact cr_ HO_8); (case side2 => exact (Kd.R_reads' HO_8.out).2.1); rintro e w15 ⟨rfl, hb⟩; refine ⟨_, rfl, ?_⟩; replace HO_8 := rb_ HO_8 hb; replace HO_9 := rb_ HO_9 hb; replace HB := bs_ w hb; clear hb; have p534 : 0 ≤ (x10_1 : Int) := of_decide_eq_true (by first | (with_reducible assumption) | assumption); have q534 : x10_1 < (l2.length : Int) := of_decide_eq_true (by first | (with_reducible assumption) | assumption); obtain ⟨ad534, e534, hx534_0⟩ := Kd.at_int HR2.out x10_1 p534 q534; obtain rfl : ad531 = ad534 := (by injection e534); replace hx534_0 := (HB.out.cell (World.block_lt_of_cell? w _ hx534_0)).trans hx534_0; replace p534 := eq_true p534; replace q534 := eq_true q534) | ((with_reducible refine gate_callee (f := 34) rfl ?_); refine goesA_ (some 43) Try.func34 #[.slice Ao14 x8_1.length co14, .int .u64 t532, .int .i64 (rd l2 x10_1)] ?_; (with_reducible refine (spigotref04_Take.calls k1 _ _ x8_1 t532 (rd l2 x10_1) t535 t536 t537 _ ?side1 ?side2 A12.out).mono ?_); (case side1 => exact cr_ HO_8); (case side2 => exact (Kd.R_reads' HO_8.out).2.1); rintro e w16 ⟨v538, rfl, ho0, hb⟩; refine ⟨_, rfl, ?_⟩; have HO539 := Aside0.mk (Kd.R_lower (Kd.R_new' ho0 (Kd.R_lt (rs_ HO_8))) (below_size (hq_ HB))); replace HO_8 := Aside0.mk (Kd.R_elder' (rs_ HO_8) (Kd.R_base ho0) hb); replace HO_9 := rb_ HO_9 hb; replace HB := bs_ w hb; (try clear hb); (try clear hb2); (try clear hk); (try clear hi); (try clear ho0)) | ((with_reducible refine gate_builtin (b := .append) (xs := #[.tmp 47, .tmp 49]) rfl ?_); at_builtin; refine Kd.R_append (Kd.int .u64) (w0 := w) w.heap.size rfl (.tmp 47) (.tmp 49) 25 23 (.int .u64 0) 8 rfl Try.underlying25 info23 rfl (by decide) (by omega) u9 x9_1 t532 [.int .u64 t532] (fun _ => True) (fun _ => False) rfl rfl ?aP (fun _ hk => hk.elim) ?aF ?aO ?aB ?aS ?aL ?_; (case aP => exact rfl); (case aB => exact (hq_ HB)); (case aF => exact (fun _ _ => trivial)); (case aO => exact (rs_ HO_9)); (case aS => exact (below_size (hq_ HB))); (case aL => have := LMc13.out; omega); intro v541 w17 ho hb hg hat; rw [← Ny540.out] at ho; have HO542 := Aside0.mk (ho); replace HO_8 := Aside0.mk (Kd.R_over' (rs_ HO_8) (Kd.R_typed (rs_ HO_9)) (by decide) hg); replace HO539 := Aside0.mk (Kd.R_over' (rs_ HO539) (Kd.R_typed (rs_ HO_9)) (by decide) hg); replace HB := Aside0.mk (hb); clear HO_9; clear ho hb hg hat))
     go_roundg k1
     case measure => have := HK1.out; omega
     case rel => exact ⟨(t532), (t535), (y540), (wrap64 (x10_1 + 1)), rf_, rf_, H', ⟨by have := HK1.out; omega⟩, ⟨by (with_reducible repeat (first | apply Kd.R_alloc | apply Kd.R_drewN | apply Kd.R_drew)); exact Kd.R_mono HO539.out (fun _ hk => trivial)⟩, ⟨rs_ HO542⟩, bw_⟩
    ·replace c11 := Bool.eq_false_iff.mpr c11
     subst c11
     replace H : (some (x9_1, x8_1)) = some (r1, r2) := by rw [if_neg (show ¬ (false = true) by decide)] at H; exact H
     simp only [Option.some.injEq, Prod.mk.injEq] at H
     obtain ⟨rfl, rfl⟩ := H
     have p531 : 0 ≤ (x10_1 : Int) := of_decide_eq_true (by first | (with_reducible assumption) | assumption)
     have q531 : x10_1 < (l2.length : Int) := of_decide_eq_true (by first | (with_reducible assumption) | assumption)
     obtain ⟨ad531, e531, hx531_0⟩ := Kd.at_int HR2.out x10_1 p531 q531
     cases e531
     replace hx531_0 := (HB.out.cell (World.block_lt_of_cell? w _ hx531_0)).trans hx531_0
     replace p531 := eq_true p531
     replace q531 := eq_true q531
     obtain ⟨Ao18, co18, eo18⟩ := Kd.R_slice HO_8.out
     subst eo18
     go_wp2_with (first | ((with_reducible refine gate_callee (f := 38) rfl ?_); refine goesA_ (some 29) Try.func38 #[.slice Ao18 x8_1.length co18, .int .u64 x1_1, .int .i64 (rd l2 x10_1)] ?_; (with_reducible refine (spigotref39_first.calls k1 _ _ x8_1 x1_1 (rd l2 x10_1) t532 false _ ?side1 ?side2 A10.out).mono ?_); (case side1 => exact cr_ HO_8); (case side2 => exact (Kd.R_reads' HO_8.out).2.1); rintro e w19 ⟨rfl, hb⟩; refine ⟨_, rfl, ?_⟩; replace HO_8 := rb_ HO_8 hb; replace HO_9 := rb_ HO_9 hb; replace HB := bs_ w hb; clear hb))
     go_ret2
     exact ⟨_, _, by first | rfl | (simp [errW_none, errW_some] <;> rfl) | (simp [*, errW_none, errW_some] <;> rfl), by (with_reducible repeat (first | apply Kd.R_alloc | apply Kd.R_drewN | apply Kd.R_drew)); exact HO_9.out, by (with_reducible repeat (first | apply Kd.R_alloc | apply Kd.R_drewN | apply Kd.R_drew)); exact HO_8.out, by repeat (first | (with_reducible first | exact HB.out | apply below_alloc | apply pw_below_drewN | apply below_drew1) | exact HB.out)⟩
   ·rw [if_neg c8] at H
    have c8b0 : decide (x10_1 < (l2.length : Int)) = false := decide_eq_false c8
    clear c8
    simp only [Option.some.injEq, Prod.mk.injEq] at H
    obtain ⟨rfl, rfl⟩ := H
    go_wp2
    go_ret2
    exact ⟨_, _, by first | rfl | (simp [errW_none, errW_some] <;> rfl) | (simp [*, errW_none, errW_some] <;> rfl), by (with_reducible repeat (first | apply Kd.R_alloc | apply Kd.R_drewN | apply Kd.R_drew)); exact HO_9.out, by (with_reducible repeat (first | apply Kd.R_alloc | apply Kd.R_drewN | apply Kd.R_drew)); exact HO_8.out, by repeat (first | (with_reducible first | exact HB.out | apply below_alloc | apply pw_below_drewN | apply below_drew1) | exact HB.out)⟩

/-! ### spigotref39_Plan: function 18 -/
def spigotref39_Plan.f (k : Nat) (l0 : List (S63)) (a1 : Int) (l2 : List Int) : Option (List Int × (List (S63)) × Int) := (spigotref39_Both.f k l0 l2).bind fun t543 => (if t543 = 0 then ((spigotref39_planned.f k l0 a1 l2).bind fun bt544 => (if (bt544.1.length : Int) < (l2.length : Int) then (some (([] : List Int), ([] : List (S63)), 6)) else (some (bt544.1, bt544.2, 0)))) else (some (([] : List Int), ([] : List (S63)), t543)))
theorem spigotref39_Plan.mono : ∀ a0 a1 a2 k, LeO (spigotref39_Plan.f k a0 a1 a2) (spigotref39_Plan.f (k + 1) a0 a1 a2) := by
  intro a0 a1 a2 k
  unfold spigotref39_Plan.f
  repeat' first
      | (with_reducible exact spigotref39_Both.mono _ _ _)
      | (with_reducible exact spigotref39_planned.mono _ _ _ _)
      | (with_reducible exact LeO.refl _)
      | (with_reducible exact LeO.none _)
      | (with_reducible refine LeO.ite ?_ ?_)
      | (with_reducible refine LeO.bind ?_ (fun _ => ?_))
      | exact spigotref39_Both.mono _ _ _
      | exact spigotref39_planned.mono _ _ _ _
      | exact LeO.none _
      | refine LeO.ite ?_ ?_
      | refine LeO.bind ?_ (fun _ => ?_)
set_option maxHeartbeats 8000000 in
set_option maxRecDepth 100000 in
theorem spigotref39_Plan.calls (k : Nat) (A0 : Option Addr) (c0 : Nat) (l0 : List (S63)) (a1 : Int) (A2 : Option Addr) (c2 : Nat) (l2 : List Int) (r1 : List Int) (r2 : List (S63)) (r3 : Int) (w : World) (hr0 : Kd.C k63 w A0 l0.length l0) (hc0 : l0.length ≤ c0) (hr2 : Kd.C (Kd.int .i64) w A2 l2.length l2) (hc2 : l2.length ≤ c2) (h : spigotref39_Plan.f k l0 a1 l2 = some (r1, r2, r3)) :
  Calls Try.prog 18 #[.slice A0 l0.length c0, .int .u64 a1, .slice A2 l2.length c2] w fun e w' => ∃ v0_ v1_ : Value, e = .returned (.tuple #[v0_, v1_, .int .i64 r3]) ∧ Kd.R (Kd.int .u64) 23 w' w.heap.size (fun _ => True) v0_ r1 ∧ Kd.R k63 63 w' w.heap.size (fun _ => True) v1_ r2 ∧ Below w.heap.size w w' := by
 have HR0 := Aside0.mk hr0
 have HC0 := Aside0.mk hc0
 clear hr0 hc0
 have HR2 := Aside0.mk hr2
 have HC2 := Aside0.mk hc2
 clear hr2 hc2
 have HB := Aside0.mk (Below.refl w.heap.size w)
 have H : ((spigotref39_Both.f k l0 l2).bind fun t543 => (if t543 = 0 then ((spigotref39_planned.f k l0 a1 l2).bind fun bt544 => (if (bt544.1.length : Int) < (l2.length : Int) then (some (([] : List Int), ([] : List (S63)), 6)) else (some (bt544.1, bt544.2, 0)))) else (some (([] : List Int), ([] : List (S63)), t543)))) = some (r1, r2, r3) := h
 clear h
 have H0_ := bo_ H; clear H; obtain ⟨t543, A4, H⟩ := H0_
 try dsimp only at H
 by_cases c5 : t543 = 0
 ·rw [if_pos c5] at H
  have c5b0 : (t543 == 0) = true := beq_iff_eq.mpr c5
  have c5b1 : (t543 != 0) = false := bne_eq_false_iff_eq.mpr c5
  clear c5
  have H0_ := bo_ H; clear H; obtain ⟨⟨t544, t545⟩, A6, H⟩ := H0_
  replace H : (if (t544.length : Int) < (l2.length : Int) then (some (([] : List Int), ([] : List (S63)), 6)) else (some (t544, t545, 0))) = some (r1, r2, r3) := H
  by_cases c7 : (t544.length : Int) < (l2.length : Int)
  ·rw [if_pos c7] at H
   have c7b0 : decide ((t544.length : Int) < (l2.length : Int)) = true := decide_eq_true c7
   have c7b1 : decide (t544.length < l2.length) = true := decide_eq_true (Int.ofNat_lt.mp c7)
   clear c7
   simp only [Option.some.injEq, Prod.mk.injEq] at H
   obtain ⟨rfl, rfl, rfl⟩ := H
   go_enter Try.func18, Try.ntmps18
   go_wp2_with (first | ((with_reducible refine gate_callee (f := 33) rfl ?_); refine goesA_ (some 14) Try.func33 #[.slice A0 l0.length c0, .slice A2 l2.length c2] ?_; (with_reducible refine (spigotref39_Both.calls k _ _ l0 _ _ l2 t543 _ ?side1 ?side2 ?side3 ?side4 A4.out).mono ?_); (case side1 => exact ch_ HR0); (case side2 => exact HC0.out); (case side3 => exact ch_ HR2); (case side4 => exact HC2.out); rintro e w8 ⟨rfl, hb⟩; refine ⟨_, rfl, ?_⟩; replace HB := bs_ w hb; clear hb) | ((with_reducible refine gate_callee (f := 39) rfl ?_); refine goesA_ (some 22) Try.func39 #[.slice A0 l0.length c0, .int .u64 a1, .slice A2 l2.length c2] ?_; (with_reducible refine (spigotref39_planned.calls k _ _ l0 a1 _ _ l2 t544 t545 _ ?side1 ?side2 ?side3 ?side4 A6.out).mono ?_); (case side1 => exact cs_ HR0 HB); (case side2 => exact HC0.out); (case side3 => exact cs_ HR2 HB); (case side4 => exact HC2.out); rintro e w9 ⟨v546, v548, rfl, ho0, ho1, hb⟩; refine ⟨_, rfl, ?_⟩; have HO547 := Aside0.mk (Kd.R_lower ho0 (below_size (hq_ HB))); have HO549 := Aside0.mk (Kd.R_lower ho1 (below_size (hq_ HB))); replace HB := bs_ w hb; clear hb; (try clear ho0); (try clear ho1); obtain ⟨Ao10, co10, eo10⟩ := Kd.R_slice HO547.out; subst eo10))
   go_ret3
   exact ⟨_, _, by first | rfl | (simp [errW_none, errW_some] <;> rfl) | (simp [*, errW_none, errW_some] <;> rfl), by first | exact Kd.R_nil _ _ _ _ _ | exact Kd.N_nil _ _ _ _ _ | exact Kd.V_nil _ _ _ _ _ | exact Kd.Q_nil _ _ _ _ _ | exact Kd.S_nil _ _ _ _ _, by first | exact Kd.R_nil _ _ _ _ _ | exact Kd.N_nil _ _ _ _ _ | exact Kd.V_nil _ _ _ _ _ | exact Kd.Q_nil _ _ _ _ _ | exact Kd.S_nil _ _ _ _ _, by repeat (first | (with_reducible first | exact HB.out | apply below_alloc | apply pw_below_drewN | apply below_drew1) | exact HB.out)⟩
  ·rw [if_neg c7] at H
   have c7b0 : decide ((t544.length : Int) < (l2.length : Int)) = false := decide_eq_false c7
   have c7b1 : decide (t544.length < l2.length) = false := decide_eq_false (fun h => c7 (Int.ofNat_lt.mpr h))
   clear c7
   simp only [Option.some.injEq, Prod.mk.injEq] at H
   obtain ⟨rfl, rfl, rfl⟩ := H
   go_enter Try.func18, Try.ntmps18
   go_wp2_with (first | ((with_reducible refine gate_callee (f := 33) rfl ?_); refine goesA_ (some 14) Try.func33 #[.slice A0 l0.length c0, .slice A2 l2.length c2] ?_; (with_reducible refine (spigotref39_Both.calls k _ _ l0 _ _ l2 t543 _ ?side1 ?side2 ?side3 ?side4 A4.out).mono ?_); (case side1 => exact ch_ HR0); (case side2 => exact HC0.out); (case side3 => exact ch_ HR2); (case side4 => exact HC2.out); rintro e w11 ⟨rfl, hb⟩; refine ⟨_, rfl, ?_⟩; replace HB := bs_ w hb; clear hb) | ((with_reducible refine gate_callee (f := 39) rfl ?_); refine goesA_ (some 22) Try.func39 #[.slice A0 l0.length c0, .int .u64 a1, .slice A2 l2.length c2] ?_; (with_reducible refine (spigotref39_planned.calls k _ _ l0 a1 _ _ l2 t544 t545 _ ?side1 ?side2 ?side3 ?side4 A6.out).mono ?_); (case side1 => exact cs_ HR0 HB); (case side2 => exact HC0.out); (case side3 => exact cs_ HR2 HB); (case side4 => exact HC2.out); rintro e w12 ⟨v546, v548, rfl, ho0, ho1, hb⟩; refine ⟨_, rfl, ?_⟩; have HO547 := Aside0.mk (Kd.R_lower ho0 (below_size (hq_ HB))); have HO549 := Aside0.mk (Kd.R_lower ho1 (below_size (hq_ HB))); replace HB := bs_ w hb; clear hb; (try clear ho0); (try clear ho1); obtain ⟨Ao13, co13, eo13⟩ := Kd.R_slice HO547.out; subst eo13))
   go_ret3
   exact ⟨_, _, by first | rfl | (simp [errW_none, errW_some] <;> rfl) | (simp [*, errW_none, errW_some] <;> rfl), by (with_reducible repeat (first | apply Kd.R_alloc | apply Kd.R_drewN | apply Kd.R_drew)); exact HO547.out, by (with_reducible repeat (first | apply Kd.R_alloc | apply Kd.R_drewN | apply Kd.R_drew)); exact HO549.out, by repeat (first | (with_reducible first | exact HB.out | apply below_alloc | apply pw_below_drewN | apply below_drew1) | exact HB.out)⟩
 ·rw [if_neg c5] at H
  have c5b0 : (t543 == 0) = false := beq_eq_false_iff_ne.mpr c5
  have c5b1 : (t543 != 0) = true := bne_iff_ne.mpr c5
  simp only [Option.some.injEq, Prod.mk.injEq] at H
  obtain ⟨rfl, rfl, rfl⟩ := H
  go_enter Try.func18, Try.ntmps18
  go_wp2_with (first | ((with_reducible refine gate_callee (f := 33) rfl ?_); refine goesA_ (some 14) Try.func33 #[.slice A0 l0.length c0, .slice A2 l2.length c2] ?_; (with_reducible refine (spigotref39_Both.calls k _ _ l0 _ _ l2 t543 _ ?side1 ?side2 ?side3 ?side4 A4.out).mono ?_); (case side1 => exact ch_ HR0); (case side2 => exact HC0.out); (case side3 => exact ch_ HR2); (case side4 => exact HC2.out); rintro e w14 ⟨rfl, hb⟩; refine ⟨_, rfl, ?_⟩; replace HB := bs_ w hb; clear hb))
  go_ret3
  exact ⟨_, _, by first | rfl | (simp [errW_none, errW_some] <;> rfl) | (simp [*, errW_none, errW_some] <;> rfl), by first | exact Kd.R_nil _ _ _ _ _ | exact Kd.N_nil _ _ _ _ _ | exact Kd.V_nil _ _ _ _ _ | exact Kd.Q_nil _ _ _ _ _ | exact Kd.S_nil _ _ _ _ _, by first | exact Kd.R_nil _ _ _ _ _ | exact Kd.N_nil _ _ _ _ _ | exact Kd.V_nil _ _ _ _ _ | exact Kd.Q_nil _ _ _ _ _ | exact Kd.S_nil _ _ _ _ _, by repeat (first | (with_reducible first | exact HB.out | apply below_alloc | apply pw_below_drewN | apply below_drew1) | exact HB.out)⟩

end Go.Proofs.Ytfdpcnkghmmobaa.X
