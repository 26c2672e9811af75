-- written by xprint.py, a program of this session over the kit's print
import Derived.Test.YtimhghmfhfggoaaX0
import Derived.Test.YtimhghmfhfggoaaX1
import Derived.Test.YtimhghmfhfggoaaX10
namespace Go.Proofs.Ytimhghmfhfggoaa.X
open Go.RowKit Go.Proofs.YtimhghmfhfggoaaW.PrintWords Go.Proofs.YtimhghmfhfggoaaW.PrintLast Go.Proofs.YtimhghmfhfggoaaW.PrintMore
attribute [local go_sem] max2_int min2_int max_two min_two max_three min_three max_four min_four   -- for this text's walks alone
set_option linter.unusedVariables false
set_option linter.unusedSimpArgs false

attribute [local go_sem high] eqA62
def spigotref40_Same.l0 : Nat → List (S62) → List (S62) → Int → Option (Bool)
  | 0, _, _, _ => none
  | k + 1, x0, x1, x5 => if x5 < (x0.length : Int) then (if 0 ≤ x5 then (if x5 < (x1.length : Int) then (if (!(((rd_T62 x0 x5).f0) == ((rd_T62 x1 x5).f0)) || (!(((rd_T62 x0 x5).f1) == ((rd_T62 x1 x5).f1)))) = true then (some false) else (spigotref40_Same.l0 k x0 x1 (wrap64 (x5 + 1)))) else (none)) else (none)) else (some true)
def spigotref40_Same.f (k : Nat) (l0 : List (S62)) (l1 : List (S62)) : Option (Bool) := if (l0.length : Int) = (l1.length : Int) then (spigotref40_Same.l0 k l0 l1 0) else (some false)
set_option maxHeartbeats 8000000 in
set_option maxRecDepth 100000 in
theorem spigotref40_Same.calls (k : Nat) (A0 : Option Addr) (c0 : Nat) (l0 : List (S62)) (A1 : Option Addr) (c1 : Nat) (l1 : List (S62)) (r : Bool) (w : World) (hr0 : Kd.C k62 w A0 l0.length l0) (hc0 : l0.length ≤ c0) (hr1 : Kd.C k62 w A1 l1.length l1) (hc1 : l1.length ≤ c1) (h : spigotref40_Same.f k l0 l1 = some r) :
  Calls Try.prog 22 #[.slice A0 l0.length c0, .slice A1 l1.length c1] w fun e w' => e = .returned (.bool r) ∧ Drawn0 w w' := by
 have hu62 := Try.underlying62
 have HR0 := Aside0.mk hr0
 have HC0 := Aside0.mk hc0
 clear hr0 hc0
 have HR1 := Aside0.mk hr1
 have HC1 := Aside0.mk hc1
 clear hr1 hc1
 have H : (if (l0.length : Int) = (l1.length : Int) then (spigotref40_Same.l0 k l0 l1 0) else (some false)) = some r := h
 clear h
 by_cases c3 : (l0.length : Int) = (l1.length : Int)
 ·rw [if_pos c3] at H
  have c3b0 : ((l0.length : Int) == (l1.length : Int)) = true := beq_iff_eq.mpr c3
  have c3b1 : ((l0.length : Int) != (l1.length : Int)) = false := bne_eq_false_iff_eq.mpr c3
  have c3b2 : (l0.length == l1.length) = true := by first | simpa using c3 | (simp at c3 ⊢; omega)
  clear c3
  have H' := Aside0.mk H
  clear H
  go_enter Try.func22, Try.ntmps22
  go_wp2
  repeat (go_quiet (fail); try go_wp2)
  go_loopg [5] k (fun kq v5 w' => ∃ (x5_1 : Int), v5 = .int .i64 x5_1 ∧ Aside0 (spigotref40_Same.l0 kq l0 l1 x5_1 = some r) ∧ Aside0 (kq ≤ k) ∧ Drawn0 w w')
  case atStart => exact ⟨(0), rf_, H', ⟨Nat.le_refl _⟩, by repeat (first | exact Drawn0.refl _ | apply Drawn0.step)⟩
  case round =>
   clear H'
   try clear c1
   try clear c3
   try clear c3b0
   try clear c3b1
   try clear c3b2
   obtain ⟨x5_1, rfl, HA, HK1, ⟨m1, rfl⟩⟩ := hrel
   cases gk with
   | zero => exact absurd HA.out (by simp [spigotref40_Same.l0])
   | succ k1 =>
    have H := HA.out
    clear HA
    simp only [spigotref40_Same.l0] at H
    by_cases c4 : x5_1 < (l0.length : Int)
    ·rw [if_pos c4] at H
     have c4b0 : decide (x5_1 < (l0.length : Int)) = true := decide_eq_true c4
     clear c4
     by_cases c5 : 0 ≤ x5_1
     rotate_left
     ·rw [if_neg c5] at H; exact absurd H (by simp)
     rw [if_pos c5] at H
     have c5b0 : decide (0 ≤ x5_1) = true := decide_eq_true c5
     clear c5
     by_cases c6 : x5_1 < (l1.length : Int)
     rotate_left
     ·rw [if_neg c6] at H; exact absurd H (by simp)
     rw [if_pos c6] at H
     have c6b0 : decide (x5_1 < (l1.length : Int)) = true := decide_eq_true c6
     clear c6
     by_cases c7 : (!(((rd_T62 l0 x5_1).f0) == ((rd_T62 l1 x5_1).f0)) || (!(((rd_T62 l0 x5_1).f1) == ((rd_T62 l1 x5_1).f1)))) = true
     ·rw [if_pos c7] at H
      have c7b0 : (!(((rd_T62 l0 x5_1).f0) == ((rd_T62 l1 x5_1).f0)) || (!(((rd_T62 l0 x5_1).f1) == ((rd_T62 l1 x5_1).f1)))) = true := c7
      clear c7
      obtain rfl := Option.some.inj H
      have p319 : 0 ≤ (x5_1 : Int) := of_decide_eq_true (by first | (with_reducible assumption) | assumption)
      have q319 : x5_1 < (l0.length : Int) := of_decide_eq_true (by first | (with_reducible assumption) | assumption)
      obtain ⟨ad319, e319, hx319_0, hx319_1⟩ := at_T62 HR0.out x5_1 p319 q319
      cases e319
      replace p319 := eq_true p319
      replace q319 := eq_true q319
      have p320 : 0 ≤ (x5_1 : Int) := of_decide_eq_true (by first | (with_reducible assumption) | assumption)
      have q320 : x5_1 < (l1.length : Int) := of_decide_eq_true (by first | (with_reducible assumption) | assumption)
      obtain ⟨ad320, e320, hx320_0, hx320_1⟩ := at_T62 HR1.out x5_1 p320 q320
      cases e320
      replace p320 := eq_true p320
      replace q320 := eq_true q320
      go_wp2
      repeat (go_quiet (fail); try go_wp2)
      go_ret
      exact ⟨by first | rfl | (simp; done) | (simp [*]; done), by repeat (first | exact Drawn0.refl _ | apply Drawn0.step)⟩
     ·rw [if_neg c7] at H
      have c7b0 : (!(((rd_T62 l0 x5_1).f0) == ((rd_T62 l1 x5_1).f0)) || (!(((rd_T62 l0 x5_1).f1) == ((rd_T62 l1 x5_1).f1)))) = false := by simpa using c7
      clear c7
      have H' := Aside0.mk H
      clear H
      have p319 : 0 ≤ (x5_1 : Int) := of_decide_eq_true (by first | (with_reducible assumption) | assumption)
      have q319 : x5_1 < (l0.length : Int) := of_decide_eq_true (by first | (with_reducible assumption) | assumption)
      obtain ⟨ad319, e319, hx319_0, hx319_1⟩ := at_T62 HR0.out x5_1 p319 q319
      cases e319
      replace p319 := eq_true p319
      replace q319 := eq_true q319
      have p320 : 0 ≤ (x5_1 : Int) := of_decide_eq_true (by first | (with_reducible assumption) | assumption)
      have q320 : x5_1 < (l1.length : Int) := of_decide_eq_true (by first | (with_reducible assumption) | assumption)
      obtain ⟨ad320, e320, hx320_0, hx320_1⟩ := at_T62 HR1.out x5_1 p320 q320
      cases e320
      replace p320 := eq_true p320
      replace q320 := eq_true q320
      go_wp2
      repeat (go_quiet (fail); try go_wp2)
      go_roundg k1
      case measure => have := HK1.out; omega
      case rel => exact ⟨(wrap64 (x5_1 + 1)), rf_, H', ⟨by have := HK1.out; omega⟩, by repeat (first | exact Drawn0.refl _ | apply Drawn0.step)⟩
    ·rw [if_neg c4] at H
     have c4b0 : decide (x5_1 < (l0.length : Int)) = false := decide_eq_false c4
     clear c4
     obtain rfl := Option.some.inj H
     go_wp2
     repeat (go_quiet (fail); try go_wp2)
     go_ret
     exact ⟨by first | rfl | (simp; done) | (simp [*]; done), by repeat (first | exact Drawn0.refl _ | apply Drawn0.step)⟩
 ·rw [if_neg c3] at H
  have c3b0 : ((l0.length : Int) == (l1.length : Int)) = false := beq_eq_false_iff_ne.mpr c3
  have c3b1 : ((l0.length : Int) != (l1.length : Int)) = true := bne_iff_ne.mpr c3
  have c3b2 : (l0.length == l1.length) = false := by first | simpa using c3 | (simp at c3 ⊢; omega)
  obtain rfl := Option.some.inj H
  go_enter Try.func22, Try.ntmps22
  go_wp2
  repeat (go_quiet (fail); try go_wp2)
  go_ret
  exact ⟨by first | rfl | (simp; done) | (simp [*]; done), by repeat (first | exact Drawn0.refl _ | apply Drawn0.step)⟩

def spigotlaw40_given.f  : Option ((List (S49))) := some (([(⟨10, 1, 2⟩ : S49), (⟨4, 3, 1⟩ : S49)] : List (S49)))
set_option maxHeartbeats 8000000 in
set_option maxRecDepth 100000 in
theorem spigotlaw40_given.calls  (r : List (S49)) (w : World) (h : spigotlaw40_given.f  = some r) :
  Calls Try.prog 27 #[] w fun e w' => ∃ v0_ : Value, e = .returned (v0_) ∧ Kd.R k49 49 w' w.heap.size (fun _ => True) v0_ r ∧ Below w.heap.size w w' := by
 have hu49 := Try.underlying49
 have HB := Aside0.mk (Below.refl w.heap.size w)
 have H : (some (([(⟨10, 1, 2⟩ : S49), (⟨4, 3, 1⟩ : S49)] : List (S49)))) = some r := h
 clear h
 obtain ⟨y321, hy321⟩ : ∃ y_ : List (S49), y_ = (([(⟨10, 1, 2⟩ : S49), (⟨4, 3, 1⟩ : S49)] : List (S49))) := ⟨_, rfl⟩
 replace H : (some y321) = some r := by first | (rw [hy321]; with_reducible exact H) | (have H2_ := (Option.bind_some _ _).symm.trans H; rw [hy321]; with_reducible exact H2_) | (have H2_ := (Option.bind_some _ _).symm.trans H; with_reducible exact H2_) | with_reducible exact H | (rw [hy321]; exact H) | exact H
 have Ny321 := Aside0.mk hy321
 clear hy321
 obtain rfl := Option.some.inj H
 go_enter Try.func27, Try.ntmps27
 go_wp2_with (first | ((with_reducible refine gate_dst (N := 3) rfl ?_); refine Kd.R_lit k49 _ 49 ?hg (N := 3) ?hd (xs := ([(⟨10, 1, 2⟩ : S49), (⟨4, 3, 1⟩ : S49)] : List (S49))) (inner := [.int .i64 10, .int .i64 1, .int .i64 2, .int .i64 4, .int .i64 3, .int .i64 1]) (ok := fun _ => True) (okp := fun _ => True) ?hr ?hp (fun _ hk => hk) trivial (Below.refl _ _) (Nat.le_refl _) (by simp) ?_; (case hd => rfl); (case hg => rfl); (case hr => first | (go_simp; done) | (go_simp; rfl)); (case hp => exact (Reps.c3 (show Kd.M k49 _ _ _ (⟨10, 1, 2⟩ : S49) [.int .i64 10, .int .i64 1, .int .i64 2] from (k49_mkM _ _ _ (⟨10, 1, 2⟩ : S49) )) (Reps.c3 (show Kd.M k49 _ _ _ (⟨4, 3, 1⟩ : S49) [.int .i64 4, .int .i64 3, .int .i64 1] from (k49_mkM _ _ _ (⟨4, 3, 1⟩ : S49) )) (Reps.none _ _)))); intro v322 w1 ho2 hb hg_ hnew_; clear hg_ hnew_; (first | rw [← Ny321.out] at ho2 | (simp only [Int.reduceToNat] at ho2; rw [← Ny321.out] at ho2)); have HO323 := Aside0.mk (Kd.R_lower ho2 (below_size (hq_ HB))); replace HB := bs_ w hb; clear hb ho2))
 go_ret
 exact ⟨_, by first | rfl | (simp [errW_none, errW_some] <;> rfl) | (simp [*, errW_none, errW_some] <;> rfl), by (with_reducible repeat (first | apply Kd.R_alloc | apply Kd.R_drewN | apply Kd.R_drew)); exact HO323.out, by repeat (first | (with_reducible first | exact HB.out | apply below_alloc | apply pw_below_drewN | apply below_drew1) | exact HB.out)⟩

def spigotlaw40_costs.f  : Option ((List (S62))) := some (([(⟨0, 4⟩ : S62), (⟨1, 4⟩ : S62), (⟨1, 2⟩ : S62), (⟨2, 5⟩ : S62)] : List (S62)))
set_option maxHeartbeats 8000000 in
set_option maxRecDepth 100000 in
theorem spigotlaw40_costs.calls  (r : List (S62)) (w : World) (h : spigotlaw40_costs.f  = some r) :
  Calls Try.prog 37 #[] w fun e w' => ∃ v0_ : Value, e = .returned (v0_) ∧ Kd.R k62 62 w' w.heap.size (fun _ => True) v0_ r ∧ Below w.heap.size w w' := by
 have hu62 := Try.underlying62
 have HB := Aside0.mk (Below.refl w.heap.size w)
 have H : (some (([(⟨0, 4⟩ : S62), (⟨1, 4⟩ : S62), (⟨1, 2⟩ : S62), (⟨2, 5⟩ : S62)] : List (S62)))) = some r := h
 clear h
 obtain ⟨y324, hy324⟩ : ∃ y_ : List (S62), y_ = (([(⟨0, 4⟩ : S62), (⟨1, 4⟩ : S62), (⟨1, 2⟩ : S62), (⟨2, 5⟩ : S62)] : List (S62))) := ⟨_, rfl⟩
 replace H : (some y324) = some r := by first | (rw [hy324]; with_reducible exact H) | (have H2_ := (Option.bind_some _ _).symm.trans H; rw [hy324]; with_reducible exact H2_) | (have H2_ := (Option.bind_some _ _).symm.trans H; with_reducible exact H2_) | with_reducible exact H | (rw [hy324]; exact H) | exact H
 have Ny324 := Aside0.mk hy324
 clear hy324
 obtain rfl := Option.some.inj H
 go_enter Try.func37, Try.ntmps37
 go_wp2_with (first | ((with_reducible refine gate_dst (N := 5) rfl ?_); refine Kd.R_lit k62 _ 62 ?hg (N := 5) ?hd (xs := ([(⟨0, 4⟩ : S62), (⟨1, 4⟩ : S62), (⟨1, 2⟩ : S62), (⟨2, 5⟩ : S62)] : List (S62))) (inner := [.int .u64 0, .int .i64 4, .int .u64 1, .int .i64 4, .int .u64 1, .int .i64 2, .int .u64 2, .int .i64 5]) (ok := fun _ => True) (okp := fun _ => True) ?hr ?hp (fun _ hk => hk) trivial (Below.refl _ _) (Nat.le_refl _) (by simp) ?_; (case hd => rfl); (case hg => rfl); (case hr => first | (go_simp; done) | (go_simp; rfl)); (case hp => exact (Reps.c2 (show Kd.M k62 _ _ _ (⟨0, 4⟩ : S62) [.int .u64 0, .int .i64 4] from (k62_mkM _ _ _ (⟨0, 4⟩ : S62) )) (Reps.c2 (show Kd.M k62 _ _ _ (⟨1, 4⟩ : S62) [.int .u64 1, .int .i64 4] from (k62_mkM _ _ _ (⟨1, 4⟩ : S62) )) (Reps.c2 (show Kd.M k62 _ _ _ (⟨1, 2⟩ : S62) [.int .u64 1, .int .i64 2] from (k62_mkM _ _ _ (⟨1, 2⟩ : S62) )) (Reps.c2 (show Kd.M k62 _ _ _ (⟨2, 5⟩ : S62) [.int .u64 2, .int .i64 5] from (k62_mkM _ _ _ (⟨2, 5⟩ : S62) )) (Reps.none _ _)))))); intro v325 w1 ho2 hb hg_ hnew_; clear hg_ hnew_; (first | rw [← Ny324.out] at ho2 | (simp only [Int.reduceToNat] at ho2; rw [← Ny324.out] at ho2)); have HO326 := Aside0.mk (Kd.R_lower ho2 (below_size (hq_ HB))); replace HB := bs_ w hb; clear hb ho2))
 go_ret
 exact ⟨_, by first | rfl | (simp [errW_none, errW_some] <;> rfl) | (simp [*, errW_none, errW_some] <;> rfl), by (with_reducible repeat (first | apply Kd.R_alloc | apply Kd.R_drewN | apply Kd.R_drew)); exact HO326.out, by repeat (first | (with_reducible first | exact HB.out | apply below_alloc | apply pw_below_drewN | apply below_drew1) | exact HB.out)⟩

def spigotlaw40_has.f (k : Nat) (a0 : Int) (a1 : Int) : Option (Bool) := (spigotlaw40_given.f).bind fun t327 => ((curve_At.f k t327 a0).bind fun bt330 => (if bt330.2 = 0 then (some (bt330.1 == a1)) else (some false)))
set_option maxHeartbeats 8000000 in
set_option maxRecDepth 100000 in
theorem spigotlaw40_has.calls (k : Nat) (a0 : Int) (a1 : Int) (r : Bool) (w : World) (h : spigotlaw40_has.f k a0 a1 = some r) :
  Calls Try.prog 38 #[.int .u64 a0, .int .i64 a1] w fun e w' => e = .returned (.bool r) ∧ Below w.heap.size w w' := by
 have HB := Aside0.mk (Below.refl w.heap.size w)
 have H : ((spigotlaw40_given.f).bind fun t327 => ((curve_At.f k t327 a0).bind fun bt330 => (if bt330.2 = 0 then (some (bt330.1 == a1)) else (some false)))) = some r := h
 clear h
 have H0_ := bo_ H; clear H; obtain ⟨t327, A3, H⟩ := H0_
 replace H : ((curve_At.f k t327 a0).bind fun bt330 => (if bt330.2 = 0 then (some (bt330.1 == a1)) else (some false))) = some r := H
 have H0_ := bo_ H; clear H; obtain ⟨⟨t330, t331⟩, A4, H⟩ := H0_
 replace H : (if t331 = 0 then (some (t330 == a1)) else (some false)) = some r := H
 by_cases c5 : t331 = 0
 ·rw [if_pos c5] at H
  have c5b0 : (t331 == 0) = true := beq_iff_eq.mpr c5
  have c5b1 : (t331 != 0) = false := bne_eq_false_iff_eq.mpr c5
  clear c5
  obtain rfl := Option.some.inj H
  go_enter Try.func38, Try.ntmps38
  go_wp2_with (first | ((with_reducible refine gate_callee (f := 27) rfl ?_); (try refine ug_ (by rfl) ?_); refine goesA_ (some 8) Try.func27 #[] ?_; (with_reducible refine (spigotlaw40_given.calls  t327 _ A3.out).mono ?_); rintro e w6 ⟨v328, rfl, ho0, hb⟩; refine ⟨_, rfl, ?_⟩; have HO329 := Aside0.mk (Kd.R_lower ho0 (below_size (hq_ HB))); replace HB := bs_ w hb; clear hb; (try clear ho0); obtain ⟨Ao7, co7, eo7⟩ := Kd.R_slice HO329.out; subst eo7) | ((with_reducible refine gate_callee (f := 10) rfl ?_); (try refine ug_ (by rfl) ?_); refine goesA_ (some 10) Try.func10 #[.slice Ao7 t327.length co7, .int .u64 a0] ?_; (with_reducible refine (curve_At.calls k _ _ t327 a0 t330 t331 _ ?side1 ?side2 A4.out).mono ?_); (case side1 => exact cr_ HO329); (case side2 => exact (Kd.R_reads' HO329.out).2.1); rintro e w8 ⟨rfl, hb⟩; refine ⟨_, rfl, ?_⟩; replace HO329 := rb_ HO329 hb; replace HB := bs_ w hb; clear hb))
  go_ret
  exact fi_
 ·rw [if_neg c5] at H
  have c5b0 : (t331 == 0) = false := beq_eq_false_iff_ne.mpr c5
  have c5b1 : (t331 != 0) = true := bne_iff_ne.mpr c5
  obtain rfl := Option.some.inj H
  go_enter Try.func38, Try.ntmps38
  go_wp2_with (first | ((with_reducible refine gate_callee (f := 27) rfl ?_); (try refine ug_ (by rfl) ?_); refine goesA_ (some 8) Try.func27 #[] ?_; (with_reducible refine (spigotlaw40_given.calls  t327 _ A3.out).mono ?_); rintro e w9 ⟨v328, rfl, ho0, hb⟩; refine ⟨_, rfl, ?_⟩; have HO329 := Aside0.mk (Kd.R_lower ho0 (below_size (hq_ HB))); replace HB := bs_ w hb; clear hb; (try clear ho0); obtain ⟨Ao10, co10, eo10⟩ := Kd.R_slice HO329.out; subst eo10) | ((with_reducible refine gate_callee (f := 10) rfl ?_); (try refine ug_ (by rfl) ?_); refine goesA_ (some 10) Try.func10 #[.slice Ao10 t327.length co10, .int .u64 a0] ?_; (with_reducible refine (curve_At.calls k _ _ t327 a0 t330 t331 _ ?side1 ?side2 A4.out).mono ?_); (case side1 => exact cr_ HO329); (case side2 => exact (Kd.R_reads' HO329.out).2.1); rintro e w11 ⟨rfl, hb⟩; refine ⟨_, rfl, ?_⟩; replace HO329 := rb_ HO329 hb; replace HB := bs_ w hb; clear hb))
  go_ret
  exact fi_

end Go.Proofs.Ytimhghmfhfggoaa.X
