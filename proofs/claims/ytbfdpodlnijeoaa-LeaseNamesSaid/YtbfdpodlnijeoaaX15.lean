-- written by xprint.py, a program of this session over the kit's print
import Derived.Test.YtbfdpodlnijeoaaX0
import Derived.Test.YtbfdpodlnijeoaaX12
import Derived.Test.YtbfdpodlnijeoaaX13
import Derived.Test.YtbfdpodlnijeoaaX14
namespace Go.Proofs.Ytbfdpodlnijeoaa.X
open Go.RowKit Go.Proofs.YtbfdpodlnijeoaaW.PrintWords Go.Proofs.YtbfdpodlnijeoaaW.PrintLast Go.Proofs.YtbfdpodlnijeoaaW.PrintMore
attribute [local go_sem] max2_int min2_int max_two min_two max_three min_three max_four min_four   -- for this text's walks alone
set_option linter.unusedVariables false
set_option linter.unusedSimpArgs false

/-! ### spigotref42_SameLongs: function 21 -/
def spigotref42_SameLongs.l0 : Nat → List Int → List Int → Int → Option (Bool)
  | 0, _, _, _ => none
  | k + 1, x0, x1, x5 => if x5 < (x0.length : Int) then (if 0 ≤ x5 then (if x5 < (x1.length : Int) then (if (rd x0 x5) = (rd x1 x5) then (spigotref42_SameLongs.l0 k x0 x1 (wrap64 (x5 + 1))) else (some false)) else (none)) else (none)) else (some true)
def spigotref42_SameLongs.f (k : Nat) (l0 : List Int) (l1 : List Int) : Option (Bool) := if (l0.length : Int) = (l1.length : Int) then (spigotref42_SameLongs.l0 k l0 l1 0) else (some false)
theorem spigotref42_SameLongs.mono_l : ∀ k, (∀ y0 y1 y2, LeO (spigotref42_SameLongs.l0 k y0 y1 y2) (spigotref42_SameLongs.l0 (k + 1) y0 y1 y2))
  | 0 => fun _ _ _ r h => by simp [spigotref42_SameLongs.l0] at h
  | k + 1 => by
    have ih0 := spigotref42_SameLongs.mono_l k
    · intro y0 y1 y2
      unfold spigotref42_SameLongs.l0
      repeat' first
      | (with_reducible exact ih0 _ _ _)
      | (with_reducible exact LeO.refl _)
      | (with_reducible exact LeO.none _)
      | (with_reducible refine LeO.ite ?_ ?_)
      | (with_reducible refine LeO.bind ?_ (fun _ => ?_))
      | exact ih0 _ _ _
      | exact LeO.none _
      | refine LeO.ite ?_ ?_
      | refine LeO.bind ?_ (fun _ => ?_)
theorem spigotref42_SameLongs.mono : ∀ a0 a1 k, LeO (spigotref42_SameLongs.f k a0 a1) (spigotref42_SameLongs.f (k + 1) a0 a1) := by
  intro a0 a1 k
  have ih0 := spigotref42_SameLongs.mono_l k
  unfold spigotref42_SameLongs.f
  repeat' first
      | (with_reducible exact ih0 _ _ _)
      | (with_reducible exact LeO.refl _)
      | (with_reducible exact LeO.none _)
      | (with_reducible refine LeO.ite ?_ ?_)
      | (with_reducible refine LeO.bind ?_ (fun _ => ?_))
      | exact ih0 _ _ _
      | exact LeO.none _
      | refine LeO.ite ?_ ?_
      | refine LeO.bind ?_ (fun _ => ?_)
set_option maxHeartbeats 8000000 in
set_option maxRecDepth 100000 in
theorem spigotref42_SameLongs.calls (k : Nat) (A0 : Option Addr) (c0 : Nat) (l0 : List Int) (A1 : Option Addr) (c1 : Nat) (l1 : List Int) (r : Bool) (w : World) (hr0 : Kd.C (Kd.int .i64) w A0 l0.length l0) (hc0 : l0.length ≤ c0) (hr1 : Kd.C (Kd.int .i64) w A1 l1.length l1) (hc1 : l1.length ≤ c1) (h : spigotref42_SameLongs.f k l0 l1 = some r) :
  Calls Try.prog 21 #[.slice A0 l0.length c0, .slice A1 l1.length c1] w fun e w' => e = .returned (.bool r) ∧ Drawn0 w w' := by
 have HR0 := Aside0.mk hr0
 have HC0 := Aside0.mk hc0
 clear hr0 hc0
 have HR1 := Aside0.mk hr1
 have HC1 := Aside0.mk hc1
 clear hr1 hc1
 have H : (if (l0.length : Int) = (l1.length : Int) then (spigotref42_SameLongs.l0 k l0 l1 0) else (some false)) = some r := h
 clear h
 by_cases c3 : (l0.length : Int) = (l1.length : Int)
 ·rw [if_pos c3] at H
  have c3b0 : ((l0.length : Int) == (l1.length : Int)) = true := beq_iff_eq.mpr c3
  have c3b1 : ((l0.length : Int) != (l1.length : Int)) = false := bne_eq_false_iff_eq.mpr c3
  have c3b2 : (l0.length == l1.length) = true := by first | simpa using c3 | (simp at c3 ⊢; omega)
  clear c3
  have H' := Aside0.mk H
  clear H
  go_enter Try.func21, Try.ntmps21
  go_wp2
  repeat (go_quiet (fail); try go_wp2)
  go_loopg [5] k (fun kq v5 w' => ∃ (x5_1 : Int), v5 = .int .i64 x5_1 ∧ Aside0 (spigotref42_SameLongs.l0 kq l0 l1 x5_1 = some r) ∧ Aside0 (kq ≤ k) ∧ Drawn0 w w')
  case atStart => exact ⟨(0), rf_, H', ⟨Nat.le_refl _⟩, by repeat (first | exact Drawn0.refl _ | apply Drawn0.step)⟩
  case round =>
   clear H'
   try clear c1
   try clear c3
   try clear c3b0
   try clear c3b1
   try clear c3b2
   obtain ⟨x5_1, rfl, HA, HK1, ⟨m1, rfl⟩⟩ := hrel
   cases gk with
   | zero => exact absurd HA.out (by simp [spigotref42_SameLongs.l0])
   | succ k1 =>
    have H := HA.out
    clear HA
    simp only [spigotref42_SameLongs.l0] at H
    by_cases c4 : x5_1 < (l0.length : Int)
    ·rw [if_pos c4] at H
     have c4b0 : decide (x5_1 < (l0.length : Int)) = true := decide_eq_true c4
     clear c4
     by_cases c5 : 0 ≤ x5_1
     rotate_left
     ·rw [if_neg c5] at H; exact absurd H (by simp)
     rw [if_pos c5] at H
     have c5b0 : decide (0 ≤ x5_1) = true := decide_eq_true c5
     clear c5
     by_cases c6 : x5_1 < (l1.length : Int)
     rotate_left
     ·rw [if_neg c6] at H; exact absurd H (by simp)
     rw [if_pos c6] at H
     have c6b0 : decide (x5_1 < (l1.length : Int)) = true := decide_eq_true c6
     clear c6
     by_cases c7 : (rd l0 x5_1) = (rd l1 x5_1)
     ·rw [if_pos c7] at H
      have c7b0 : ((rd l0 x5_1) == (rd l1 x5_1)) = true := beq_iff_eq.mpr c7
      have c7b1 : ((rd l0 x5_1) != (rd l1 x5_1)) = false := bne_eq_false_iff_eq.mpr c7
      clear c7
      have H' := Aside0.mk H
      clear H
      have p222 : 0 ≤ (x5_1 : Int) := of_decide_eq_true (by first | (with_reducible assumption) | assumption)
      have q222 : x5_1 < (l0.length : Int) := of_decide_eq_true (by first | (with_reducible assumption) | assumption)
      obtain ⟨ad222, e222, hx222_0⟩ := Kd.at_int HR0.out x5_1 p222 q222
      cases e222
      replace p222 := eq_true p222
      replace q222 := eq_true q222
      have p223 : 0 ≤ (x5_1 : Int) := of_decide_eq_true (by first | (with_reducible assumption) | assumption)
      have q223 : x5_1 < (l1.length : Int) := of_decide_eq_true (by first | (with_reducible assumption) | assumption)
      obtain ⟨ad223, e223, hx223_0⟩ := Kd.at_int HR1.out x5_1 p223 q223
      cases e223
      replace p223 := eq_true p223
      replace q223 := eq_true q223
      go_wp2
      repeat (go_quiet (fail); try go_wp2)
      go_roundg k1
      case measure => have := HK1.out; omega
      case rel => exact ⟨(wrap64 (x5_1 + 1)), rf_, H', ⟨by have := HK1.out; omega⟩, by repeat (first | exact Drawn0.refl _ | apply Drawn0.step)⟩
     ·rw [if_neg c7] at H
      have c7b0 : ((rd l0 x5_1) == (rd l1 x5_1)) = false := beq_eq_false_iff_ne.mpr c7
      have c7b1 : ((rd l0 x5_1) != (rd l1 x5_1)) = true := bne_iff_ne.mpr c7
      obtain rfl := Option.some.inj H
      have p222 : 0 ≤ (x5_1 : Int) := of_decide_eq_true (by first | (with_reducible assumption) | assumption)
      have q222 : x5_1 < (l0.length : Int) := of_decide_eq_true (by first | (with_reducible assumption) | assumption)
      obtain ⟨ad222, e222, hx222_0⟩ := Kd.at_int HR0.out x5_1 p222 q222
      cases e222
      replace p222 := eq_true p222
      replace q222 := eq_true q222
      have p223 : 0 ≤ (x5_1 : Int) := of_decide_eq_true (by first | (with_reducible assumption) | assumption)
      have q223 : x5_1 < (l1.length : Int) := of_decide_eq_true (by first | (with_reducible assumption) | assumption)
      obtain ⟨ad223, e223, hx223_0⟩ := Kd.at_int HR1.out x5_1 p223 q223
      cases e223
      replace p223 := eq_true p223
      replace q223 := eq_true q223
      go_wp2
      repeat (go_quiet (fail); try go_wp2)
      go_ret
      exact ⟨by first | rfl | (simp; done) | (simp [*]; done), by repeat (first | exact Drawn0.refl _ | apply Drawn0.step)⟩
    ·rw [if_neg c4] at H
     have c4b0 : decide (x5_1 < (l0.length : Int)) = false := decide_eq_false c4
     clear c4
     obtain rfl := Option.some.inj H
     go_wp2
     repeat (go_quiet (fail); try go_wp2)
     go_ret
     exact ⟨by first | rfl | (simp; done) | (simp [*]; done), by repeat (first | exact Drawn0.refl _ | apply Drawn0.step)⟩
 ·rw [if_neg c3] at H
  have c3b0 : ((l0.length : Int) == (l1.length : Int)) = false := beq_eq_false_iff_ne.mpr c3
  have c3b1 : ((l0.length : Int) != (l1.length : Int)) = true := bne_iff_ne.mpr c3
  have c3b2 : (l0.length == l1.length) = false := by first | simpa using c3 | (simp at c3 ⊢; omega)
  obtain rfl := Option.some.inj H
  go_enter Try.func21, Try.ntmps21
  go_wp2
  repeat (go_quiet (fail); try go_wp2)
  go_ret
  exact ⟨by first | rfl | (simp; done) | (simp [*]; done), by repeat (first | exact Drawn0.refl _ | apply Drawn0.step)⟩

/-! ### spigotlaw42_given: function 28 -/
def spigotlaw42_given.f  : Option (Int × Int × Int × Int × Int × Int × Int × List Int) := some (10, 1, 1, 10, 0, 0, 4, (([0, 0] : List Int)))
set_option maxHeartbeats 8000000 in
set_option maxRecDepth 100000 in
theorem spigotlaw42_given.calls  (r1 : Int) (r2 : Int) (r3 : Int) (r4 : Int) (r5 : Int) (r6 : Int) (r7 : Int) (r8 : List Int) (w : World) (h : spigotlaw42_given.f  = some (r1, r2, r3, r4, r5, r6, r7, r8)) :
  Calls Try.prog 28 #[] w fun e w' => ∃ v7_ : Value, e = .returned (.agg #[.int .i64 r1, .int .i64 r2, .int .i64 r3, .int .i64 r4, .int .i64 r5, .int .u64 r6, .int .i64 r7, v7_]) ∧ Kd.R (Kd.int .i64) 2 w' w.heap.size (fun _ => True) v7_ r8 ∧ Below w.heap.size w w' := by
 have hu29 := Try.underlying29
 have hu23 := Try.underlying23
 have hu26 := Try.underlying26
 have HB := Aside0.mk (Below.refl w.heap.size w)
 have H : (some (10, 1, 1, 10, 0, 0, 4, (([0, 0] : List Int)))) = some (r1, r2, r3, r4, r5, r6, r7, r8) := h
 clear h
 obtain ⟨y225, hy225⟩ : ∃ y_ : List Int, y_ = (([0, 0] : List Int)) := ⟨_, rfl⟩
 replace H : (some (10, 1, 1, 10, 0, 0, 4, y225)) = some (r1, r2, r3, r4, r5, r6, r7, r8) := by first | (rw [hy225]; with_reducible exact H) | (have H2_ := (Option.bind_some _ _).symm.trans H; rw [hy225]; with_reducible exact H2_) | (have H2_ := (Option.bind_some _ _).symm.trans H; with_reducible exact H2_) | with_reducible exact H | (rw [hy225]; exact H) | exact H
 have Ny225 := Aside0.mk hy225
 clear hy225
 simp only [Option.some.injEq, Prod.mk.injEq] at H
 obtain ⟨rfl, rfl, rfl, rfl, rfl, rfl, rfl, rfl⟩ := H
 go_enter Try.func28, Try.ntmps28
 go_wp2_with (first | ((with_reducible refine gate_dst (N := 0) rfl ?_); refine bx_ #[.int .i64 0, .int .i64 0, .int .i64 0, .int .i64 0, .int .i64 0, .int .u64 0, .int .i64 0, .slice none 0 0] 29 ?_; intro gb224 hg w1 BK224 hb; have GW224 := bz_ w hg; have GE224 := GW224; replace HB := bs_ w hb; clear hb hg) | ((with_reducible refine gate_dst (N := 3) rfl ?_); refine Kd.R_lit (Kd.int .i64) _ 2 ?hg (N := 3) ?hd (xs := ([0, 0] : List Int)) (inner := [.int .i64 0, .int .i64 0]) (ok := fun _ => True) (okp := fun _ => True) ?hr ?hp (fun _ hk => hk) trivial (Below.refl _ _) (Nat.le_refl _) (by simp) ?_; (case hd => rfl); (case hg => rfl); (case hr => first | (go_simp; done) | (go_simp; rfl)); (case hp => exact (Reps.one (show Kd.M (Kd.int .i64) _ _ _ 0 [.int .i64 0] from rfl) (Reps.one (show Kd.M (Kd.int .i64) _ _ _ 0 [.int .i64 0] from rfl) (Reps.none _ _)))); intro v226 w2 ho3 hb hg_ hnew_; clear hg_ hnew_; (first | rw [← Ny225.out] at ho3 | (simp only [Int.reduceToNat] at ho3; rw [← Ny225.out] at ho3)); have HO227 := Aside0.mk (Kd.R_lower ho3 (below_size bh_)); replace BK224 := bb_ BK224 hb; replace HB := bs_ w hb; clear hb ho3; obtain ⟨Ao4, co4, eo4⟩ := Kd.R_slice HO227.out; subst eo4; replace hc224 := ce8_ BK224))
 refine bodyPost_ret (results_cell_row rfl _ _ gb224 29 #[.int .i64 10, .int .i64 1, .int .i64 1, .int .i64 10, .int .i64 0, .int .u64 0, .int .i64 4, .slice Ao4 y225.length co4] (0, 0) _ rfl (bp8_ (bq_ BK224)) Try.underlying29 rfl (by kernel_rfl)) rfl ?_
 exact ⟨_, by first | rfl | (simp [errW_none, errW_some] <;> rfl) | (simp [*, errW_none, errW_some] <;> rfl), by (with_reducible repeat (first | apply Kd.R_alloc | apply Kd.R_drewN | apply Kd.R_drew)); exact Kd.R_mono (rf8_ (g := gb224) (Kd.R_types HO227.out BK224.out (by decide)) (fun _ hk => hk.2)) (fun _ hk => trivial), by repeat (first | (with_reducible first | exact HB.out | apply below_alloc | apply pw_below_drewN | apply below_drew1 | refine below_set ?_ GE224.out) | exact HB.out)⟩

/-! ### spigotlaw42_alive: function 10 -/
def spigotlaw42_alive.f (k : Nat)  : Option (Bool) := (spigotlaw42_given.f).bind fun bt231 => ((lease_Run.f k bt231.1 bt231.2.1 bt231.2.2.1 bt231.2.2.2.1 bt231.2.2.2.2.1 bt231.2.2.2.2.2.1 bt231.2.2.2.2.2.2.1 bt231.2.2.2.2.2.2.2 (([(⟨1, 0, 0, 0⟩ : S31), (⟨1, 1, 0, 0⟩ : S31), (⟨2, 0, 0, 3⟩ : S31), (⟨2, 0, 0, 2⟩ : S31), (⟨1, 1, 1, 0⟩ : S31)] : List (S31)))).bind fun bt241 => ((lease_Out.f k bt241.1 bt241.2.1 bt241.2.2.1 bt241.2.2.2.1 bt241.2.2.2.2.1 bt241.2.2.2.2.2.1 bt241.2.2.2.2.2.2.1 bt241.2.2.2.2.2.2.2.1).bind fun bt256 => ((lease_Step.f k bt241.1 bt241.2.1 bt241.2.2.1 bt241.2.2.2.1 bt241.2.2.2.2.1 bt241.2.2.2.2.2.1 bt241.2.2.2.2.2.2.1 bt241.2.2.2.2.2.2.2.1 3 1 1 0).bind fun bt258 => ((lease_Out.f k bt258.1 bt258.2.1 bt258.2.2.1 bt258.2.2.2.1 bt258.2.2.2.2.1 bt258.2.2.2.2.2.1 bt258.2.2.2.2.2.2.1 bt258.2.2.2.2.2.2.2.1).bind fun bt271 => (if bt241.2.2.2.2.2.2.2.2.2 = 0 then ((spigotref42_SameLongs.f k bt241.2.2.2.2.2.2.2.2.1 (([4, 4, 3, (-1), 3] : List Int))).bind fun t276 => (if t276 = true then (if bt256.2 = 0 then (if bt256.1 = 8 then (if bt241.2.2.2.1 = 0 then (if bt258.2.2.2.2.2.2.2.2.2 = 0 then (if bt258.2.2.2.2.2.2.2.2.1 = 7 then (if bt271.2 = 0 then (if bt271.1 = 1 then (some (bt258.2.2.2.1 == 7)) else (none)) else (none)) else (none)) else (none)) else (none)) else (none)) else (none)) else (none))) else (none))))))
theorem spigotlaw42_alive.mono : ∀ k, LeO (spigotlaw42_alive.f k ) (spigotlaw42_alive.f (k + 1) ) := by
  intro  k
  unfold spigotlaw42_alive.f
  repeat' first
      | (with_reducible exact lease_Out.mono _ _ _ _ _ _ _ _ _)
      | (with_reducible exact lease_Run.mono _ _ _ _ _ _ _ _ _ _)
      | (with_reducible exact lease_Step.mono _ _ _ _ _ _ _ _ _ _ _ _ _)
      | (with_reducible exact spigotref42_SameLongs.mono _ _ _)
      | (with_reducible exact LeO.refl _)
      | (with_reducible exact LeO.none _)
      | (with_reducible refine LeO.ite ?_ ?_)
      | (with_reducible refine LeO.bind ?_ (fun _ => ?_))
      | exact lease_Out.mono _ _ _ _ _ _ _ _ _
      | exact lease_Run.mono _ _ _ _ _ _ _ _ _ _
      | exact lease_Step.mono _ _ _ _ _ _ _ _ _ _ _ _ _
      | exact spigotref42_SameLongs.mono _ _ _
      | exact LeO.none _
      | refine LeO.ite ?_ ?_
      | refine LeO.bind ?_ (fun _ => ?_)
set_option maxHeartbeats 8000000 in
set_option maxRecDepth 100000 in
theorem spigotlaw42_alive.calls (k : Nat)  (r : Bool) (w : World) (h : spigotlaw42_alive.f k  = some r) :
  Calls Try.prog 10 #[] w fun e w' => e = .returned (.bool r) ∧ Below w.heap.size w w' := by
 have hu31 := Try.underlying31
 have hu29 := Try.underlying29
 have HB := Aside0.mk (Below.refl w.heap.size w)
 have H : ((spigotlaw42_given.f).bind fun bt231 => ((lease_Run.f k bt231.1 bt231.2.1 bt231.2.2.1 bt231.2.2.2.1 bt231.2.2.2.2.1 bt231.2.2.2.2.2.1 bt231.2.2.2.2.2.2.1 bt231.2.2.2.2.2.2.2 (([(⟨1, 0, 0, 0⟩ : S31), (⟨1, 1, 0, 0⟩ : S31), (⟨2, 0, 0, 3⟩ : S31), (⟨2, 0, 0, 2⟩ : S31), (⟨1, 1, 1, 0⟩ : S31)] : List (S31)))).bind fun bt241 => ((lease_Out.f k bt241.1 bt241.2.1 bt241.2.2.1 bt241.2.2.2.1 bt241.2.2.2.2.1 bt241.2.2.2.2.2.1 bt241.2.2.2.2.2.2.1 bt241.2.2.2.2.2.2.2.1).bind fun bt256 => ((lease_Step.f k bt241.1 bt241.2.1 bt241.2.2.1 bt241.2.2.2.1 bt241.2.2.2.2.1 bt241.2.2.2.2.2.1 bt241.2.2.2.2.2.2.1 bt241.2.2.2.2.2.2.2.1 3 1 1 0).bind fun bt258 => ((lease_Out.f k bt258.1 bt258.2.1 bt258.2.2.1 bt258.2.2.2.1 bt258.2.2.2.2.1 bt258.2.2.2.2.2.1 bt258.2.2.2.2.2.2.1 bt258.2.2.2.2.2.2.2.1).bind fun bt271 => (if bt241.2.2.2.2.2.2.2.2.2 = 0 then ((spigotref42_SameLongs.f k bt241.2.2.2.2.2.2.2.2.1 (([4, 4, 3, (-1), 3] : List Int))).bind fun t276 => (if t276 = true then (if bt256.2 = 0 then (if bt256.1 = 8 then (if bt241.2.2.2.1 = 0 then (if bt258.2.2.2.2.2.2.2.2.2 = 0 then (if bt258.2.2.2.2.2.2.2.2.1 = 7 then (if bt271.2 = 0 then (if bt271.1 = 1 then (some (bt258.2.2.2.1 == 7)) else (none)) else (none)) else (none)) else (none)) else (none)) else (none)) else (none)) else (none))) else (none))))))) = some r := h
 clear h
 obtain ⟨y228, hy228⟩ : ∃ y_ : List (S31), y_ = (([(⟨1, 0, 0, 0⟩ : S31), (⟨1, 1, 0, 0⟩ : S31), (⟨2, 0, 0, 3⟩ : S31), (⟨2, 0, 0, 2⟩ : S31), (⟨1, 1, 1, 0⟩ : S31)] : List (S31))) := ⟨_, rfl⟩
 replace H : ((spigotlaw42_given.f).bind fun bt231 => ((lease_Run.f k bt231.1 bt231.2.1 bt231.2.2.1 bt231.2.2.2.1 bt231.2.2.2.2.1 bt231.2.2.2.2.2.1 bt231.2.2.2.2.2.2.1 bt231.2.2.2.2.2.2.2 y228).bind fun bt241 => ((lease_Out.f k bt241.1 bt241.2.1 bt241.2.2.1 bt241.2.2.2.1 bt241.2.2.2.2.1 bt241.2.2.2.2.2.1 bt241.2.2.2.2.2.2.1 bt241.2.2.2.2.2.2.2.1).bind fun bt256 => ((lease_Step.f k bt241.1 bt241.2.1 bt241.2.2.1 bt241.2.2.2.1 bt241.2.2.2.2.1 bt241.2.2.2.2.2.1 bt241.2.2.2.2.2.2.1 bt241.2.2.2.2.2.2.2.1 3 1 1 0).bind fun bt258 => ((lease_Out.f k bt258.1 bt258.2.1 bt258.2.2.1 bt258.2.2.2.1 bt258.2.2.2.2.1 bt258.2.2.2.2.2.1 bt258.2.2.2.2.2.2.1 bt258.2.2.2.2.2.2.2.1).bind fun bt271 => (if bt241.2.2.2.2.2.2.2.2.2 = 0 then ((spigotref42_SameLongs.f k bt241.2.2.2.2.2.2.2.2.1 (([4, 4, 3, (-1), 3] : List Int))).bind fun t276 => (if t276 = true then (if bt256.2 = 0 then (if bt256.1 = 8 then (if bt241.2.2.2.1 = 0 then (if bt258.2.2.2.2.2.2.2.2.2 = 0 then (if bt258.2.2.2.2.2.2.2.2.1 = 7 then (if bt271.2 = 0 then (if bt271.1 = 1 then (some (bt258.2.2.2.1 == 7)) else (none)) else (none)) else (none)) else (none)) else (none)) else (none)) else (none)) else (none))) else (none))))))) = some r := by first | (rw [hy228]; with_reducible exact H) | (have H2_ := (Option.bind_some _ _).symm.trans H; rw [hy228]; with_reducible exact H2_) | (have H2_ := (Option.bind_some _ _).symm.trans H; with_reducible exact H2_) | with_reducible exact H | (rw [hy228]; exact H) | exact H
 have Ny228 := Aside0.mk hy228
 clear hy228
 have H0_ := bo_ H; clear H; obtain ⟨⟨t231, t232, t233, t234, t235, t236, t237, t238⟩, A1, H⟩ := H0_
 try dsimp only at H
 have H0_ := bo_ H; clear H; obtain ⟨⟨t241, t242, t243, t244, t245, t246, t247, t248, t251, t254⟩, A2, H⟩ := H0_
 try dsimp only at H
 have H0_ := bo_ H; clear H; obtain ⟨⟨t256, t257⟩, A3, H⟩ := H0_
 try dsimp only at H
 have H0_ := bo_ H; clear H; obtain ⟨⟨t258, t259, t260, t261, t262, t263, t264, t265, t268, t269⟩, A4, H⟩ := H0_
 try dsimp only at H
 have H0_ := bo_ H; clear H; obtain ⟨⟨t271, t272⟩, A5, H⟩ := H0_
 try dsimp only at H
 replace H := ct_ H; obtain ⟨c6b0, c6b1, H⟩ := H
 obtain ⟨y273, hy273⟩ : ∃ y_ : List Int, y_ = (([4, 4, 3, (-1), 3] : List Int)) := ⟨_, rfl⟩
 replace H : ((spigotref42_SameLongs.f k t251 y273).bind fun t276 => (if t276 = true then (if t257 = 0 then (if t256 = 8 then (if t244 = 0 then (if t269 = 0 then (if t268 = 7 then (if t272 = 0 then (if t271 = 1 then (some (t261 == 7)) else (none)) else (none)) else (none)) else (none)) else (none)) else (none)) else (none)) else (none))) = some r := by first | (rw [hy273]; with_reducible exact H) | (have H2_ := (Option.bind_some _ _).symm.trans H; rw [hy273]; with_reducible exact H2_) | (have H2_ := (Option.bind_some _ _).symm.trans H; with_reducible exact H2_) | with_reducible exact H | (rw [hy273]; exact H) | exact H
 have Ny273 := Aside0.mk hy273
 clear hy273
 have H0_ := bo_ H; clear H; obtain ⟨t276, A7, H⟩ := H0_
 try dsimp only at H
 by_cases c8 : t276 = true
 ·subst c8
  rw [if_pos rfl] at H
  try dsimp only at H
  replace H := ct_ H; obtain ⟨c9b0, c9b1, H⟩ := H
  replace H := ct_ H; obtain ⟨c10b0, c10b1, H⟩ := H
  replace H := ct_ H; obtain ⟨c11b0, c11b1, H⟩ := H
  replace H := ct_ H; obtain ⟨c12b0, c12b1, H⟩ := H
  replace H := ct_ H; obtain ⟨c13b0, c13b1, H⟩ := H
  replace H := ct_ H; obtain ⟨c14b0, c14b1, H⟩ := H
  replace H := ct_ H; obtain ⟨c15b0, c15b1, H⟩ := H
  obtain rfl := Option.some.inj H
  go_enter Try.func10, Try.ntmps10
  go_wp2_with (first | ((with_reducible refine gate_dst (N := 17) rfl ?_); (try refine ug_ (by rfl) ?_); refine Kd.R_lit k31 _ 31 ?hg (N := 17) ?hd (xs := ([(⟨1, 0, 0, 0⟩ : S31), (⟨1, 1, 0, 0⟩ : S31), (⟨2, 0, 0, 3⟩ : S31), (⟨2, 0, 0, 2⟩ : S31), (⟨1, 1, 1, 0⟩ : S31)] : List (S31))) (inner := [.int .u8 1, .int .i64 0, .int .u64 0, .int .i64 0, .int .u8 1, .int .i64 1, .int .u64 0, .int .i64 0, .int .u8 2, .int .i64 0, .int .u64 0, .int .i64 3, .int .u8 2, .int .i64 0, .int .u64 0, .int .i64 2, .int .u8 1, .int .i64 1, .int .u64 1, .int .i64 0]) (ok := fun _ => True) (okp := fun _ => True) ?hr ?hp (fun _ hk => hk) trivial (Below.refl _ _) (Nat.le_refl _) (by simp) ?_; (case hd => rfl); (case hg => rfl); (case hr => first | (go_simp; done) | (go_simp; rfl)); (case hp => exact (Reps.c4 (show Kd.M k31 _ _ _ (⟨1, 0, 0, 0⟩ : S31) [.int .u8 1, .int .i64 0, .int .u64 0, .int .i64 0] from (k31_mkM _ _ _ (⟨1, 0, 0, 0⟩ : S31) )) (Reps.c4 (show Kd.M k31 _ _ _ (⟨1, 1, 0, 0⟩ : S31) [.int .u8 1, .int .i64 1, .int .u64 0, .int .i64 0] from (k31_mkM _ _ _ (⟨1, 1, 0, 0⟩ : S31) )) (Reps.c4 (show Kd.M k31 _ _ _ (⟨2, 0, 0, 3⟩ : S31) [.int .u8 2, .int .i64 0, .int .u64 0, .int .i64 3] from (k31_mkM _ _ _ (⟨2, 0, 0, 3⟩ : S31) )) (Reps.c4 (show Kd.M k31 _ _ _ (⟨2, 0, 0, 2⟩ : S31) [.int .u8 2, .int .i64 0, .int .u64 0, .int .i64 2] from (k31_mkM _ _ _ (⟨2, 0, 0, 2⟩ : S31) )) (Reps.c4 (show Kd.M k31 _ _ _ (⟨1, 1, 1, 0⟩ : S31) [.int .u8 1, .int .i64 1, .int .u64 1, .int .i64 0] from (k31_mkM _ _ _ (⟨1, 1, 1, 0⟩ : S31) )) (Reps.none _ _))))))); intro v229 w16 ho17 hb hg_ hnew_; clear hg_ hnew_; (first | rw [← Ny228.out] at ho17 | (simp only [Int.reduceToNat] at ho17; rw [← Ny228.out] at ho17)); have HO230 := Aside0.mk (Kd.R_lower ho17 (below_size (hq_ HB))); replace HB := bs_ w hb; clear hb ho17) | ((with_reducible refine gate_callee (f := 28) rfl ?_); (try refine ug_ (by rfl) ?_); refine goesA_ (some 19) Try.func28 #[] ?_; (with_reducible refine (spigotlaw42_given.calls  t231 t232 t233 t234 t235 t236 t237 t238 _ A1.out).mono ?_); rintro e w18 ⟨v239, rfl, ho0, hb⟩; refine ⟨_, rfl, ?_⟩; have HO240 := Aside0.mk (Kd.R_lower ho0 (below_size (hq_ HB))); replace HO230 := rb_ HO230 hb; replace HB := bs_ w hb; (try clear hb); (try clear hb2); (try clear hk); (try clear hi); (try clear ho0); obtain ⟨Ao19, co19, eo19⟩ := Kd.R_slice HO240.out; subst eo19; obtain ⟨Ao20, co20, eo20⟩ := Kd.R_slice HO230.out; subst eo20) | ((with_reducible refine gate_callee (f := 16) rfl ?_); (try refine ug_ (by rfl) ?_); refine goesA_ (some 21) Try.func16 #[.agg #[.int .i64 t231, .int .i64 t232, .int .i64 t233, .int .i64 t234, .int .i64 t235, .int .u64 t236, .int .i64 t237, .slice Ao19 t238.length co19], .slice Ao20 y228.length co20] ?_; (with_reducible refine (lease_Run.calls k t231 t232 t233 t234 t235 t236 t237 _ _ t238 _ _ y228 t241 t242 t243 t244 t245 t246 t247 t248 t251 t254 _ ?side1 ?side2 ?side3 ?side4 A2.out).mono ?_); (case side1 => exact cr_ HO240); (case side2 => exact (Kd.R_reads' HO240.out).2.1); (case side3 => exact cr_ HO230); (case side4 => exact (Kd.R_reads' HO230.out).2.1); rintro e w21 ⟨v249, v252, rfl, ho0, ho1, hb⟩; refine ⟨_, rfl, ?_⟩; have HO250 := Aside0.mk (Kd.R_lower (Kd.R_new' ho0 (Kd.R_lt (rs_ HO240))) (below_size (hq_ HB))); have HO253 := Aside0.mk (Kd.R_lower (Kd.R_new' ho1 (Kd.R_lt (rs_ HO240))) (below_size (hq_ HB))); replace HO230 := rb_ HO230 hb; replace HO240 := Aside0.mk (Kd.R_mono (Kd.R_told (Kd.R_told (Kd.R_old (rs_ HO240) hb) (Kd.R_base ho0)) (Kd.R_base ho1)) (fun _ h_ => h_.1)); replace HB := bs_ w hb; (try clear hb); (try clear hb2); (try clear hk); (try clear hi); (try clear ho0); (try clear ho1)) | ((with_reducible refine gate_dst (N := 2) rfl ?_); (try refine ug_ (by rfl) ?_); refine bx_ #[.int .i64 0, .int .i64 0, .int .i64 0, .int .i64 0, .int .i64 0, .int .u64 0, .int .i64 0, .slice none 0 0] 29 ?_; intro gb255 hg w22 BK255 hb; have GW255 := bz_ w hg; replace HO230 := rb_ HO230 hb; replace HO240 := rb_ HO240 hb; replace HO250 := rb_ HO250 hb; replace HO253 := rb_ HO253 hb; replace HB := bs_ w hb; clear hb hg; replace hc255 := ce8_ BK255; obtain ⟨Ao24, co24, eo24⟩ := Kd.R_slice HO250.out; subst eo24) | ((with_reducible refine gate_callee (f := 15) rfl ?_); (try refine ug_ (by rfl) ?_); refine goesA_ (some 27) Try.func15 #[.agg #[.int .i64 t241, .int .i64 t242, .int .i64 t243, .int .i64 t244, .int .i64 t245, .int .u64 t246, .int .i64 t247, .slice Ao24 t248.length co24]] ?_; (with_reducible refine (lease_Out.calls k t241 t242 t243 t244 t245 t246 t247 _ _ t248 t256 t257 _ ?side1 ?side2 A3.out).mono ?_); (case side1 => refine (Kd.R_reads' (e := 2) (base := w.heap.size) (ok := fun k_ => (some k_ ≠ (v252 : Value).ownBlock ∧ some k_ ≠ (.slice Ao19 t238.length co19 : Value).ownBlock)) (n := t248.length) (c := co24) ?_).2.2; exact (by (with_reducible repeat (first | apply Kd.R_alloc | apply Kd.R_drewN | apply Kd.R_drew)); exact (Kd.R_mono (rf8_ (g := gb255) (Kd.R_types HO250.out BK255.out (by decide)) (fun _ hk => hk.2)) (fun _ h_ => h_.1)))); (case side2 => exact (Kd.R_reads' HO250.out).2.1); rintro e w25 ⟨rfl, hb⟩; refine ⟨_, rfl, ?_⟩; replace HO230 := Aside0.mk (Kd.R_below (by (with_reducible repeat (first | apply Kd.R_alloc | apply Kd.R_drewN | apply Kd.R_drew)); exact (Kd.R_mono (rf8_ (g := gb255) (Kd.R_types HO230.out BK255.out (by decide)) (fun _ hk => hk.2)) (fun _ h_ => h_.1))) hb); replace HO240 := Aside0.mk (Kd.R_below (by (with_reducible repeat (first | apply Kd.R_alloc | apply Kd.R_drewN | apply Kd.R_drew)); exact (Kd.R_mono (rf8_ (g := gb255) (Kd.R_types HO240.out BK255.out (by decide)) (fun _ hk => hk.2)) (fun _ h_ => h_.1))) hb); replace HO250 := Aside0.mk (Kd.R_below (by (with_reducible repeat (first | apply Kd.R_alloc | apply Kd.R_drewN | apply Kd.R_drew)); exact (Kd.R_mono (rf8_ (g := gb255) (Kd.R_types HO250.out BK255.out (by decide)) (fun _ hk => hk.2)) (fun _ h_ => h_.1))) hb); replace HO253 := Aside0.mk (Kd.R_below (by (with_reducible repeat (first | apply Kd.R_alloc | apply Kd.R_drewN | apply Kd.R_drew)); exact (Kd.R_mono (rf8_ (g := gb255) (Kd.R_types HO253.out BK255.out (by decide)) (fun _ hk => hk.2)) (fun _ h_ => h_.1))) hb); replace BK255 := Aside0.mk (blk_below (g := gb255) (o := .cells #[.int .i64 t241, .int .i64 t242, .int .i64 t243, .int .i64 t244, .int .i64 t245, .int .u64 t246, .int .i64 t247, .slice Ao24 t248.length co24] 29 (0, 0)) (bp8_ (bq_ BK255)) hb); replace HB := bs_ w hb; clear hb; replace hc255 := ce8_ BK255) | ((with_reducible refine gate_callee (f := 14) rfl ?_); (try refine ug_ (by rfl) ?_); refine goesA_ (some 33) Try.func14 #[.agg #[.int .i64 t241, .int .i64 t242, .int .i64 t243, .int .i64 t244, .int .i64 t245, .int .u64 t246, .int .i64 t247, .slice Ao24 t248.length co24], .agg #[.int .u8 3, .int .i64 1, .int .u64 1, .int .i64 0]] ?_; (with_reducible refine (lease_Step.calls k t241 t242 t243 t244 t245 t246 t247 _ _ t248 3 1 1 0 t258 t259 t260 t261 t262 t263 t264 t265 t268 t269 _ ?side1 ?side2 A4.out).mono ?_); (case side1 => exact cr_ HO250); (case side2 => exact (Kd.R_reads' HO250.out).2.1); rintro e w27 ⟨v266, rfl, ho0, hb⟩; refine ⟨_, rfl, ?_⟩; have HO267 := Aside0.mk (Kd.R_lower (Kd.R_new' (Kd.R_new' (Kd.R_new' ho0 (Kd.R_lt (rs_ HO240))) (Kd.R_lt (rs_ HO250))) (Kd.R_lt (rs_ HO253))) (below_size bh_)); replace HO230 := rb_ HO230 hb; replace HO240 := Aside0.mk (Kd.R_elder' (rs_ HO240) (Kd.R_base ho0) hb); replace HO250 := Aside0.mk (Kd.R_elder' (rs_ HO250) (Kd.R_base ho0) hb); replace HO253 := Aside0.mk (Kd.R_elder' (rs_ HO253) (Kd.R_base ho0) hb); replace BK255 := bb_ BK255 hb; replace HB := bs_ w hb; (try clear hb); (try clear hb2); (try clear hk); (try clear hi); (try clear ho0)) | ((with_reducible refine gate_dst (N := 7) rfl ?_); (try refine ug_ (by rfl) ?_); refine bx_ #[.int .i64 0, .int .i64 0, .int .i64 0, .int .i64 0, .int .i64 0, .int .u64 0, .int .i64 0, .slice none 0 0] 29 ?_; intro gb270 hg w28 BK270 hb; have GW270 := bz_ w hg; have NB255_270 := bn_ BK255 hg; have NB270_255 := bm_ BK255 hg; replace HO230 := rb_ HO230 hb; replace HO240 := rb_ HO240 hb; replace HO250 := rb_ HO250 hb; replace HO253 := rb_ HO253 hb; replace HO267 := rb_ HO267 hb; replace BK255 := bb_ BK255 hb; replace HB := bs_ w hb; clear hb hg; replace hn270_255 := NB270_255.out; replace hn255_270 := NB255_270.out; replace hc270 := ce8_ BK270; obtain ⟨Ao31, co31, eo31⟩ := Kd.R_slice HO267.out; subst eo31) | ((with_reducible refine gate_callee (f := 15) rfl ?_); (try refine ug_ (by rfl) ?_); refine goesA_ (some 39) Try.func15 #[.agg #[.int .i64 t258, .int .i64 t259, .int .i64 t260, .int .i64 t261, .int .i64 t262, .int .u64 t263, .int .i64 t264, .slice Ao31 t265.length co31]] ?_; (with_reducible refine (lease_Out.calls k t258 t259 t260 t261 t262 t263 t264 _ _ t265 t271 t272 _ ?side1 ?side2 A5.out).mono ?_); (case side1 => refine (Kd.R_reads' (e := 2) (base := w.heap.size) (ok := fun k_ => (((True ∧ some k_ ≠ (.slice Ao19 t238.length co19 : Value).ownBlock) ∧ some k_ ≠ (.slice Ao24 t248.length co24 : Value).ownBlock) ∧ some k_ ≠ (v252 : Value).ownBlock)) (n := t265.length) (c := co31) ?_).2.2; exact (by (with_reducible repeat (first | apply Kd.R_alloc | apply Kd.R_drewN | apply Kd.R_drew)); exact (Kd.R_mono (rf8_ (g := gb270) (Kd.R_types HO267.out BK270.out (by decide)) (fun _ hk => hk.2)) (fun _ h_ => h_.1)))); (case side2 => exact (Kd.R_reads' HO267.out).2.1); rintro e w32 ⟨rfl, hb⟩; refine ⟨_, rfl, ?_⟩; replace HO230 := Aside0.mk (Kd.R_below (by (with_reducible repeat (first | apply Kd.R_alloc | apply Kd.R_drewN | apply Kd.R_drew)); exact (Kd.R_mono (rf8_ (g := gb270) (Kd.R_types HO230.out BK270.out (by decide)) (fun _ hk => hk.2)) (fun _ h_ => h_.1))) hb); replace HO240 := Aside0.mk (Kd.R_below (by (with_reducible repeat (first | apply Kd.R_alloc | apply Kd.R_drewN | apply Kd.R_drew)); exact (Kd.R_mono (rf8_ (g := gb270) (Kd.R_types HO240.out BK270.out (by decide)) (fun _ hk => hk.2)) (fun _ h_ => h_.1))) hb); replace HO250 := Aside0.mk (Kd.R_below (by (with_reducible repeat (first | apply Kd.R_alloc | apply Kd.R_drewN | apply Kd.R_drew)); exact (Kd.R_mono (rf8_ (g := gb270) (Kd.R_types HO250.out BK270.out (by decide)) (fun _ hk => hk.2)) (fun _ h_ => h_.1))) hb); replace HO253 := Aside0.mk (Kd.R_below (by (with_reducible repeat (first | apply Kd.R_alloc | apply Kd.R_drewN | apply Kd.R_drew)); exact (Kd.R_mono (rf8_ (g := gb270) (Kd.R_types HO253.out BK270.out (by decide)) (fun _ hk => hk.2)) (fun _ h_ => h_.1))) hb); replace HO267 := Aside0.mk (Kd.R_below (by (with_reducible repeat (first | apply Kd.R_alloc | apply Kd.R_drewN | apply Kd.R_drew)); exact (Kd.R_mono (rf8_ (g := gb270) (Kd.R_types HO267.out BK270.out (by decide)) (fun _ hk => hk.2)) (fun _ h_ => h_.1))) hb); replace BK255 := bf_ BK255 hb; replace BK270 := Aside0.mk (blk_below (g := gb270) (o := .cells #[.int .i64 t258, .int .i64 t259, .int .i64 t260, .int .i64 t261, .int .i64 t262, .int .u64 t263, .int .i64 t264, .slice Ao31 t265.length co31] 29 (0, 0)) (bp8_ (bq_ BK270)) hb); replace HB := bs_ w hb; clear hb) | ((with_reducible refine gate_dst (N := 46) rfl ?_); (try refine ug_ (by rfl) ?_); refine Kd.R_lit (Kd.int .i64) _ 2 ?hg (N := 46) ?hd (xs := ([4, 4, 3, (-1), 3] : List Int)) (inner := [.int .i64 4, .int .i64 4, .int .i64 3, .int .i64 (-1), .int .i64 3]) (ok := fun _ => True) (okp := fun _ => True) ?hr ?hp (fun _ hk => hk) trivial (Below.refl _ _) (Nat.le_refl _) (by simp) ?_; (case hd => rfl); (case hg => rfl); (case hr => first | (go_simp; done) | (go_simp; rfl)); (case hp => exact (Reps.one (show Kd.M (Kd.int .i64) _ _ _ 4 [.int .i64 4] from rfl) (Reps.one (show Kd.M (Kd.int .i64) _ _ _ 4 [.int .i64 4] from rfl) (Reps.one (show Kd.M (Kd.int .i64) _ _ _ 3 [.int .i64 3] from rfl) (Reps.one (show Kd.M (Kd.int .i64) _ _ _ (-1) [.int .i64 (-1)] from rfl) (Reps.one (show Kd.M (Kd.int .i64) _ _ _ 3 [.int .i64 3] from rfl) (Reps.none _ _))))))); intro v274 w33 ho34 hb hg_ hnew_; clear hg_ hnew_; (first | rw [← Ny273.out] at ho34 | (simp only [Int.reduceToNat] at ho34; rw [← Ny273.out] at ho34)); have HO275 := Aside0.mk (Kd.R_lower (Kd.R_new' (Kd.R_new' (Kd.R_new' (Kd.R_new' ho34 (Kd.R_lt (rs_ HO240))) (Kd.R_lt (rs_ HO250))) (Kd.R_lt (rs_ HO253))) (Kd.R_lt (rs_ HO267))) (below_size bh_)); replace HO230 := rb_ HO230 hb; replace HO240 := Aside0.mk (Kd.R_elder' (rs_ HO240) (Kd.R_base ho34) hb); replace HO250 := Aside0.mk (Kd.R_elder' (rs_ HO250) (Kd.R_base ho34) hb); replace HO253 := Aside0.mk (Kd.R_elder' (rs_ HO253) (Kd.R_base ho34) hb); replace HO267 := Aside0.mk (Kd.R_elder' (rs_ HO267) (Kd.R_base ho34) hb); replace BK255 := bb_ BK255 hb; replace BK270 := bb_ BK270 hb; replace HB := bs_ w hb; clear hb ho34; obtain ⟨Ao35, co35, eo35⟩ := Kd.R_slice HO253.out; subst eo35; obtain ⟨Ao36, co36, eo36⟩ := Kd.R_slice HO275.out; subst eo36) | (go_at_call 21; (with_reducible refine (spigotref42_SameLongs.calls k _ _ t251 _ _ y273 true _ ?side1 ?side2 ?side3 ?side4 A7.out).mono ?_); (case side1 => exact cr_ HO253); (case side2 => exact (Kd.R_reads' HO253.out).2.1); (case side3 => exact cr_ HO275); (case side4 => exact (Kd.R_reads' HO275.out).2.1); rintro e w' ⟨rfl, ⟨nd, rfl⟩⟩; replace hc255 := ce8_ BK255; replace hc270 := ce8_ BK270))
  go_ret
  exact fi_
 ·replace c8 := Bool.eq_false_iff.mpr c8
  subst c8
  replace H : (none) = some r := by rw [if_neg (show ¬ (false = true) by decide)] at H; exact H
  exact absurd H (by simp)

/-! ### spigotref42_Great: function 11 -/
def spigotref42_Great.f (a0_0 : Int) (a0_1 : Int) (a0_2 : Int) (a0_3 : Int) (a0_4 : Int) (a0_5 : Int) (a0_6 : Int) (l0_7 : List Int) (l1 : List (S31)) : Option (Bool) := if (l0_7.length : Int) > 30 then (some true) else (if (l1.length : Int) > 30 then (if (l1.length : Int) ≤ 100 then (some true) else (some (decide ((l1.length : Int) > 150)))) else (some (decide ((l1.length : Int) > 150))))
set_option maxHeartbeats 8000000 in
set_option maxRecDepth 100000 in
theorem spigotref42_Great.calls (a0_0 : Int) (a0_1 : Int) (a0_2 : Int) (a0_3 : Int) (a0_4 : Int) (a0_5 : Int) (a0_6 : Int) (A0_7 : Option Addr) (c0_7 : Nat) (l0_7 : List Int) (A1 : Option Addr) (c1 : Nat) (l1 : List (S31)) (r : Bool) (w : World) (hr0_7 : Kd.C (Kd.int .i64) w A0_7 l0_7.length l0_7) (hc0_7 : l0_7.length ≤ c0_7) (hr1 : Kd.C k31 w A1 l1.length l1) (hc1 : l1.length ≤ c1) (h : spigotref42_Great.f a0_0 a0_1 a0_2 a0_3 a0_4 a0_5 a0_6 l0_7 l1 = some r) :
  Calls Try.prog 11 #[.agg #[.int .i64 a0_0, .int .i64 a0_1, .int .i64 a0_2, .int .i64 a0_3, .int .i64 a0_4, .int .u64 a0_5, .int .i64 a0_6, .slice A0_7 l0_7.length c0_7], .slice A1 l1.length c1] w fun e w' => e = .returned (.bool r) ∧ Below w.heap.size w w' := by
 have hu29 := Try.underlying29
 have HR0_7 := Aside0.mk hr0_7
 have HC0_7 := Aside0.mk hc0_7
 clear hr0_7 hc0_7
 have HR1 := Aside0.mk hr1
 have HC1 := Aside0.mk hc1
 clear hr1 hc1
 have HB := Aside0.mk (Below.refl w.heap.size w)
 have H : (if (l0_7.length : Int) > 30 then (some true) else (if (l1.length : Int) > 30 then (if (l1.length : Int) ≤ 100 then (some true) else (some (decide ((l1.length : Int) > 150)))) else (some (decide ((l1.length : Int) > 150))))) = some r := h
 clear h
 by_cases c3 : (l0_7.length : Int) > 30
 ·rw [if_pos c3] at H
  have c3b0 : decide (30 < (l0_7.length : Int)) = true := decide_eq_true c3
  have c3b1 : decide (30 < l0_7.length) = true := decide_eq_true (by omega)
  clear c3
  obtain rfl := Option.some.inj H
  go_enter Try.func11, Try.ntmps11
  go_wp2_with (first | ((with_reducible refine gate_dst (N := 2) rfl ?_); (try refine ug_ (by rfl) ?_); refine bx_ #[.int .i64 a0_0, .int .i64 a0_1, .int .i64 a0_2, .int .i64 a0_3, .int .i64 a0_4, .int .u64 a0_5, .int .i64 a0_6, .slice A0_7 l0_7.length c0_7] 29 ?_; intro gb277 hg w4 BK277 hb; have GW277 := bz_ w hg; have GE277 := GW277; replace HB := bs_ w hb; clear hb hg; replace hc277 := ce8_ BK277))
  go_ret
  exact fi_
 ·rw [if_neg c3] at H
  have c3b0 : decide (30 < (l0_7.length : Int)) = false := decide_eq_false c3
  have c3b1 : decide (30 < l0_7.length) = false := decide_eq_false (by omega)
  clear c3
  by_cases c6 : (l1.length : Int) > 30
  ·rw [if_pos c6] at H
   have c6b0 : decide (30 < (l1.length : Int)) = true := decide_eq_true c6
   have c6b1 : decide (30 < l1.length) = true := decide_eq_true (by omega)
   clear c6
   by_cases c7 : (l1.length : Int) ≤ 100
   ·rw [if_pos c7] at H
    have c7b0 : decide ((l1.length : Int) ≤ 100) = true := decide_eq_true c7
    have c7b1 : decide (l1.length ≤ 100) = true := decide_eq_true (by omega)
    clear c7
    obtain rfl := Option.some.inj H
    go_enter Try.func11, Try.ntmps11
    go_wp2_with (first | ((with_reducible refine gate_dst (N := 2) rfl ?_); (try refine ug_ (by rfl) ?_); refine bx_ #[.int .i64 a0_0, .int .i64 a0_1, .int .i64 a0_2, .int .i64 a0_3, .int .i64 a0_4, .int .u64 a0_5, .int .i64 a0_6, .slice A0_7 l0_7.length c0_7] 29 ?_; intro gb277 hg w8 BK277 hb; have GW277 := bz_ w hg; have GE277 := GW277; replace HB := bs_ w hb; clear hb hg; replace hc277 := ce8_ BK277))
    go_ret
    exact fi_
   ·rw [if_neg c7] at H
    have c7b0 : decide ((l1.length : Int) ≤ 100) = false := decide_eq_false c7
    have c7b1 : decide (l1.length ≤ 100) = false := decide_eq_false (by omega)
    clear c7
    obtain rfl := Option.some.inj H
    go_enter Try.func11, Try.ntmps11
    go_wp2_with (first | ((with_reducible refine gate_dst (N := 2) rfl ?_); (try refine ug_ (by rfl) ?_); refine bx_ #[.int .i64 a0_0, .int .i64 a0_1, .int .i64 a0_2, .int .i64 a0_3, .int .i64 a0_4, .int .u64 a0_5, .int .i64 a0_6, .slice A0_7 l0_7.length c0_7] 29 ?_; intro gb277 hg w10 BK277 hb; have GW277 := bz_ w hg; have GE277 := GW277; replace HB := bs_ w hb; clear hb hg; replace hc277 := ce8_ BK277))
    go_ret
    exact fi_
  ·rw [if_neg c6] at H
   have c6b0 : decide (30 < (l1.length : Int)) = false := decide_eq_false c6
   have c6b1 : decide (30 < l1.length) = false := decide_eq_false (by omega)
   clear c6
   obtain rfl := Option.some.inj H
   go_enter Try.func11, Try.ntmps11
   go_wp2_with (first | ((with_reducible refine gate_dst (N := 2) rfl ?_); (try refine ug_ (by rfl) ?_); refine bx_ #[.int .i64 a0_0, .int .i64 a0_1, .int .i64 a0_2, .int .i64 a0_3, .int .i64 a0_4, .int .u64 a0_5, .int .i64 a0_6, .slice A0_7 l0_7.length c0_7] 29 ?_; intro gb277 hg w12 BK277 hb; have GW277 := bz_ w hg; have GE277 := GW277; replace HB := bs_ w hb; clear hb hg; replace hc277 := ce8_ BK277))
   go_ret
   exact fi_

end Go.Proofs.Ytbfdpodlnijeoaa.X
