-- written by xprint.py, a program of this session over the kit's print
import Derived.Test.YtcdmjdghmbdikaaX0
import Derived.Test.YtcdmjdghmbdikaaX1
import Derived.Test.YtcdmjdghmbdikaaX3
import Derived.Test.YtcdmjdghmbdikaaX11
namespace Go.Proofs.Ytcdmjdghmbdikaa.X
open Go.RowKit Go.Proofs.YtcdmjdghmbdikaaW.PrintWords Go.Proofs.YtcdmjdghmbdikaaW.PrintLast Go.Proofs.YtcdmjdghmbdikaaW.PrintMore
attribute [local go_sem] max2_int min2_int max_two min_two max_three min_three max_four min_four   -- for this text's walks alone
set_option linter.unusedVariables false
set_option linter.unusedSimpArgs false

attribute [local go_sem high] eqA25
/-! ### spigotlaw21_TallyParts: function 6 -/
mutual
def spigotlaw21_TallyParts.j0 : Nat → List Int → Int → Bool → Bool → Int → Int → Int → Option (Bool)
  | 0, _, _, _, _, _, _, _ => none
  | k + 1, x1, x2, x7, x31, x206000, x206001, x206002 => if x31 = true then (some x7) else (spigotlaw21_TallyParts.l0 k x1 x2 x7 0 x206000 x206001 x206002 x206000 x206001 x206002 0 0 0)
def spigotlaw21_TallyParts.l0 : Nat → List Int → Int → Bool → Int → Int → Int → Int → Int → Int → Int → Int → Int → Int → Option (Bool)
  | 0, _, _, _, _, _, _, _, _, _, _, _, _, _ => none
  | k + 1, x1, x2, x7, x11, x208000, x208001, x208002, x209000, x209001, x209002, x210000, x210001, x210002 => if x11 < (x1.length : Int) then (if 0 ≤ x11 then ((tally_Count.f x208000 x208001 x208002 ((Int.tmod (rd x1 x11) 2) == 0) (rd x1 x11)).bind fun bt215 => (if bt215.1 < x208000 then (none) else (if bt215.2.1 < x208001 then (none) else (if bt215.2.2 < x208002 then (none) else (if x11 < x2 then ((tally_Count.f x209000 x209001 x209002 ((Int.tmod (rd x1 x11) 2) == 0) (rd x1 x11)).bind fun bt220 => (spigotlaw21_TallyParts.l0 k x1 x2 x7 (wrap64 (x11 + 1)) bt215.1 bt215.2.1 bt215.2.2 bt220.1 bt220.2.1 bt220.2.2 x210000 x210001 x210002)) else ((tally_Count.f x210000 x210001 x210002 ((Int.tmod (rd x1 x11) 2) == 0) (rd x1 x11)).bind fun bt224 => (spigotlaw21_TallyParts.l0 k x1 x2 x7 (wrap64 (x11 + 1)) bt215.1 bt215.2.1 bt215.2.2 x209000 x209001 x209002 bt224.1 bt224.2.1 bt224.2.2))))))) else (none)) else (if x7 = true then ((tally_Add.f x209000 x209001 x209002 x210000 x210001 x210002).bind fun bt210 => (some (bt210.1 == x208000 && (bt210.2.1 == x208001 && (bt210.2.2 == x208002))))) else (none))
end
def spigotlaw21_TallyParts.f (k : Nat) (a0_0 : Int) (a0_1 : Int) (a0_2 : Int) (l1 : List Int) (a2 : Int) : Option (Bool) := (spigotlaw21_alive.f k).bind fun t206 => (if (l1.length : Int) > 60 then (spigotlaw21_TallyParts.j0 k l1 a2 t206 true a0_0 a0_1 a0_2) else (if a2 < 0 then (spigotlaw21_TallyParts.j0 k l1 a2 t206 true a0_0 a0_1 a0_2) else (if a2 > (l1.length : Int) then (spigotlaw21_TallyParts.j0 k l1 a2 t206 true a0_0 a0_1 a0_2) else (spigotlaw21_TallyParts.j0 k l1 a2 t206 (!t206) a0_0 a0_1 a0_2))))
theorem spigotlaw21_TallyParts.mono_l : ∀ k, (∀ y0 y1 y2 y3 y4 y5 y6, LeO (spigotlaw21_TallyParts.j0 k y0 y1 y2 y3 y4 y5 y6) (spigotlaw21_TallyParts.j0 (k + 1) y0 y1 y2 y3 y4 y5 y6)) ∧ (∀ y0 y1 y2 y3 y4 y5 y6 y7 y8 y9 y10 y11 y12, LeO (spigotlaw21_TallyParts.l0 k y0 y1 y2 y3 y4 y5 y6 y7 y8 y9 y10 y11 y12) (spigotlaw21_TallyParts.l0 (k + 1) y0 y1 y2 y3 y4 y5 y6 y7 y8 y9 y10 y11 y12))
  | 0 => ⟨fun _ _ _ _ _ _ _ r h => by simp [spigotlaw21_TallyParts.j0] at h, fun _ _ _ _ _ _ _ _ _ _ _ _ _ r h => by simp [spigotlaw21_TallyParts.l0] at h⟩
  | k + 1 => by
    obtain ⟨ih0, ih1⟩ := spigotlaw21_TallyParts.mono_l k
    refine ⟨?_, ?_⟩
    · intro y0 y1 y2 y3 y4 y5 y6
      unfold spigotlaw21_TallyParts.j0
      repeat' first
      | (with_reducible exact ih0 _ _ _ _ _ _ _)
      | (with_reducible exact ih1 _ _ _ _ _ _ _ _ _ _ _ _ _)
      | (with_reducible exact spigotlaw21_alive.mono _)
      | (with_reducible exact LeO.refl _)
      | (with_reducible exact LeO.none _)
      | (with_reducible refine LeO.ite ?_ ?_)
      | (with_reducible refine LeO.bind ?_ (fun _ => ?_))
      | exact ih0 _ _ _ _ _ _ _
      | exact ih1 _ _ _ _ _ _ _ _ _ _ _ _ _
      | exact spigotlaw21_alive.mono _
      | exact LeO.none _
      | refine LeO.ite ?_ ?_
      | refine LeO.bind ?_ (fun _ => ?_)
    · intro y0 y1 y2 y3 y4 y5 y6 y7 y8 y9 y10 y11 y12
      unfold spigotlaw21_TallyParts.l0
      repeat' first
      | (with_reducible exact ih0 _ _ _ _ _ _ _)
      | (with_reducible exact ih1 _ _ _ _ _ _ _ _ _ _ _ _ _)
      | (with_reducible exact spigotlaw21_alive.mono _)
      | (with_reducible exact LeO.refl _)
      | (with_reducible exact LeO.none _)
      | (with_reducible refine LeO.ite ?_ ?_)
      | (with_reducible refine LeO.bind ?_ (fun _ => ?_))
      | exact ih0 _ _ _ _ _ _ _
      | exact ih1 _ _ _ _ _ _ _ _ _ _ _ _ _
      | exact spigotlaw21_alive.mono _
      | exact LeO.none _
      | refine LeO.ite ?_ ?_
      | refine LeO.bind ?_ (fun _ => ?_)
theorem spigotlaw21_TallyParts.mono : ∀ a0 a1 a2 a3 a4 k, LeO (spigotlaw21_TallyParts.f k a0 a1 a2 a3 a4) (spigotlaw21_TallyParts.f (k + 1) a0 a1 a2 a3 a4) := by
  intro a0 a1 a2 a3 a4 k
  obtain ⟨ih0, ih1⟩ := spigotlaw21_TallyParts.mono_l k
  unfold spigotlaw21_TallyParts.f
  repeat' first
      | (with_reducible exact ih0 _ _ _ _ _ _ _)
      | (with_reducible exact ih1 _ _ _ _ _ _ _ _ _ _ _ _ _)
      | (with_reducible exact spigotlaw21_alive.mono _)
      | (with_reducible exact LeO.refl _)
      | (with_reducible exact LeO.none _)
      | (with_reducible refine LeO.ite ?_ ?_)
      | (with_reducible refine LeO.bind ?_ (fun _ => ?_))
      | exact ih0 _ _ _ _ _ _ _
      | exact ih1 _ _ _ _ _ _ _ _ _ _ _ _ _
      | exact spigotlaw21_alive.mono _
      | exact LeO.none _
      | refine LeO.ite ?_ ?_
      | refine LeO.bind ?_ (fun _ => ?_)
def spigotlaw21_TallyParts.T4 : Bool × List (List Nat × List Nat) := (true, [([], []), ([], []), ([], []), ([], []), ([], []), ([], []), ([3, 0, 0, 3, 4, 5], [0, 3]), ([4, 1, 6, 0, 1, 3, 4, 5, 6], [1, 4]), ([5, 2, 7, 0, 1, 2, 3, 4, 5, 6, 7], [2, 5])])
def spigotlaw21_TallyParts.B4 : List Nat := [0, 0, 0, 0, 0, 0, 57, 123, 255]
theorem spigotlaw21_TallyParts.tab4 : rtab .any (opsOf Try.f6 4) = spigotlaw21_TallyParts.T4 := by kernel_rfl
theorem spigotlaw21_TallyParts.bits4 : waitsOk spigotlaw21_TallyParts.T4.2 spigotlaw21_TallyParts.B4 = true := by kernel_rfl
def spigotlaw21_TallyParts.T9 : Bool × List (List Nat × List Nat) := (true, [([], []), ([], []), ([], []), ([], []), ([2, 3], [2, 3]), ([4], [4]), ([0, 1, 5], [0, 1, 5]), ([], []), ([7, 6, 6, 0, 1, 2, 3, 4, 5, 6, 7], [6, 7])])
def spigotlaw21_TallyParts.B9 : List Nat := [0, 0, 0, 0, 12, 28, 63, 0, 255]
theorem spigotlaw21_TallyParts.tab9 : rtab .any (opsOf Try.f6 9) = spigotlaw21_TallyParts.T9 := by kernel_rfl
theorem spigotlaw21_TallyParts.bits9 : waitsOk spigotlaw21_TallyParts.T9.2 spigotlaw21_TallyParts.B9 = true := by kernel_rfl
def spigotlaw21_TallyParts.T14 : Bool × List (List Nat × List Nat) := (true, [([], []), ([], []), ([], []), ([], []), ([2, 3], [2, 3]), ([4], [4]), ([0, 1, 5], [0, 1, 5]), ([6, 6, 0, 1, 2, 3, 4, 5, 6], [6])])
def spigotlaw21_TallyParts.B14 : List Nat := [0, 0, 0, 0, 12, 28, 63, 127]
theorem spigotlaw21_TallyParts.tab14 : rtab .any (opsOf Try.f6 14) = spigotlaw21_TallyParts.T14 := by kernel_rfl
theorem spigotlaw21_TallyParts.bits14 : waitsOk spigotlaw21_TallyParts.T14.2 spigotlaw21_TallyParts.B14 = true := by kernel_rfl
def spigotlaw21_TallyParts.T15 : Bool × List (List Nat × List Nat) := (true, [([], []), ([], []), ([], []), ([], []), ([2, 3], [2, 3]), ([4], [4]), ([0, 1, 5], [0, 1, 5]), ([6, 6, 0, 1, 2, 3, 4, 5, 6], [6])])
def spigotlaw21_TallyParts.B15 : List Nat := [0, 0, 0, 0, 12, 28, 63, 127]
theorem spigotlaw21_TallyParts.tab15 : rtab .any (opsOf Try.f6 15) = spigotlaw21_TallyParts.T15 := by kernel_rfl
theorem spigotlaw21_TallyParts.bits15 : waitsOk spigotlaw21_TallyParts.T15.2 spigotlaw21_TallyParts.B15 = true := by kernel_rfl
def spigotlaw21_TallyParts.T16 : Bool × List (List Nat × List Nat) := (true, [([], []), ([0], [0]), ([1], [1]), ([1], [1]), ([2, 3, 1, 1], [1, 2, 3]), ([1], [1]), ([4, 5, 1], [1, 4, 5]), ([1, 6], [1, 6]), ([7, 4, 0, 1, 2, 3, 4, 5, 6, 7], [7])])
def spigotlaw21_TallyParts.B16 : List Nat := [0, 1, 3, 3, 15, 3, 63, 127, 255]
theorem spigotlaw21_TallyParts.tab16 : rtab .any (opsOf Try.f6 16) = spigotlaw21_TallyParts.T16 := by kernel_rfl
theorem spigotlaw21_TallyParts.bits16 : waitsOk spigotlaw21_TallyParts.T16.2 spigotlaw21_TallyParts.B16 = true := by kernel_rfl
set_option maxHeartbeats 8000000 in
set_option maxRecDepth 100000 in
theorem spigotlaw21_TallyParts.calls (k : Nat) (a0_0 : Int) (a0_1 : Int) (a0_2 : Int) (A1 : Option Addr) (c1 : Nat) (l1 : List Int) (a2 : Int) (r : Bool) (w : World) (hr1 : Kd.C (Kd.int .u32) w A1 l1.length l1) (hc1 : l1.length ≤ c1) (h : spigotlaw21_TallyParts.f k a0_0 a0_1 a0_2 l1 a2 = some r) :
  Calls Try.prog 6 #[.agg #[.int .u64 a0_0, .int .u64 a0_1, .int .u64 a0_2], .slice A1 l1.length c1, .int .i64 a2] w fun e w' => e = .returned (.bool r) ∧ Below w.heap.size w w' := by
 have hu25 := Try.underlying25
 have HR1 := Aside0.mk hr1
 have HC1 := Aside0.mk hc1
 clear hr1 hc1
 have HB := Aside0.mk (Below.refl w.heap.size w)
 have H : ((spigotlaw21_alive.f k).bind fun t206 => (if (l1.length : Int) > 60 then (spigotlaw21_TallyParts.j0 k l1 a2 t206 true a0_0 a0_1 a0_2) else (if a2 < 0 then (spigotlaw21_TallyParts.j0 k l1 a2 t206 true a0_0 a0_1 a0_2) else (if a2 > (l1.length : Int) then (spigotlaw21_TallyParts.j0 k l1 a2 t206 true a0_0 a0_1 a0_2) else (spigotlaw21_TallyParts.j0 k l1 a2 t206 (!t206) a0_0 a0_1 a0_2))))) = some r := h
 clear h
 replace H := Option.bind_eq_some_iff.mp H
 obtain ⟨t206, A40, H⟩ := H
 try dsimp only at H
 have A4 := Aside0.mk A40
 clear A40
 have HC5 := Aside0.mk H
 clear H
 go_enter Try.func6, Try.ntmps6
 go_upto_region 2 with (first | ((with_reducible refine gate_dst (N := 3) rfl ?_); refine box_event ?hg (N := 3) ?hd (cs := #[.int .u64 a0_0, .int .u64 a0_1, .int .u64 a0_2]) (t := 25) ?hr ?_; (case hd => rfl); (case hg => rfl); (case hr => first | (go_simp; done) | (go_simp; rfl)); intro gb205 hg w6 hbox hb; have BK205 := Aside0.mk (hbox); have GW205 := Aside0.mk ((by rw [hg]; exact (below_size (hq_ HB)) : w.heap.size ≤ gb205)); have GE205 := GW205; replace HB := Aside0.mk (below_step (hq_ HB) hb); clear hb hbox hg) | ((with_reducible refine gate_callee (f := 17) rfl ?_); refine goesL_ (some 14) rfl rfl Try.func17 (by kernel_rfl) rfl #[] rfl (by (try simp only [List.map_toArray, List.map_cons, List.map_nil]); first | done | rfl | (simp only [List.length_drop, List.length_take]; rfl)) ?_; (with_reducible refine (spigotlaw21_alive.calls k  t206 _ A4.out).mono ?_); rintro e w7 ⟨rfl, hb⟩; refine ⟨_, rfl, ?_⟩; replace BK205 := bb_ BK205 hb; replace HB := Aside0.mk (below_step (by repeat (first | (with_reducible first | exact HB.out | apply below_alloc | apply pw_below_drewN | apply below_drew1 | refine below_set ?_ (Aside0.out (by assumption))) | exact HB.out)) hb); (try clear hb); (try clear hb2); (try clear hk); (try clear hi)))
 (try simp only [Act.put, List.setIfInBounds_toArray, List.set_cons_zero, List.set_cons_succ])
 go_cut [31] (fun v31 wc => ∃ (kq : Nat) (x31_4 : Bool), v31 = .bool x31_4 ∧ Aside0 (spigotlaw21_TallyParts.j0 kq l1 a2 t206 x31_4 a0_0 a0_1 a0_2 = some r) ∧ Aside0 (kq ≤ k) ∧ Aside0 (wc.heap[gb205]? = some (.cells #[.int .u64 a0_0, .int .u64 a0_1, .int .u64 a0_2] 25 (0, 0))) ∧ Aside0 (Below w.heap.size w wc))
 case first =>
  have H := HC5.out
  clear HC5
  by_cases c8 : (l1.length : Int) > 60
  ·rw [if_pos c8] at H
   have c8b0 : decide (60 < (l1.length : Int)) = true := decide_eq_true c8
   have c8b1 : decide (60 < l1.length) = true := decide_eq_true (by omega)
   clear c8
   (first | rw [c8b0] | (simp only [i64_w, i32_w]; rw [c8b0]) | skip)
   have H' := Aside0.mk H
   clear H
   go_wp2
   go_meet
   case rel => exact ⟨_, (true), (by first | rfl | (simp; done) | (simp [*]; done)), H', ⟨by first | omega | exact Nat.le_refl _⟩, ⟨by (with_reducible repeat (first | refine blk_drewN ?_ _ | refine blk_drew ?_ | refine blk_alloc ?_ _)); exact BK205.out⟩, ⟨by repeat (first | (with_reducible first | exact HB.out | apply below_alloc | apply pw_below_drewN | apply below_drew1 | refine below_set ?_ GE205.out) | exact HB.out)⟩⟩
  ·rw [if_neg c8] at H
   have c8b0 : decide (60 < (l1.length : Int)) = false := decide_eq_false c8
   have c8b1 : decide (60 < l1.length) = false := decide_eq_false (by omega)
   clear c8
   (first | rw [c8b0] | (simp only [i64_w, i32_w]; rw [c8b0]) | skip)
   by_cases c9 : a2 < 0
   ·rw [if_pos c9] at H
    have c9b0 : decide (a2 < 0) = true := decide_eq_true c9
    clear c9
    have H' := Aside0.mk H
    clear H
    go_wp2
    go_meet
    case rel => exact ⟨_, (true), (by first | rfl | (simp; done) | (simp [*]; done)), H', ⟨by first | omega | exact Nat.le_refl _⟩, ⟨by (with_reducible repeat (first | refine blk_drewN ?_ _ | refine blk_drew ?_ | refine blk_alloc ?_ _)); exact BK205.out⟩, ⟨by repeat (first | (with_reducible first | exact HB.out | apply below_alloc | apply pw_below_drewN | apply below_drew1 | refine below_set ?_ GE205.out) | exact HB.out)⟩⟩
   ·rw [if_neg c9] at H
    have c9b0 : decide (a2 < 0) = false := decide_eq_false c9
    clear c9
    by_cases c10 : a2 > (l1.length : Int)
    ·rw [if_pos c10] at H
     have c10b0 : decide ((l1.length : Int) < a2) = true := decide_eq_true c10
     clear c10
     have H' := Aside0.mk H
     clear H
     go_wp2
     go_meet
     case rel => exact ⟨_, (true), (by first | rfl | (simp; done) | (simp [*]; done)), H', ⟨by first | omega | exact Nat.le_refl _⟩, ⟨by (with_reducible repeat (first | refine blk_drewN ?_ _ | refine blk_drew ?_ | refine blk_alloc ?_ _)); exact BK205.out⟩, ⟨by repeat (first | (with_reducible first | exact HB.out | apply below_alloc | apply pw_below_drewN | apply below_drew1 | refine below_set ?_ GE205.out) | exact HB.out)⟩⟩
    ·rw [if_neg c10] at H
     have c10b0 : decide ((l1.length : Int) < a2) = false := decide_eq_false c10
     clear c10
     have H' := Aside0.mk H
     clear H
     go_wp2
     go_meet
     case rel => exact ⟨_, (!t206), (by first | rfl | (simp; done) | (simp [*]; done)), H', ⟨by first | omega | exact Nat.le_refl _⟩, ⟨by (with_reducible repeat (first | refine blk_drewN ?_ _ | refine blk_drew ?_ | refine blk_alloc ?_ _)); exact BK205.out⟩, ⟨by repeat (first | (with_reducible first | exact HB.out | apply below_alloc | apply pw_below_drewN | apply below_drew1 | refine below_set ?_ GE205.out) | exact HB.out)⟩⟩
 case rest =>
  clear HC5
  try clear c1
  try clear p2
  try clear c6
  try clear c8
  try clear c8b0
  try clear c8b1
  try clear c9
  try clear c9b0
  try clear c10
  try clear c10b0
  obtain ⟨kq, x31_4, rfl, HA, HJ4, BK205, HB⟩ := hcut
  cases kq with
  | zero => exact absurd HA.out (by simp [spigotlaw21_TallyParts.j0])
  | succ kj4 =>
   have H := HA.out
   clear HA
   simp only [spigotlaw21_TallyParts.j0] at H
   by_cases c11 : x31_4 = true
   ·subst c11
    have H1 : (some t206) = some r := by rw [if_pos rfl] at H; exact H
    clear H
    have H := H1
    clear H1
    obtain rfl := Option.some.inj H
    go_wp2
    go_ret
    exact ⟨by first | rfl | (simp [errW_none, errW_some] <;> rfl) | (simp [*, errW_none, errW_some] <;> rfl), by repeat (first | (with_reducible first | exact HB.out | apply below_alloc | apply pw_below_drewN | apply below_drew1 | refine below_set ?_ GE205.out) | exact HB.out)⟩
   ·replace c11 := Bool.eq_false_iff.mpr c11
    subst c11
    have H1 : (spigotlaw21_TallyParts.l0 kj4 l1 a2 t206 0 a0_0 a0_1 a0_2 a0_0 a0_1 a0_2 0 0 0) = some r := by rw [if_neg (show ¬ (false = true) by decide)] at H; exact H
    clear H
    have H := H1
    clear H1
    have H' := Aside0.mk H
    clear H
    try go_wp2
    replace BK205 := Aside0.mk (blk_drew BK205.out)
    replace HB := Aside0.mk (below_drew1 HB.out)
    refine start_ (n := 9) (S := fun w' => w'.cell? ⟨gb205, 0, none⟩ = some (.int .u64 a0_0) ∧ w'.cell? ⟨gb205, 1, none⟩ = some (.int .u64 a0_1) ∧ w'.cell? ⟨gb205, 2, none⟩ = some (.int .u64 a0_2)) (ds := []) #[false, false, false, false, false, false, false, false, false] (by kernel_rfl) rfl rfl ⟨(blk_cell BK205.out 0).trans rfl, (blk_cell BK205.out 1).trans rfl, (blk_cell BK205.out 2).trans rfl⟩ (fun hHeld => ?_); refine with_tabW spigotlaw21_TallyParts.tab4 spigotlaw21_TallyParts.bits4 (fun HT_ HW_ => ?_)
    generalize wc.drew = w12 at BK205 HB hHeld ⊢
    refine pure_ (i := 2) (N := some 35) (v := ?_) (a' := ?_) #[false, false, true, false, false, false, false, false, false] rfl rfl (any_of HT_.out (by kernel_rfl)) (fun _ _ _ h => h) (Or.inl ⟨by rfl, ?_⟩) ?_ ?_
    rotate_left
    ·intro w'
     go_simp
     with_reducible rfl
    rotate_left
    ·simp only [Act.put, List.setIfInBounds_toArray, List.set_cons_zero, List.set_cons_succ, i64_w, i32_w]
     rfl
    refine take_ (i := 0) (N := some 33) (v := ?_) (a' := ?_) #[true, false, true, false, false, false, false, false, false] rfl rfl (take_ofW HT_.out HW_.out (by kernel_rfl)) (fun _ _ _ h => h) (Or.inl ⟨by rfl, ?_⟩) hHeld ?_ ?_
    rotate_left
    ·rintro w' ⟨s0, s1, s2⟩
     go_simp
     with_reducible rfl
    rotate_left
    ·simp only [Act.put, List.setIfInBounds_toArray, List.set_cons_zero, List.set_cons_succ, i64_w, i32_w]
     rfl
    refine take_ (i := 1) (N := some 34) (v := ?_) (a' := ?_) #[true, true, true, false, false, false, false, false, false] rfl rfl (take_ofW HT_.out HW_.out (by kernel_rfl)) (fun _ _ _ h => h) (Or.inl ⟨by rfl, ?_⟩) hHeld ?_ ?_
    rotate_left
    ·rintro w' ⟨s0, s1, s2⟩
     go_simp
     with_reducible rfl
    rotate_left
    ·simp only [Act.put, List.setIfInBounds_toArray, List.set_cons_zero, List.set_cons_succ, i64_w, i32_w]
     rfl
    refine join_ (σ := Nat × Nat × Nat) 3 #[true, true, true, true, true, true, false, false, false] (fun s_ => [(8, .pointer (some ⟨s_.1, 0, none⟩)), (9, .pointer (some ⟨s_.2.1, 0, none⟩)), (10, .pointer (some ⟨s_.2.2, 0, none⟩))]) (fun s_ w' => (w'.cell? ⟨gb205, 0, none⟩ = some (.int .u64 a0_0) ∧ w'.cell? ⟨gb205, 1, none⟩ = some (.int .u64 a0_1) ∧ w'.cell? ⟨gb205, 2, none⟩ = some (.int .u64 a0_2)) ∧ (w'.heap[gb205]? = some (.cells #[.int .u64 a0_0, .int .u64 a0_1, .int .u64 a0_2] 25 (0, 0))) ∧ (w'.heap[s_.1]? = some (.cells #[.int .u64 0, .int .u64 0, .int .u64 0] 25 (0, 0))) ∧ (w'.heap[s_.2.1]? = some (.cells #[.int .u64 0, .int .u64 0, .int .u64 0] 25 (0, 0))) ∧ (w'.heap[s_.2.2]? = some (.cells #[.int .u64 0, .int .u64 0, .int .u64 0] 25 (0, 0))) ∧ (w.heap.size ≤ s_.1) ∧ (w.heap.size ≤ s_.1) ∧ (gb205 ≠ s_.1) ∧ (s_.1 ≠ gb205) ∧ (s_.2.1 ≠ s_.1) ∧ (s_.1 ≠ s_.2.1) ∧ (s_.2.2 ≠ s_.1) ∧ (s_.1 ≠ s_.2.2) ∧ (w.heap.size ≤ s_.2.1) ∧ (w.heap.size ≤ s_.2.1) ∧ (gb205 ≠ s_.2.1) ∧ (s_.2.1 ≠ gb205) ∧ (s_.2.2 ≠ s_.2.1) ∧ (s_.2.1 ≠ s_.2.2) ∧ (w.heap.size ≤ s_.2.2) ∧ (w.heap.size ≤ s_.2.2) ∧ (gb205 ≠ s_.2.2) ∧ (s_.2.2 ≠ gb205) ∧ (Below w.heap.size w w')) ?_ ?_
    rotate_left
    ·intro hJ3_4_5
     refine join_ (σ := Nat × Nat) 4 #[true, true, true, true, true, false, false, false, false] (fun s_ => [(8, .pointer (some ⟨s_.1, 0, none⟩)), (9, .pointer (some ⟨s_.2, 0, none⟩))]) (fun s_ w' => (w'.cell? ⟨gb205, 0, none⟩ = some (.int .u64 a0_0) ∧ w'.cell? ⟨gb205, 1, none⟩ = some (.int .u64 a0_1) ∧ w'.cell? ⟨gb205, 2, none⟩ = some (.int .u64 a0_2)) ∧ (w'.heap[gb205]? = some (.cells #[.int .u64 a0_0, .int .u64 a0_1, .int .u64 a0_2] 25 (0, 0))) ∧ (w'.heap[s_.1]? = some (.cells #[.int .u64 0, .int .u64 0, .int .u64 0] 25 (0, 0))) ∧ (w'.heap[s_.2]? = some (.cells #[.int .u64 0, .int .u64 0, .int .u64 0] 25 (0, 0))) ∧ (w.heap.size ≤ s_.1) ∧ (w.heap.size ≤ s_.1) ∧ (gb205 ≠ s_.1) ∧ (s_.1 ≠ gb205) ∧ (s_.2 ≠ s_.1) ∧ (s_.1 ≠ s_.2) ∧ (w.heap.size ≤ s_.2) ∧ (w.heap.size ≤ s_.2) ∧ (gb205 ≠ s_.2) ∧ (s_.2 ≠ gb205) ∧ (Below w.heap.size w w')) ?_ ?_
     rotate_left
     ·intro hJ3_4
      refine join_ (σ := Nat × Nat) 4 #[true, true, true, true, false, true, false, false, false] (fun s_ => [(8, .pointer (some ⟨s_.1, 0, none⟩)), (10, .pointer (some ⟨s_.2, 0, none⟩))]) (fun s_ w' => (w'.cell? ⟨gb205, 0, none⟩ = some (.int .u64 a0_0) ∧ w'.cell? ⟨gb205, 1, none⟩ = some (.int .u64 a0_1) ∧ w'.cell? ⟨gb205, 2, none⟩ = some (.int .u64 a0_2)) ∧ (w'.heap[gb205]? = some (.cells #[.int .u64 a0_0, .int .u64 a0_1, .int .u64 a0_2] 25 (0, 0))) ∧ (w'.heap[s_.1]? = some (.cells #[.int .u64 0, .int .u64 0, .int .u64 0] 25 (0, 0))) ∧ (w'.heap[s_.2]? = some (.cells #[.int .u64 0, .int .u64 0, .int .u64 0] 25 (0, 0))) ∧ (w.heap.size ≤ s_.1) ∧ (w.heap.size ≤ s_.1) ∧ (gb205 ≠ s_.1) ∧ (s_.1 ≠ gb205) ∧ (s_.2 ≠ s_.1) ∧ (s_.1 ≠ s_.2) ∧ (w.heap.size ≤ s_.2) ∧ (w.heap.size ≤ s_.2) ∧ (gb205 ≠ s_.2) ∧ (s_.2 ≠ gb205) ∧ (Below w.heap.size w w')) ?_ ?_
      rotate_left
      ·intro hJ3_5
       refine join_ (σ := Nat × Nat) 4 #[true, true, true, false, true, true, false, false, false] (fun s_ => [(9, .pointer (some ⟨s_.1, 0, none⟩)), (10, .pointer (some ⟨s_.2, 0, none⟩))]) (fun s_ w' => (w'.cell? ⟨gb205, 0, none⟩ = some (.int .u64 a0_0) ∧ w'.cell? ⟨gb205, 1, none⟩ = some (.int .u64 a0_1) ∧ w'.cell? ⟨gb205, 2, none⟩ = some (.int .u64 a0_2)) ∧ (w'.heap[gb205]? = some (.cells #[.int .u64 a0_0, .int .u64 a0_1, .int .u64 a0_2] 25 (0, 0))) ∧ (w'.heap[s_.1]? = some (.cells #[.int .u64 0, .int .u64 0, .int .u64 0] 25 (0, 0))) ∧ (w'.heap[s_.2]? = some (.cells #[.int .u64 0, .int .u64 0, .int .u64 0] 25 (0, 0))) ∧ (w.heap.size ≤ s_.1) ∧ (w.heap.size ≤ s_.1) ∧ (gb205 ≠ s_.1) ∧ (s_.1 ≠ gb205) ∧ (s_.2 ≠ s_.1) ∧ (s_.1 ≠ s_.2) ∧ (w.heap.size ≤ s_.2) ∧ (w.heap.size ≤ s_.2) ∧ (gb205 ≠ s_.2) ∧ (s_.2 ≠ gb205) ∧ (Below w.heap.size w w')) ?_ ?_
       rotate_left
       ·intro hJ4_5
        refine join_ (σ := Nat) 5 #[true, true, true, true, false, false, false, false, false] (fun s_ => [(8, .pointer (some ⟨s_, 0, none⟩))]) (fun s_ w' => (w'.cell? ⟨gb205, 0, none⟩ = some (.int .u64 a0_0) ∧ w'.cell? ⟨gb205, 1, none⟩ = some (.int .u64 a0_1) ∧ w'.cell? ⟨gb205, 2, none⟩ = some (.int .u64 a0_2)) ∧ (w'.heap[gb205]? = some (.cells #[.int .u64 a0_0, .int .u64 a0_1, .int .u64 a0_2] 25 (0, 0))) ∧ (w'.heap[s_]? = some (.cells #[.int .u64 0, .int .u64 0, .int .u64 0] 25 (0, 0))) ∧ (w.heap.size ≤ s_) ∧ (w.heap.size ≤ s_) ∧ (gb205 ≠ s_) ∧ (s_ ≠ gb205) ∧ (Below w.heap.size w w')) ?_ ?_
        rotate_left
        ·intro hJ3
         refine join_ (σ := Nat) 5 #[true, true, true, false, true, false, false, false, false] (fun s_ => [(9, .pointer (some ⟨s_, 0, none⟩))]) (fun s_ w' => (w'.cell? ⟨gb205, 0, none⟩ = some (.int .u64 a0_0) ∧ w'.cell? ⟨gb205, 1, none⟩ = some (.int .u64 a0_1) ∧ w'.cell? ⟨gb205, 2, none⟩ = some (.int .u64 a0_2)) ∧ (w'.heap[gb205]? = some (.cells #[.int .u64 a0_0, .int .u64 a0_1, .int .u64 a0_2] 25 (0, 0))) ∧ (w'.heap[s_]? = some (.cells #[.int .u64 0, .int .u64 0, .int .u64 0] 25 (0, 0))) ∧ (w.heap.size ≤ s_) ∧ (w.heap.size ≤ s_) ∧ (gb205 ≠ s_) ∧ (s_ ≠ gb205) ∧ (Below w.heap.size w w')) ?_ ?_
         rotate_left
         ·intro hJ4
          refine join_ (σ := Nat) 5 #[true, true, true, false, false, true, false, false, false] (fun s_ => [(10, .pointer (some ⟨s_, 0, none⟩))]) (fun s_ w' => (w'.cell? ⟨gb205, 0, none⟩ = some (.int .u64 a0_0) ∧ w'.cell? ⟨gb205, 1, none⟩ = some (.int .u64 a0_1) ∧ w'.cell? ⟨gb205, 2, none⟩ = some (.int .u64 a0_2)) ∧ (w'.heap[gb205]? = some (.cells #[.int .u64 a0_0, .int .u64 a0_1, .int .u64 a0_2] 25 (0, 0))) ∧ (w'.heap[s_]? = some (.cells #[.int .u64 0, .int .u64 0, .int .u64 0] 25 (0, 0))) ∧ (w.heap.size ≤ s_) ∧ (w.heap.size ≤ s_) ∧ (gb205 ≠ s_) ∧ (s_ ≠ gb205) ∧ (Below w.heap.size w w')) ?_ ?_
          rotate_left
          ·intro hJ5
           refine three_ (i := 3) (j := 4) (k := 5) (Ni := some 8) (Nj := some 9) (Nk := some 10) #[true, true, true, true, false, false, false, false, false] #[true, true, true, false, true, false, false, false, false] #[true, true, true, false, false, true, false, false, false] rfl rfl rfl rfl rfl rfl (three_of HT_.out (by kernel_rfl)) (by decide) (by decide) (by decide) (fun K hK => ?_) (fun K hK => ?_) (fun K hK => ?_)
           ·skip
            refine box_step ?hg (N := 8) ?hd (cs := #[.int .u64 0, .int .u64 0, .int .u64 0]) (t := 25) ?hr ?_; (case hd => rfl); (case hg => rfl); (case hr => first | (go_simp; done) | (go_simp; rfl))
            intro gb207 hg w13 hbox hb
            have BK207 := Aside0.mk (hbox)
            have GW207 := Aside0.mk ((by rw [hg]; exact (below_size (by repeat (first | (with_reducible first | exact HB.out | apply below_alloc | apply pw_below_drewN | apply below_drew1 | refine below_set ?_ (Aside0.out (by assumption))) | exact HB.out))) : w.heap.size ≤ gb207))
            have GE207 := GW207
            have NB205_207 := bn_ BK205 hg
            have NB207_205 := bm_ BK205 hg
            replace BK205 := bb_ BK205 hb
            replace HB := Aside0.mk (below_step (by repeat (first | (with_reducible first | exact HB.out | apply below_alloc | apply pw_below_drewN | apply below_drew1 | refine below_set ?_ (Aside0.out (by assumption))) | exact HB.out)) hb)
            clear hb hbox hg
            refine hK.out _ _ ⟨(blk_cell BK205.out 0).trans rfl, (blk_cell BK205.out 1).trans rfl, (blk_cell BK205.out 2).trans rfl⟩ (fun hHeld => ?_)
            clear hK K
            refine norm_ (a' := ?_) ?_ ?_
            rotate_left
            ·show Act.put _ (some 8) _ = _
             simp only [Act.put, List.setIfInBounds_toArray, List.set_cons_zero, List.set_cons_succ, i64_w, i32_w]
             rfl
            exact norm_ (by first | (simp only [putAll, Act.put, List.setIfInBounds_toArray, List.set_cons_zero, List.set_cons_succ]; done) | (simp only [putAll, Act.put, List.setIfInBounds_toArray, List.set_cons_zero, List.set_cons_succ]; rfl)) (hJ3 (gb207) _ ⟨hHeld, (bq_ BK205), (bq_ BK207), GW207.out, GE207.out, NB205_207.out, NB207_205.out, (by repeat (first | (with_reducible first | exact HB.out | apply below_alloc | apply pw_below_drewN | apply below_drew1 | refine below_set ?_ (Aside0.out (by assumption))) | exact HB.out))⟩)
           ·skip
            refine box_step ?hg (N := 9) ?hd (cs := #[.int .u64 0, .int .u64 0, .int .u64 0]) (t := 25) ?hr ?_; (case hd => rfl); (case hg => rfl); (case hr => first | (go_simp; done) | (go_simp; rfl))
            intro gb208 hg w13 hbox hb
            have BK208 := Aside0.mk (hbox)
            have GW208 := Aside0.mk ((by rw [hg]; exact (below_size (by repeat (first | (with_reducible first | exact HB.out | apply below_alloc | apply pw_below_drewN | apply below_drew1 | refine below_set ?_ (Aside0.out (by assumption))) | exact HB.out))) : w.heap.size ≤ gb208))
            have GE208 := GW208
            have NB205_208 := bn_ BK205 hg
            have NB208_205 := bm_ BK205 hg
            replace BK205 := bb_ BK205 hb
            replace HB := Aside0.mk (below_step (by repeat (first | (with_reducible first | exact HB.out | apply below_alloc | apply pw_below_drewN | apply below_drew1 | refine below_set ?_ (Aside0.out (by assumption))) | exact HB.out)) hb)
            clear hb hbox hg
            refine hK.out _ _ ⟨(blk_cell BK205.out 0).trans rfl, (blk_cell BK205.out 1).trans rfl, (blk_cell BK205.out 2).trans rfl⟩ (fun hHeld => ?_)
            clear hK K
            refine norm_ (a' := ?_) ?_ ?_
            rotate_left
            ·show Act.put _ (some 9) _ = _
             simp only [Act.put, List.setIfInBounds_toArray, List.set_cons_zero, List.set_cons_succ, i64_w, i32_w]
             rfl
            exact norm_ (by first | (simp only [putAll, Act.put, List.setIfInBounds_toArray, List.set_cons_zero, List.set_cons_succ]; done) | (simp only [putAll, Act.put, List.setIfInBounds_toArray, List.set_cons_zero, List.set_cons_succ]; rfl)) (hJ4 (gb208) _ ⟨hHeld, (bq_ BK205), (bq_ BK208), GW208.out, GE208.out, NB205_208.out, NB208_205.out, (by repeat (first | (with_reducible first | exact HB.out | apply below_alloc | apply pw_below_drewN | apply below_drew1 | refine below_set ?_ (Aside0.out (by assumption))) | exact HB.out))⟩)
           ·skip
            refine box_step ?hg (N := 10) ?hd (cs := #[.int .u64 0, .int .u64 0, .int .u64 0]) (t := 25) ?hr ?_; (case hd => rfl); (case hg => rfl); (case hr => first | (go_simp; done) | (go_simp; rfl))
            intro gb209 hg w13 hbox hb
            have BK209 := Aside0.mk (hbox)
            have GW209 := Aside0.mk ((by rw [hg]; exact (below_size (by repeat (first | (with_reducible first | exact HB.out | apply below_alloc | apply pw_below_drewN | apply below_drew1 | refine below_set ?_ (Aside0.out (by assumption))) | exact HB.out))) : w.heap.size ≤ gb209))
            have GE209 := GW209
            have NB205_209 := bn_ BK205 hg
            have NB209_205 := bm_ BK205 hg
            replace BK205 := bb_ BK205 hb
            replace HB := Aside0.mk (below_step (by repeat (first | (with_reducible first | exact HB.out | apply below_alloc | apply pw_below_drewN | apply below_drew1 | refine below_set ?_ (Aside0.out (by assumption))) | exact HB.out)) hb)
            clear hb hbox hg
            refine hK.out _ _ ⟨(blk_cell BK205.out 0).trans rfl, (blk_cell BK205.out 1).trans rfl, (blk_cell BK205.out 2).trans rfl⟩ (fun hHeld => ?_)
            clear hK K
            refine norm_ (a' := ?_) ?_ ?_
            rotate_left
            ·show Act.put _ (some 10) _ = _
             simp only [Act.put, List.setIfInBounds_toArray, List.set_cons_zero, List.set_cons_succ, i64_w, i32_w]
             rfl
            exact norm_ (by first | (simp only [putAll, Act.put, List.setIfInBounds_toArray, List.set_cons_zero, List.set_cons_succ]; done) | (simp only [putAll, Act.put, List.setIfInBounds_toArray, List.set_cons_zero, List.set_cons_succ]; rfl)) (hJ5 (gb209) _ ⟨hHeld, (bq_ BK205), (bq_ BK209), GW209.out, GE209.out, NB205_209.out, NB209_205.out, (by repeat (first | (with_reducible first | exact HB.out | apply below_alloc | apply pw_below_drewN | apply below_drew1 | refine below_set ?_ (Aside0.out (by assumption))) | exact HB.out))⟩)
          ·skip
           rintro gb209 w14 ⟨hS_, h0_, h1_, h2_, h3_, h4_, h5_, h6_⟩
           have BK209 : Aside0 (w14.heap[gb209]? = some (.cells #[.int .u64 0, .int .u64 0, .int .u64 0] 25 (0, 0))) := ⟨h1_⟩
           have GW209 : Aside0 (w.heap.size ≤ gb209) := ⟨h2_⟩
           have GE209 : Aside0 (w.heap.size ≤ gb209) := ⟨h3_⟩
           have NB205_209 : Aside0 (gb205 ≠ gb209) := ⟨h4_⟩
           have NB209_205 : Aside0 (gb209 ≠ gb205) := ⟨h5_⟩
           replace BK205 : Aside0 (w14.heap[gb205]? = some (.cells #[.int .u64 a0_0, .int .u64 a0_1, .int .u64 a0_2] 25 (0, 0))) := ⟨h0_⟩
           replace HB : Aside0 (Below w.heap.size w w14) := ⟨h6_⟩
           clear h0_ h1_ h2_ h3_ h4_ h5_ h6_
           have hHeld : w14.cell? ⟨gb205, 0, none⟩ = some (.int .u64 a0_0) ∧ w14.cell? ⟨gb205, 1, none⟩ = some (.int .u64 a0_1) ∧ w14.cell? ⟨gb205, 2, none⟩ = some (.int .u64 a0_2) := hS_
           refine norm_ (a' := ?_) ?_ ?_
           rotate_left
           ·simp only [putAll, Act.put, List.setIfInBounds_toArray, List.set_cons_zero, List.set_cons_succ]
            rfl
           refine two_ (i := 3) (j := 4) (Ni := some 8) (Nj := some 9) #[true, true, true, true, false, true, false, false, false] #[true, true, true, false, true, true, false, false, false] rfl rfl rfl rfl (two_of HT_.out (by kernel_rfl)) (by decide) (by decide) (fun K hK => ?_) (fun K hK => ?_)
           ·skip
            refine box_step ?hg (N := 8) ?hd (cs := #[.int .u64 0, .int .u64 0, .int .u64 0]) (t := 25) ?hr ?_; (case hd => rfl); (case hg => rfl); (case hr => first | (go_simp; done) | (go_simp; rfl))
            intro gb207 hg w15 hbox hb
            have BK207 := Aside0.mk (hbox)
            have GW207 := Aside0.mk ((by rw [hg]; exact (below_size (by repeat (first | (with_reducible first | exact HB.out | apply below_alloc | apply pw_below_drewN | apply below_drew1 | refine below_set ?_ (Aside0.out (by assumption))) | exact HB.out))) : w.heap.size ≤ gb207))
            have GE207 := GW207
            have NB205_207 := bn_ BK205 hg
            have NB207_205 := bm_ BK205 hg
            have NB209_207 := bn_ BK209 hg
            have NB207_209 := bm_ BK209 hg
            replace BK205 := bb_ BK205 hb
            replace BK209 := bb_ BK209 hb
            replace HB := Aside0.mk (below_step (by repeat (first | (with_reducible first | exact HB.out | apply below_alloc | apply pw_below_drewN | apply below_drew1 | refine below_set ?_ (Aside0.out (by assumption))) | exact HB.out)) hb)
            clear hb hbox hg
            refine hK.out _ _ ⟨(blk_cell BK205.out 0).trans rfl, (blk_cell BK205.out 1).trans rfl, (blk_cell BK205.out 2).trans rfl⟩ (fun hHeld => ?_)
            clear hK K
            refine norm_ (a' := ?_) ?_ ?_
            rotate_left
            ·show Act.put _ (some 8) _ = _
             simp only [Act.put, List.setIfInBounds_toArray, List.set_cons_zero, List.set_cons_succ, i64_w, i32_w]
             rfl
            exact norm_ (by first | (simp only [putAll, Act.put, List.setIfInBounds_toArray, List.set_cons_zero, List.set_cons_succ]; done) | (simp only [putAll, Act.put, List.setIfInBounds_toArray, List.set_cons_zero, List.set_cons_succ]; rfl)) (hJ3_5 (gb207, gb209) _ ⟨hHeld, (bq_ BK205), (bq_ BK207), (bq_ BK209), GW207.out, GE207.out, NB205_207.out, NB207_205.out, NB209_207.out, NB207_209.out, GW209.out, GE209.out, NB205_209.out, NB209_205.out, (by repeat (first | (with_reducible first | exact HB.out | apply below_alloc | apply pw_below_drewN | apply below_drew1 | refine below_set ?_ (Aside0.out (by assumption))) | exact HB.out))⟩)
           ·skip
            refine box_step ?hg (N := 9) ?hd (cs := #[.int .u64 0, .int .u64 0, .int .u64 0]) (t := 25) ?hr ?_; (case hd => rfl); (case hg => rfl); (case hr => first | (go_simp; done) | (go_simp; rfl))
            intro gb208 hg w15 hbox hb
            have BK208 := Aside0.mk (hbox)
            have GW208 := Aside0.mk ((by rw [hg]; exact (below_size (by repeat (first | (with_reducible first | exact HB.out | apply below_alloc | apply pw_below_drewN | apply below_drew1 | refine below_set ?_ (Aside0.out (by assumption))) | exact HB.out))) : w.heap.size ≤ gb208))
            have GE208 := GW208
            have NB205_208 := bn_ BK205 hg
            have NB208_205 := bm_ BK205 hg
            have NB209_208 := bn_ BK209 hg
            have NB208_209 := bm_ BK209 hg
            replace BK205 := bb_ BK205 hb
            replace BK209 := bb_ BK209 hb
            replace HB := Aside0.mk (below_step (by repeat (first | (with_reducible first | exact HB.out | apply below_alloc | apply pw_below_drewN | apply below_drew1 | refine below_set ?_ (Aside0.out (by assumption))) | exact HB.out)) hb)
            clear hb hbox hg
            refine hK.out _ _ ⟨(blk_cell BK205.out 0).trans rfl, (blk_cell BK205.out 1).trans rfl, (blk_cell BK205.out 2).trans rfl⟩ (fun hHeld => ?_)
            clear hK K
            refine norm_ (a' := ?_) ?_ ?_
            rotate_left
            ·show Act.put _ (some 9) _ = _
             simp only [Act.put, List.setIfInBounds_toArray, List.set_cons_zero, List.set_cons_succ, i64_w, i32_w]
             rfl
            exact norm_ (by first | (simp only [putAll, Act.put, List.setIfInBounds_toArray, List.set_cons_zero, List.set_cons_succ]; done) | (simp only [putAll, Act.put, List.setIfInBounds_toArray, List.set_cons_zero, List.set_cons_succ]; rfl)) (hJ4_5 (gb208, gb209) _ ⟨hHeld, (bq_ BK205), (bq_ BK208), (bq_ BK209), GW208.out, GE208.out, NB205_208.out, NB208_205.out, NB209_208.out, NB208_209.out, GW209.out, GE209.out, NB205_209.out, NB209_205.out, (by repeat (first | (with_reducible first | exact HB.out | apply below_alloc | apply pw_below_drewN | apply below_drew1 | refine below_set ?_ (Aside0.out (by assumption))) | exact HB.out))⟩)
         ·skip
          rintro gb208 w14 ⟨hS_, h0_, h1_, h2_, h3_, h4_, h5_, h6_⟩
          have BK208 : Aside0 (w14.heap[gb208]? = some (.cells #[.int .u64 0, .int .u64 0, .int .u64 0] 25 (0, 0))) := ⟨h1_⟩
          have GW208 : Aside0 (w.heap.size ≤ gb208) := ⟨h2_⟩
          have GE208 : Aside0 (w.heap.size ≤ gb208) := ⟨h3_⟩
          have NB205_208 : Aside0 (gb205 ≠ gb208) := ⟨h4_⟩
          have NB208_205 : Aside0 (gb208 ≠ gb205) := ⟨h5_⟩
          replace BK205 : Aside0 (w14.heap[gb205]? = some (.cells #[.int .u64 a0_0, .int .u64 a0_1, .int .u64 a0_2] 25 (0, 0))) := ⟨h0_⟩
          replace HB : Aside0 (Below w.heap.size w w14) := ⟨h6_⟩
          clear h0_ h1_ h2_ h3_ h4_ h5_ h6_
          have hHeld : w14.cell? ⟨gb205, 0, none⟩ = some (.int .u64 a0_0) ∧ w14.cell? ⟨gb205, 1, none⟩ = some (.int .u64 a0_1) ∧ w14.cell? ⟨gb205, 2, none⟩ = some (.int .u64 a0_2) := hS_
          refine norm_ (a' := ?_) ?_ ?_
          rotate_left
          ·simp only [putAll, Act.put, List.setIfInBounds_toArray, List.set_cons_zero, List.set_cons_succ]
           rfl
          refine two_ (i := 3) (j := 5) (Ni := some 8) (Nj := some 10) #[true, true, true, true, true, false, false, false, false] #[true, true, true, false, true, true, false, false, false] rfl rfl rfl rfl (two_of HT_.out (by kernel_rfl)) (by decide) (by decide) (fun K hK => ?_) (fun K hK => ?_)
          ·skip
           refine box_step ?hg (N := 8) ?hd (cs := #[.int .u64 0, .int .u64 0, .int .u64 0]) (t := 25) ?hr ?_; (case hd => rfl); (case hg => rfl); (case hr => first | (go_simp; done) | (go_simp; rfl))
           intro gb207 hg w15 hbox hb
           have BK207 := Aside0.mk (hbox)
           have GW207 := Aside0.mk ((by rw [hg]; exact (below_size (by repeat (first | (with_reducible first | exact HB.out | apply below_alloc | apply pw_below_drewN | apply below_drew1 | refine below_set ?_ (Aside0.out (by assumption))) | exact HB.out))) : w.heap.size ≤ gb207))
           have GE207 := GW207
           have NB205_207 := bn_ BK205 hg
           have NB207_205 := bm_ BK205 hg
           have NB208_207 := bn_ BK208 hg
           have NB207_208 := bm_ BK208 hg
           replace BK205 := bb_ BK205 hb
           replace BK208 := bb_ BK208 hb
           replace HB := Aside0.mk (below_step (by repeat (first | (with_reducible first | exact HB.out | apply below_alloc | apply pw_below_drewN | apply below_drew1 | refine below_set ?_ (Aside0.out (by assumption))) | exact HB.out)) hb)
           clear hb hbox hg
           refine hK.out _ _ ⟨(blk_cell BK205.out 0).trans rfl, (blk_cell BK205.out 1).trans rfl, (blk_cell BK205.out 2).trans rfl⟩ (fun hHeld => ?_)
           clear hK K
           refine norm_ (a' := ?_) ?_ ?_
           rotate_left
           ·show Act.put _ (some 8) _ = _
            simp only [Act.put, List.setIfInBounds_toArray, List.set_cons_zero, List.set_cons_succ, i64_w, i32_w]
            rfl
           exact norm_ (by first | (simp only [putAll, Act.put, List.setIfInBounds_toArray, List.set_cons_zero, List.set_cons_succ]; done) | (simp only [putAll, Act.put, List.setIfInBounds_toArray, List.set_cons_zero, List.set_cons_succ]; rfl)) (hJ3_4 (gb207, gb208) _ ⟨hHeld, (bq_ BK205), (bq_ BK207), (bq_ BK208), GW207.out, GE207.out, NB205_207.out, NB207_205.out, NB208_207.out, NB207_208.out, GW208.out, GE208.out, NB205_208.out, NB208_205.out, (by repeat (first | (with_reducible first | exact HB.out | apply below_alloc | apply pw_below_drewN | apply below_drew1 | refine below_set ?_ (Aside0.out (by assumption))) | exact HB.out))⟩)
          ·skip
           refine box_step ?hg (N := 10) ?hd (cs := #[.int .u64 0, .int .u64 0, .int .u64 0]) (t := 25) ?hr ?_; (case hd => rfl); (case hg => rfl); (case hr => first | (go_simp; done) | (go_simp; rfl))
           intro gb209 hg w15 hbox hb
           have BK209 := Aside0.mk (hbox)
           have GW209 := Aside0.mk ((by rw [hg]; exact (below_size (by repeat (first | (with_reducible first | exact HB.out | apply below_alloc | apply pw_below_drewN | apply below_drew1 | refine below_set ?_ (Aside0.out (by assumption))) | exact HB.out))) : w.heap.size ≤ gb209))
           have GE209 := GW209
           have NB205_209 := bn_ BK205 hg
           have NB209_205 := bm_ BK205 hg
           have NB208_209 := bn_ BK208 hg
           have NB209_208 := bm_ BK208 hg
           replace BK205 := bb_ BK205 hb
           replace BK208 := bb_ BK208 hb
           replace HB := Aside0.mk (below_step (by repeat (first | (with_reducible first | exact HB.out | apply below_alloc | apply pw_below_drewN | apply below_drew1 | refine below_set ?_ (Aside0.out (by assumption))) | exact HB.out)) hb)
           clear hb hbox hg
           refine hK.out _ _ ⟨(blk_cell BK205.out 0).trans rfl, (blk_cell BK205.out 1).trans rfl, (blk_cell BK205.out 2).trans rfl⟩ (fun hHeld => ?_)
           clear hK K
           refine norm_ (a' := ?_) ?_ ?_
           rotate_left
           ·show Act.put _ (some 10) _ = _
            simp only [Act.put, List.setIfInBounds_toArray, List.set_cons_zero, List.set_cons_succ, i64_w, i32_w]
            rfl
           exact norm_ (by first | (simp only [putAll, Act.put, List.setIfInBounds_toArray, List.set_cons_zero, List.set_cons_succ]; done) | (simp only [putAll, Act.put, List.setIfInBounds_toArray, List.set_cons_zero, List.set_cons_succ]; rfl)) (hJ4_5 (gb208, gb209) _ ⟨hHeld, (bq_ BK205), (bq_ BK208), (bq_ BK209), GW208.out, GE208.out, NB205_208.out, NB208_205.out, NB209_208.out, NB208_209.out, GW209.out, GE209.out, NB205_209.out, NB209_205.out, (by repeat (first | (with_reducible first | exact HB.out | apply below_alloc | apply pw_below_drewN | apply below_drew1 | refine below_set ?_ (Aside0.out (by assumption))) | exact HB.out))⟩)
        ·skip
         rintro gb207 w14 ⟨hS_, h0_, h1_, h2_, h3_, h4_, h5_, h6_⟩
         have BK207 : Aside0 (w14.heap[gb207]? = some (.cells #[.int .u64 0, .int .u64 0, .int .u64 0] 25 (0, 0))) := ⟨h1_⟩
         have GW207 : Aside0 (w.heap.size ≤ gb207) := ⟨h2_⟩
         have GE207 : Aside0 (w.heap.size ≤ gb207) := ⟨h3_⟩
         have NB205_207 : Aside0 (gb205 ≠ gb207) := ⟨h4_⟩
         have NB207_205 : Aside0 (gb207 ≠ gb205) := ⟨h5_⟩
         replace BK205 : Aside0 (w14.heap[gb205]? = some (.cells #[.int .u64 a0_0, .int .u64 a0_1, .int .u64 a0_2] 25 (0, 0))) := ⟨h0_⟩
         replace HB : Aside0 (Below w.heap.size w w14) := ⟨h6_⟩
         clear h0_ h1_ h2_ h3_ h4_ h5_ h6_
         have hHeld : w14.cell? ⟨gb205, 0, none⟩ = some (.int .u64 a0_0) ∧ w14.cell? ⟨gb205, 1, none⟩ = some (.int .u64 a0_1) ∧ w14.cell? ⟨gb205, 2, none⟩ = some (.int .u64 a0_2) := hS_
         refine norm_ (a' := ?_) ?_ ?_
         rotate_left
         ·simp only [putAll, Act.put, List.setIfInBounds_toArray, List.set_cons_zero, List.set_cons_succ]
          rfl
         refine two_ (i := 4) (j := 5) (Ni := some 9) (Nj := some 10) #[true, true, true, true, true, false, false, false, false] #[true, true, true, true, false, true, false, false, false] rfl rfl rfl rfl (two_of HT_.out (by kernel_rfl)) (by decide) (by decide) (fun K hK => ?_) (fun K hK => ?_)
         ·skip
          refine box_step ?hg (N := 9) ?hd (cs := #[.int .u64 0, .int .u64 0, .int .u64 0]) (t := 25) ?hr ?_; (case hd => rfl); (case hg => rfl); (case hr => first | (go_simp; done) | (go_simp; rfl))
          intro gb208 hg w15 hbox hb
          have BK208 := Aside0.mk (hbox)
          have GW208 := Aside0.mk ((by rw [hg]; exact (below_size (by repeat (first | (with_reducible first | exact HB.out | apply below_alloc | apply pw_below_drewN | apply below_drew1 | refine below_set ?_ (Aside0.out (by assumption))) | exact HB.out))) : w.heap.size ≤ gb208))
          have GE208 := GW208
          have NB205_208 := bn_ BK205 hg
          have NB208_205 := bm_ BK205 hg
          have NB207_208 := bn_ BK207 hg
          have NB208_207 := bm_ BK207 hg
          replace BK205 := bb_ BK205 hb
          replace BK207 := bb_ BK207 hb
          replace HB := Aside0.mk (below_step (by repeat (first | (with_reducible first | exact HB.out | apply below_alloc | apply pw_below_drewN | apply below_drew1 | refine below_set ?_ (Aside0.out (by assumption))) | exact HB.out)) hb)
          clear hb hbox hg
          refine hK.out _ _ ⟨(blk_cell BK205.out 0).trans rfl, (blk_cell BK205.out 1).trans rfl, (blk_cell BK205.out 2).trans rfl⟩ (fun hHeld => ?_)
          clear hK K
          refine norm_ (a' := ?_) ?_ ?_
          rotate_left
          ·show Act.put _ (some 9) _ = _
           simp only [Act.put, List.setIfInBounds_toArray, List.set_cons_zero, List.set_cons_succ, i64_w, i32_w]
           rfl
          exact norm_ (by first | (simp only [putAll, Act.put, List.setIfInBounds_toArray, List.set_cons_zero, List.set_cons_succ]; done) | (simp only [putAll, Act.put, List.setIfInBounds_toArray, List.set_cons_zero, List.set_cons_succ]; rfl)) (hJ3_4 (gb207, gb208) _ ⟨hHeld, (bq_ BK205), (bq_ BK207), (bq_ BK208), GW207.out, GE207.out, NB205_207.out, NB207_205.out, NB208_207.out, NB207_208.out, GW208.out, GE208.out, NB205_208.out, NB208_205.out, (by repeat (first | (with_reducible first | exact HB.out | apply below_alloc | apply pw_below_drewN | apply below_drew1 | refine below_set ?_ (Aside0.out (by assumption))) | exact HB.out))⟩)
         ·skip
          refine box_step ?hg (N := 10) ?hd (cs := #[.int .u64 0, .int .u64 0, .int .u64 0]) (t := 25) ?hr ?_; (case hd => rfl); (case hg => rfl); (case hr => first | (go_simp; done) | (go_simp; rfl))
          intro gb209 hg w15 hbox hb
          have BK209 := Aside0.mk (hbox)
          have GW209 := Aside0.mk ((by rw [hg]; exact (below_size (by repeat (first | (with_reducible first | exact HB.out | apply below_alloc | apply pw_below_drewN | apply below_drew1 | refine below_set ?_ (Aside0.out (by assumption))) | exact HB.out))) : w.heap.size ≤ gb209))
          have GE209 := GW209
          have NB205_209 := bn_ BK205 hg
          have NB209_205 := bm_ BK205 hg
          have NB207_209 := bn_ BK207 hg
          have NB209_207 := bm_ BK207 hg
          replace BK205 := bb_ BK205 hb
          replace BK207 := bb_ BK207 hb
          replace HB := Aside0.mk (below_step (by repeat (first | (with_reducible first | exact HB.out | apply below_alloc | apply pw_below_drewN | apply below_drew1 | refine below_set ?_ (Aside0.out (by assumption))) | exact HB.out)) hb)
          clear hb hbox hg
          refine hK.out _ _ ⟨(blk_cell BK205.out 0).trans rfl, (blk_cell BK205.out 1).trans rfl, (blk_cell BK205.out 2).trans rfl⟩ (fun hHeld => ?_)
          clear hK K
          refine norm_ (a' := ?_) ?_ ?_
          rotate_left
          ·show Act.put _ (some 10) _ = _
           simp only [Act.put, List.setIfInBounds_toArray, List.set_cons_zero, List.set_cons_succ, i64_w, i32_w]
           rfl
          exact norm_ (by first | (simp only [putAll, Act.put, List.setIfInBounds_toArray, List.set_cons_zero, List.set_cons_succ]; done) | (simp only [putAll, Act.put, List.setIfInBounds_toArray, List.set_cons_zero, List.set_cons_succ]; rfl)) (hJ3_5 (gb207, gb209) _ ⟨hHeld, (bq_ BK205), (bq_ BK207), (bq_ BK209), GW207.out, GE207.out, NB205_207.out, NB207_205.out, NB209_207.out, NB207_209.out, GW209.out, GE209.out, NB205_209.out, NB209_205.out, (by repeat (first | (with_reducible first | exact HB.out | apply below_alloc | apply pw_below_drewN | apply below_drew1 | refine below_set ?_ (Aside0.out (by assumption))) | exact HB.out))⟩)
       ·skip
        rintro ⟨gb208, gb209⟩ w15 ⟨hS_, h0_, h1_, h2_, h3_, h4_, h5_, h6_, h7_, h8_, h9_, h10_, h11_, h12_, h13_⟩
        have BK208 : Aside0 (w15.heap[gb208]? = some (.cells #[.int .u64 0, .int .u64 0, .int .u64 0] 25 (0, 0))) := ⟨h1_⟩
        have BK209 : Aside0 (w15.heap[gb209]? = some (.cells #[.int .u64 0, .int .u64 0, .int .u64 0] 25 (0, 0))) := ⟨h2_⟩
        have GW208 : Aside0 (w.heap.size ≤ gb208) := ⟨h3_⟩
        have GE208 : Aside0 (w.heap.size ≤ gb208) := ⟨h4_⟩
        have NB205_208 : Aside0 (gb205 ≠ gb208) := ⟨h5_⟩
        have NB208_205 : Aside0 (gb208 ≠ gb205) := ⟨h6_⟩
        have NB209_208 : Aside0 (gb209 ≠ gb208) := ⟨h7_⟩
        have NB208_209 : Aside0 (gb208 ≠ gb209) := ⟨h8_⟩
        have GW209 : Aside0 (w.heap.size ≤ gb209) := ⟨h9_⟩
        have GE209 : Aside0 (w.heap.size ≤ gb209) := ⟨h10_⟩
        have NB205_209 : Aside0 (gb205 ≠ gb209) := ⟨h11_⟩
        have NB209_205 : Aside0 (gb209 ≠ gb205) := ⟨h12_⟩
        replace BK205 : Aside0 (w15.heap[gb205]? = some (.cells #[.int .u64 a0_0, .int .u64 a0_1, .int .u64 a0_2] 25 (0, 0))) := ⟨h0_⟩
        replace HB : Aside0 (Below w.heap.size w w15) := ⟨h13_⟩
        clear h0_ h1_ h2_ h3_ h4_ h5_ h6_ h7_ h8_ h9_ h10_ h11_ h12_ h13_
        have hHeld : w15.cell? ⟨gb205, 0, none⟩ = some (.int .u64 a0_0) ∧ w15.cell? ⟨gb205, 1, none⟩ = some (.int .u64 a0_1) ∧ w15.cell? ⟨gb205, 2, none⟩ = some (.int .u64 a0_2) := hS_
        refine norm_ (a' := ?_) ?_ ?_
        rotate_left
        ·simp only [putAll, Act.put, List.setIfInBounds_toArray, List.set_cons_zero, List.set_cons_succ]
         rfl
        refine one_ (i := 3) (N := some 8) #[true, true, true, true, true, true, false, false, false] rfl rfl (one_of HT_.out (by kernel_rfl)) (by decide) (fun K hK => ?_)
        refine box_step ?hg (N := 8) ?hd (cs := #[.int .u64 0, .int .u64 0, .int .u64 0]) (t := 25) ?hr ?_; (case hd => rfl); (case hg => rfl); (case hr => first | (go_simp; done) | (go_simp; rfl))
        intro gb207 hg w16 hbox hb
        have BK207 := Aside0.mk (hbox)
        have GW207 := Aside0.mk ((by rw [hg]; exact (below_size (by repeat (first | (with_reducible first | exact HB.out | apply below_alloc | apply pw_below_drewN | apply below_drew1 | refine below_set ?_ (Aside0.out (by assumption))) | exact HB.out))) : w.heap.size ≤ gb207))
        have GE207 := GW207
        have NB205_207 := bn_ BK205 hg
        have NB207_205 := bm_ BK205 hg
        have NB208_207 := bn_ BK208 hg
        have NB207_208 := bm_ BK208 hg
        have NB209_207 := bn_ BK209 hg
        have NB207_209 := bm_ BK209 hg
        replace BK205 := bb_ BK205 hb
        replace BK208 := bb_ BK208 hb
        replace BK209 := bb_ BK209 hb
        replace HB := Aside0.mk (below_step (by repeat (first | (with_reducible first | exact HB.out | apply below_alloc | apply pw_below_drewN | apply below_drew1 | refine below_set ?_ (Aside0.out (by assumption))) | exact HB.out)) hb)
        clear hb hbox hg
        refine hK.out _ _ ⟨(blk_cell BK205.out 0).trans rfl, (blk_cell BK205.out 1).trans rfl, (blk_cell BK205.out 2).trans rfl⟩ (fun hHeld => ?_)
        clear hK K
        refine norm_ (a' := ?_) ?_ ?_
        rotate_left
        ·show Act.put _ (some 8) _ = _
         simp only [Act.put, List.setIfInBounds_toArray, List.set_cons_zero, List.set_cons_succ, i64_w, i32_w]
         rfl
        exact norm_ (by first | (simp only [putAll, Act.put, List.setIfInBounds_toArray, List.set_cons_zero, List.set_cons_succ]; done) | (simp only [putAll, Act.put, List.setIfInBounds_toArray, List.set_cons_zero, List.set_cons_succ]; rfl)) (hJ3_4_5 (gb207, gb208, gb209) _ ⟨hHeld, (bq_ BK205), (bq_ BK207), (bq_ BK208), (bq_ BK209), GW207.out, GE207.out, NB205_207.out, NB207_205.out, NB208_207.out, NB207_208.out, NB209_207.out, NB207_209.out, GW208.out, GE208.out, NB205_208.out, NB208_205.out, NB209_208.out, NB208_209.out, GW209.out, GE209.out, NB205_209.out, NB209_205.out, (by repeat (first | (with_reducible first | exact HB.out | apply below_alloc | apply pw_below_drewN | apply below_drew1 | refine below_set ?_ (Aside0.out (by assumption))) | exact HB.out))⟩)
      ·skip
       rintro ⟨gb207, gb209⟩ w15 ⟨hS_, h0_, h1_, h2_, h3_, h4_, h5_, h6_, h7_, h8_, h9_, h10_, h11_, h12_, h13_⟩
       have BK207 : Aside0 (w15.heap[gb207]? = some (.cells #[.int .u64 0, .int .u64 0, .int .u64 0] 25 (0, 0))) := ⟨h1_⟩
       have BK209 : Aside0 (w15.heap[gb209]? = some (.cells #[.int .u64 0, .int .u64 0, .int .u64 0] 25 (0, 0))) := ⟨h2_⟩
       have GW207 : Aside0 (w.heap.size ≤ gb207) := ⟨h3_⟩
       have GE207 : Aside0 (w.heap.size ≤ gb207) := ⟨h4_⟩
       have NB205_207 : Aside0 (gb205 ≠ gb207) := ⟨h5_⟩
       have NB207_205 : Aside0 (gb207 ≠ gb205) := ⟨h6_⟩
       have NB209_207 : Aside0 (gb209 ≠ gb207) := ⟨h7_⟩
       have NB207_209 : Aside0 (gb207 ≠ gb209) := ⟨h8_⟩
       have GW209 : Aside0 (w.heap.size ≤ gb209) := ⟨h9_⟩
       have GE209 : Aside0 (w.heap.size ≤ gb209) := ⟨h10_⟩
       have NB205_209 : Aside0 (gb205 ≠ gb209) := ⟨h11_⟩
       have NB209_205 : Aside0 (gb209 ≠ gb205) := ⟨h12_⟩
       replace BK205 : Aside0 (w15.heap[gb205]? = some (.cells #[.int .u64 a0_0, .int .u64 a0_1, .int .u64 a0_2] 25 (0, 0))) := ⟨h0_⟩
       replace HB : Aside0 (Below w.heap.size w w15) := ⟨h13_⟩
       clear h0_ h1_ h2_ h3_ h4_ h5_ h6_ h7_ h8_ h9_ h10_ h11_ h12_ h13_
       have hHeld : w15.cell? ⟨gb205, 0, none⟩ = some (.int .u64 a0_0) ∧ w15.cell? ⟨gb205, 1, none⟩ = some (.int .u64 a0_1) ∧ w15.cell? ⟨gb205, 2, none⟩ = some (.int .u64 a0_2) := hS_
       refine norm_ (a' := ?_) ?_ ?_
       rotate_left
       ·simp only [putAll, Act.put, List.setIfInBounds_toArray, List.set_cons_zero, List.set_cons_succ]
        rfl
       refine one_ (i := 4) (N := some 9) #[true, true, true, true, true, true, false, false, false] rfl rfl (one_of HT_.out (by kernel_rfl)) (by decide) (fun K hK => ?_)
       refine box_step ?hg (N := 9) ?hd (cs := #[.int .u64 0, .int .u64 0, .int .u64 0]) (t := 25) ?hr ?_; (case hd => rfl); (case hg => rfl); (case hr => first | (go_simp; done) | (go_simp; rfl))
       intro gb208 hg w16 hbox hb
       have BK208 := Aside0.mk (hbox)
       have GW208 := Aside0.mk ((by rw [hg]; exact (below_size (by repeat (first | (with_reducible first | exact HB.out | apply below_alloc | apply pw_below_drewN | apply below_drew1 | refine below_set ?_ (Aside0.out (by assumption))) | exact HB.out))) : w.heap.size ≤ gb208))
       have GE208 := GW208
       have NB205_208 := bn_ BK205 hg
       have NB208_205 := bm_ BK205 hg
       have NB207_208 := bn_ BK207 hg
       have NB208_207 := bm_ BK207 hg
       have NB209_208 := bn_ BK209 hg
       have NB208_209 := bm_ BK209 hg
       replace BK205 := bb_ BK205 hb
       replace BK207 := bb_ BK207 hb
       replace BK209 := bb_ BK209 hb
       replace HB := Aside0.mk (below_step (by repeat (first | (with_reducible first | exact HB.out | apply below_alloc | apply pw_below_drewN | apply below_drew1 | refine below_set ?_ (Aside0.out (by assumption))) | exact HB.out)) hb)
       clear hb hbox hg
       refine hK.out _ _ ⟨(blk_cell BK205.out 0).trans rfl, (blk_cell BK205.out 1).trans rfl, (blk_cell BK205.out 2).trans rfl⟩ (fun hHeld => ?_)
       clear hK K
       refine norm_ (a' := ?_) ?_ ?_
       rotate_left
       ·show Act.put _ (some 9) _ = _
        simp only [Act.put, List.setIfInBounds_toArray, List.set_cons_zero, List.set_cons_succ, i64_w, i32_w]
        rfl
       exact norm_ (by first | (simp only [putAll, Act.put, List.setIfInBounds_toArray, List.set_cons_zero, List.set_cons_succ]; done) | (simp only [putAll, Act.put, List.setIfInBounds_toArray, List.set_cons_zero, List.set_cons_succ]; rfl)) (hJ3_4_5 (gb207, gb208, gb209) _ ⟨hHeld, (bq_ BK205), (bq_ BK207), (bq_ BK208), (bq_ BK209), GW207.out, GE207.out, NB205_207.out, NB207_205.out, NB208_207.out, NB207_208.out, NB209_207.out, NB207_209.out, GW208.out, GE208.out, NB205_208.out, NB208_205.out, NB209_208.out, NB208_209.out, GW209.out, GE209.out, NB205_209.out, NB209_205.out, (by repeat (first | (with_reducible first | exact HB.out | apply below_alloc | apply pw_below_drewN | apply below_drew1 | refine below_set ?_ (Aside0.out (by assumption))) | exact HB.out))⟩)
     ·skip
      rintro ⟨gb207, gb208⟩ w15 ⟨hS_, h0_, h1_, h2_, h3_, h4_, h5_, h6_, h7_, h8_, h9_, h10_, h11_, h12_, h13_⟩
      have BK207 : Aside0 (w15.heap[gb207]? = some (.cells #[.int .u64 0, .int .u64 0, .int .u64 0] 25 (0, 0))) := ⟨h1_⟩
      have BK208 : Aside0 (w15.heap[gb208]? = some (.cells #[.int .u64 0, .int .u64 0, .int .u64 0] 25 (0, 0))) := ⟨h2_⟩
      have GW207 : Aside0 (w.heap.size ≤ gb207) := ⟨h3_⟩
      have GE207 : Aside0 (w.heap.size ≤ gb207) := ⟨h4_⟩
      have NB205_207 : Aside0 (gb205 ≠ gb207) := ⟨h5_⟩
      have NB207_205 : Aside0 (gb207 ≠ gb205) := ⟨h6_⟩
      have NB208_207 : Aside0 (gb208 ≠ gb207) := ⟨h7_⟩
      have NB207_208 : Aside0 (gb207 ≠ gb208) := ⟨h8_⟩
      have GW208 : Aside0 (w.heap.size ≤ gb208) := ⟨h9_⟩
      have GE208 : Aside0 (w.heap.size ≤ gb208) := ⟨h10_⟩
      have NB205_208 : Aside0 (gb205 ≠ gb208) := ⟨h11_⟩
      have NB208_205 : Aside0 (gb208 ≠ gb205) := ⟨h12_⟩
      replace BK205 : Aside0 (w15.heap[gb205]? = some (.cells #[.int .u64 a0_0, .int .u64 a0_1, .int .u64 a0_2] 25 (0, 0))) := ⟨h0_⟩
      replace HB : Aside0 (Below w.heap.size w w15) := ⟨h13_⟩
      clear h0_ h1_ h2_ h3_ h4_ h5_ h6_ h7_ h8_ h9_ h10_ h11_ h12_ h13_
      have hHeld : w15.cell? ⟨gb205, 0, none⟩ = some (.int .u64 a0_0) ∧ w15.cell? ⟨gb205, 1, none⟩ = some (.int .u64 a0_1) ∧ w15.cell? ⟨gb205, 2, none⟩ = some (.int .u64 a0_2) := hS_
      refine norm_ (a' := ?_) ?_ ?_
      rotate_left
      ·simp only [putAll, Act.put, List.setIfInBounds_toArray, List.set_cons_zero, List.set_cons_succ]
       rfl
      refine one_ (i := 5) (N := some 10) #[true, true, true, true, true, true, false, false, false] rfl rfl (one_of HT_.out (by kernel_rfl)) (by decide) (fun K hK => ?_)
      refine box_step ?hg (N := 10) ?hd (cs := #[.int .u64 0, .int .u64 0, .int .u64 0]) (t := 25) ?hr ?_; (case hd => rfl); (case hg => rfl); (case hr => first | (go_simp; done) | (go_simp; rfl))
      intro gb209 hg w16 hbox hb
      have BK209 := Aside0.mk (hbox)
      have GW209 := Aside0.mk ((by rw [hg]; exact (below_size (by repeat (first | (with_reducible first | exact HB.out | apply below_alloc | apply pw_below_drewN | apply below_drew1 | refine below_set ?_ (Aside0.out (by assumption))) | exact HB.out))) : w.heap.size ≤ gb209))
      have GE209 := GW209
      have NB205_209 := bn_ BK205 hg
      have NB209_205 := bm_ BK205 hg
      have NB207_209 := bn_ BK207 hg
      have NB209_207 := bm_ BK207 hg
      have NB208_209 := bn_ BK208 hg
      have NB209_208 := bm_ BK208 hg
      replace BK205 := bb_ BK205 hb
      replace BK207 := bb_ BK207 hb
      replace BK208 := bb_ BK208 hb
      replace HB := Aside0.mk (below_step (by repeat (first | (with_reducible first | exact HB.out | apply below_alloc | apply pw_below_drewN | apply below_drew1 | refine below_set ?_ (Aside0.out (by assumption))) | exact HB.out)) hb)
      clear hb hbox hg
      refine hK.out _ _ ⟨(blk_cell BK205.out 0).trans rfl, (blk_cell BK205.out 1).trans rfl, (blk_cell BK205.out 2).trans rfl⟩ (fun hHeld => ?_)
      clear hK K
      refine norm_ (a' := ?_) ?_ ?_
      rotate_left
      ·show Act.put _ (some 10) _ = _
       simp only [Act.put, List.setIfInBounds_toArray, List.set_cons_zero, List.set_cons_succ, i64_w, i32_w]
       rfl
      exact norm_ (by first | (simp only [putAll, Act.put, List.setIfInBounds_toArray, List.set_cons_zero, List.set_cons_succ]; done) | (simp only [putAll, Act.put, List.setIfInBounds_toArray, List.set_cons_zero, List.set_cons_succ]; rfl)) (hJ3_4_5 (gb207, gb208, gb209) _ ⟨hHeld, (bq_ BK205), (bq_ BK207), (bq_ BK208), (bq_ BK209), GW207.out, GE207.out, NB205_207.out, NB207_205.out, NB208_207.out, NB207_208.out, NB209_207.out, NB207_209.out, GW208.out, GE208.out, NB205_208.out, NB208_205.out, NB209_208.out, NB208_209.out, GW209.out, GE209.out, NB205_209.out, NB209_205.out, (by repeat (first | (with_reducible first | exact HB.out | apply below_alloc | apply pw_below_drewN | apply below_drew1 | refine below_set ?_ (Aside0.out (by assumption))) | exact HB.out))⟩)
    rintro ⟨gb207, gb208, gb209⟩ w16 ⟨hS_, h0_, h1_, h2_, h3_, h4_, h5_, h6_, h7_, h8_, h9_, h10_, h11_, h12_, h13_, h14_, h15_, h16_, h17_, h18_, h19_, h20_, h21_, h22_⟩
    have BK207 : Aside0 (w16.heap[gb207]? = some (.cells #[.int .u64 0, .int .u64 0, .int .u64 0] 25 (0, 0))) := ⟨h1_⟩
    have BK208 : Aside0 (w16.heap[gb208]? = some (.cells #[.int .u64 0, .int .u64 0, .int .u64 0] 25 (0, 0))) := ⟨h2_⟩
    have BK209 : Aside0 (w16.heap[gb209]? = some (.cells #[.int .u64 0, .int .u64 0, .int .u64 0] 25 (0, 0))) := ⟨h3_⟩
    have GW207 : Aside0 (w.heap.size ≤ gb207) := ⟨h4_⟩
    have GE207 : Aside0 (w.heap.size ≤ gb207) := ⟨h5_⟩
    have NB205_207 : Aside0 (gb205 ≠ gb207) := ⟨h6_⟩
    have NB207_205 : Aside0 (gb207 ≠ gb205) := ⟨h7_⟩
    have NB208_207 : Aside0 (gb208 ≠ gb207) := ⟨h8_⟩
    have NB207_208 : Aside0 (gb207 ≠ gb208) := ⟨h9_⟩
    have NB209_207 : Aside0 (gb209 ≠ gb207) := ⟨h10_⟩
    have NB207_209 : Aside0 (gb207 ≠ gb209) := ⟨h11_⟩
    have GW208 : Aside0 (w.heap.size ≤ gb208) := ⟨h12_⟩
    have GE208 : Aside0 (w.heap.size ≤ gb208) := ⟨h13_⟩
    have NB205_208 : Aside0 (gb205 ≠ gb208) := ⟨h14_⟩
    have NB208_205 : Aside0 (gb208 ≠ gb205) := ⟨h15_⟩
    have NB209_208 : Aside0 (gb209 ≠ gb208) := ⟨h16_⟩
    have NB208_209 : Aside0 (gb208 ≠ gb209) := ⟨h17_⟩
    have GW209 : Aside0 (w.heap.size ≤ gb209) := ⟨h18_⟩
    have GE209 : Aside0 (w.heap.size ≤ gb209) := ⟨h19_⟩
    have NB205_209 : Aside0 (gb205 ≠ gb209) := ⟨h20_⟩
    have NB209_205 : Aside0 (gb209 ≠ gb205) := ⟨h21_⟩
    replace BK205 : Aside0 (w16.heap[gb205]? = some (.cells #[.int .u64 a0_0, .int .u64 a0_1, .int .u64 a0_2] 25 (0, 0))) := ⟨h0_⟩
    replace HB : Aside0 (Below w.heap.size w w16) := ⟨h22_⟩
    clear h0_ h1_ h2_ h3_ h4_ h5_ h6_ h7_ h8_ h9_ h10_ h11_ h12_ h13_ h14_ h15_ h16_ h17_ h18_ h19_ h20_ h21_ h22_
    have hHeld : w16.cell? ⟨gb205, 0, none⟩ = some (.int .u64 a0_0) ∧ w16.cell? ⟨gb205, 1, none⟩ = some (.int .u64 a0_1) ∧ w16.cell? ⟨gb205, 2, none⟩ = some (.int .u64 a0_2) := hS_
    refine norm_ (a' := ?_) ?_ ?_
    rotate_left
    ·simp only [putAll, Act.put, List.setIfInBounds_toArray, List.set_cons_zero, List.set_cons_succ]
     rfl
    refine one_ (i := 6) (N := none) #[true, true, true, true, true, true, true, false, false] rfl rfl (one_of HT_.out (by kernel_rfl)) (by decide) (fun K hK => ?_)
    have hs17 : w16.cell? ⟨gb207, 0, none⟩ = some (.int .u64 0) := (blk_cell BK207.out 0).trans rfl
    have hfs17 := blk_frozen BK207.out 0
    have hns17_0 := NB205_207.out
    have hns17_2 := NB208_207.out
    have hns17_3 := NB209_207.out
    have hms17_0 := NB207_205.out
    have hms17_2 := NB207_208.out
    have hms17_3 := NB207_209.out
    have hs18 : w16.cell? ⟨gb207, 1, none⟩ = some (.int .u64 0) := (blk_cell BK207.out 1).trans rfl
    have hfs18 := blk_frozen BK207.out 1
    have hns18_0 := NB205_207.out
    have hns18_2 := NB208_207.out
    have hns18_3 := NB209_207.out
    have hms18_0 := NB207_205.out
    have hms18_2 := NB207_208.out
    have hms18_3 := NB207_209.out
    have hs19 : w16.cell? ⟨gb207, 2, none⟩ = some (.int .u64 0) := (blk_cell BK207.out 2).trans rfl
    have hfs19 := blk_frozen BK207.out 2
    have hns19_0 := NB205_207.out
    have hns19_2 := NB208_207.out
    have hns19_3 := NB209_207.out
    have hms19_0 := NB207_205.out
    have hms19_2 := NB207_208.out
    have hms19_3 := NB207_209.out
    refine skip_ (w1 := ?_) (by rfl) rfl ?_ ?_
    rotate_left
    ·go_simp
     rfl
    refine hK.out _ _ ⟨((cell_far (p := ⟨gb207, _, none⟩) NB205_207.out _).trans (((cell_far (p := ⟨gb207, _, none⟩) NB205_207.out _).trans (((cell_far (p := ⟨gb207, _, none⟩) NB205_207.out _).trans (hHeld.1)))))), ((cell_far (p := ⟨gb207, _, none⟩) NB205_207.out _).trans (((cell_far (p := ⟨gb207, _, none⟩) NB205_207.out _).trans (((cell_far (p := ⟨gb207, _, none⟩) NB205_207.out _).trans (hHeld.2.1)))))), ((cell_far (p := ⟨gb207, _, none⟩) NB205_207.out _).trans (((cell_far (p := ⟨gb207, _, none⟩) NB205_207.out _).trans (((cell_far (p := ⟨gb207, _, none⟩) NB205_207.out _).trans (hHeld.2.2))))))⟩ (fun hHeld => ?_)
    clear hK K
    refine one_ (i := 7) (N := none) #[true, true, true, true, true, true, true, true, false] rfl rfl (one_of HT_.out (by kernel_rfl)) (by decide) (fun K hK => ?_)
    have hs20 : w16.cell? ⟨gb208, 0, none⟩ = some (.int .u64 0) := (blk_cell BK208.out 0).trans rfl
    have hfs20 := blk_frozen BK208.out 0
    have hns20_0 := NB205_208.out
    have hns20_1 := NB207_208.out
    have hns20_3 := NB209_208.out
    have hms20_0 := NB208_205.out
    have hms20_1 := NB208_207.out
    have hms20_3 := NB208_209.out
    have hs21 : w16.cell? ⟨gb208, 1, none⟩ = some (.int .u64 0) := (blk_cell BK208.out 1).trans rfl
    have hfs21 := blk_frozen BK208.out 1
    have hns21_0 := NB205_208.out
    have hns21_1 := NB207_208.out
    have hns21_3 := NB209_208.out
    have hms21_0 := NB208_205.out
    have hms21_1 := NB208_207.out
    have hms21_3 := NB208_209.out
    have hs22 : w16.cell? ⟨gb208, 2, none⟩ = some (.int .u64 0) := (blk_cell BK208.out 2).trans rfl
    have hfs22 := blk_frozen BK208.out 2
    have hns22_0 := NB205_208.out
    have hns22_1 := NB207_208.out
    have hns22_3 := NB209_208.out
    have hms22_0 := NB208_205.out
    have hms22_1 := NB208_207.out
    have hms22_3 := NB208_209.out
    refine skip_ (w1 := ?_) (by rfl) rfl ?_ ?_
    rotate_left
    ·go_simp
     rfl
    refine hK.out _ _ ⟨((cell_far (p := ⟨gb208, _, none⟩) NB205_208.out _).trans (((cell_far (p := ⟨gb208, _, none⟩) NB205_208.out _).trans (((cell_far (p := ⟨gb208, _, none⟩) NB205_208.out _).trans (hHeld.1)))))), ((cell_far (p := ⟨gb208, _, none⟩) NB205_208.out _).trans (((cell_far (p := ⟨gb208, _, none⟩) NB205_208.out _).trans (((cell_far (p := ⟨gb208, _, none⟩) NB205_208.out _).trans (hHeld.2.1)))))), ((cell_far (p := ⟨gb208, _, none⟩) NB205_208.out _).trans (((cell_far (p := ⟨gb208, _, none⟩) NB205_208.out _).trans (((cell_far (p := ⟨gb208, _, none⟩) NB205_208.out _).trans (hHeld.2.2))))))⟩ (fun hHeld => ?_)
    clear hK K
    refine one_ (i := 8) (N := none) #[true, true, true, true, true, true, true, true, true] rfl rfl (one_of HT_.out (by kernel_rfl)) (by decide) (fun K hK => ?_)
    have hs23 : w16.cell? ⟨gb209, 0, none⟩ = some (.int .u64 0) := (blk_cell BK209.out 0).trans rfl
    have hfs23 := blk_frozen BK209.out 0
    have hns23_0 := NB205_209.out
    have hns23_1 := NB207_209.out
    have hns23_2 := NB208_209.out
    have hms23_0 := NB209_205.out
    have hms23_1 := NB209_207.out
    have hms23_2 := NB209_208.out
    have hs24 : w16.cell? ⟨gb209, 1, none⟩ = some (.int .u64 0) := (blk_cell BK209.out 1).trans rfl
    have hfs24 := blk_frozen BK209.out 1
    have hns24_0 := NB205_209.out
    have hns24_1 := NB207_209.out
    have hns24_2 := NB208_209.out
    have hms24_0 := NB209_205.out
    have hms24_1 := NB209_207.out
    have hms24_2 := NB209_208.out
    have hs25 : w16.cell? ⟨gb209, 2, none⟩ = some (.int .u64 0) := (blk_cell BK209.out 2).trans rfl
    have hfs25 := blk_frozen BK209.out 2
    have hns25_0 := NB205_209.out
    have hns25_1 := NB207_209.out
    have hns25_2 := NB208_209.out
    have hms25_0 := NB209_205.out
    have hms25_1 := NB209_207.out
    have hms25_2 := NB209_208.out
    refine skip_ (w1 := ?_) (by rfl) rfl ?_ ?_
    rotate_left
    ·go_simp
     rfl
    refine hK.out _ _ ⟨((cell_far (p := ⟨gb209, _, none⟩) NB205_209.out _).trans (((cell_far (p := ⟨gb209, _, none⟩) NB205_209.out _).trans (((cell_far (p := ⟨gb209, _, none⟩) NB205_209.out _).trans (hHeld.1)))))), ((cell_far (p := ⟨gb209, _, none⟩) NB205_209.out _).trans (((cell_far (p := ⟨gb209, _, none⟩) NB205_209.out _).trans (((cell_far (p := ⟨gb209, _, none⟩) NB205_209.out _).trans (hHeld.2.1)))))), ((cell_far (p := ⟨gb209, _, none⟩) NB205_209.out _).trans (((cell_far (p := ⟨gb209, _, none⟩) NB205_209.out _).trans (((cell_far (p := ⟨gb209, _, none⟩) NB205_209.out _).trans (hHeld.2.2))))))⟩ (fun hHeld => ?_)
    clear hK K
    refine done_ (done_of HT_.out (by kernel_rfl)) ?_
    try go_wp2
    go_loopg [11] kj4 (fun kq v11 w' => ∃ (x11_2 : Int) (x208000_2 : Int) (x208001_2 : Int) (x208002_2 : Int) (x209000_2 : Int) (x209001_2 : Int) (x209002_2 : Int) (x210000_2 : Int) (x210001_2 : Int) (x210002_2 : Int), v11 = .int .i64 x11_2 ∧ Aside0 (spigotlaw21_TallyParts.l0 kq l1 a2 t206 x11_2 x208000_2 x208001_2 x208002_2 x209000_2 x209001_2 x209002_2 x210000_2 x210001_2 x210002_2 = some r) ∧ Aside0 (kq ≤ kj4) ∧ Aside0 (w'.heap[gb205]? = some (.cells #[.int .u64 a0_0, .int .u64 a0_1, .int .u64 a0_2] 25 (0, 0))) ∧ Aside0 (w'.heap[gb207]? = some (.cells #[.int .u64 x208000_2, .int .u64 x208001_2, .int .u64 x208002_2] 25 (0, 0))) ∧ Aside0 (w'.heap[gb208]? = some (.cells #[.int .u64 x209000_2, .int .u64 x209001_2, .int .u64 x209002_2] 25 (0, 0))) ∧ Aside0 (w'.heap[gb209]? = some (.cells #[.int .u64 x210000_2, .int .u64 x210001_2, .int .u64 x210002_2] 25 (0, 0))) ∧ Aside0 (Below w.heap.size w w'))
    case atStart => exact ⟨(0), (a0_0), (a0_1), (a0_2), (a0_0), (a0_1), (a0_2), (0), (0), (0), (by first | rfl | (simp; done) | (simp [*]; done)), H', ⟨Nat.le_refl _⟩, ⟨by (with_reducible repeat (first | refine blk_drewN ?_ _ | refine blk_drew ?_ | refine blk_alloc ?_ _)); refine blk_far ?_ NB205_209.out _; (with_reducible repeat (first | refine blk_drewN ?_ _ | refine blk_drew ?_ | refine blk_alloc ?_ _)); refine blk_far ?_ NB205_209.out _; (with_reducible repeat (first | refine blk_drewN ?_ _ | refine blk_drew ?_ | refine blk_alloc ?_ _)); refine blk_far ?_ NB205_209.out _; (with_reducible repeat (first | refine blk_drewN ?_ _ | refine blk_drew ?_ | refine blk_alloc ?_ _)); refine blk_far ?_ NB205_208.out _; (with_reducible repeat (first | refine blk_drewN ?_ _ | refine blk_drew ?_ | refine blk_alloc ?_ _)); refine blk_far ?_ NB205_208.out _; (with_reducible repeat (first | refine blk_drewN ?_ _ | refine blk_drew ?_ | refine blk_alloc ?_ _)); refine blk_far ?_ NB205_208.out _; (with_reducible repeat (first | refine blk_drewN ?_ _ | refine blk_drew ?_ | refine blk_alloc ?_ _)); refine blk_far ?_ NB205_207.out _; (with_reducible repeat (first | refine blk_drewN ?_ _ | refine blk_drew ?_ | refine blk_alloc ?_ _)); refine blk_far ?_ NB205_207.out _; (with_reducible repeat (first | refine blk_drewN ?_ _ | refine blk_drew ?_ | refine blk_alloc ?_ _)); refine blk_far ?_ NB205_207.out _; (with_reducible repeat (first | refine blk_drewN ?_ _ | refine blk_drew ?_ | refine blk_alloc ?_ _)); exact BK205.out⟩, ⟨by (with_reducible repeat (first | refine blk_drewN ?_ _ | refine blk_drew ?_ | refine blk_alloc ?_ _)); refine blk_far ?_ NB207_209.out _; (with_reducible repeat (first | refine blk_drewN ?_ _ | refine blk_drew ?_ | refine blk_alloc ?_ _)); refine blk_far ?_ NB207_209.out _; (with_reducible repeat (first | refine blk_drewN ?_ _ | refine blk_drew ?_ | refine blk_alloc ?_ _)); refine blk_far ?_ NB207_209.out _; (with_reducible repeat (first | refine blk_drewN ?_ _ | refine blk_drew ?_ | refine blk_alloc ?_ _)); refine blk_far ?_ NB207_208.out _; (with_reducible repeat (first | refine blk_drewN ?_ _ | refine blk_drew ?_ | refine blk_alloc ?_ _)); refine blk_far ?_ NB207_208.out _; (with_reducible repeat (first | refine blk_drewN ?_ _ | refine blk_drew ?_ | refine blk_alloc ?_ _)); refine blk_far ?_ NB207_208.out _; (with_reducible repeat (first | refine blk_drewN ?_ _ | refine blk_drew ?_ | refine blk_alloc ?_ _)); refine blk_put (cs := #[.int .u64 a0_0, .int .u64 a0_1, .int .u64 0]) ?_ 2 _ rfl; (with_reducible repeat (first | refine blk_drewN ?_ _ | refine blk_drew ?_ | refine blk_alloc ?_ _)); refine blk_put (cs := #[.int .u64 a0_0, .int .u64 0, .int .u64 0]) ?_ 1 _ rfl; (with_reducible repeat (first | refine blk_drewN ?_ _ | refine blk_drew ?_ | refine blk_alloc ?_ _)); refine blk_put (cs := #[.int .u64 0, .int .u64 0, .int .u64 0]) ?_ 0 _ rfl; (with_reducible repeat (first | refine blk_drewN ?_ _ | refine blk_drew ?_ | refine blk_alloc ?_ _)); exact BK207.out⟩, ⟨by (with_reducible repeat (first | refine blk_drewN ?_ _ | refine blk_drew ?_ | refine blk_alloc ?_ _)); refine blk_far ?_ NB208_209.out _; (with_reducible repeat (first | refine blk_drewN ?_ _ | refine blk_drew ?_ | refine blk_alloc ?_ _)); refine blk_far ?_ NB208_209.out _; (with_reducible repeat (first | refine blk_drewN ?_ _ | refine blk_drew ?_ | refine blk_alloc ?_ _)); refine blk_far ?_ NB208_209.out _; (with_reducible repeat (first | refine blk_drewN ?_ _ | refine blk_drew ?_ | refine blk_alloc ?_ _)); refine blk_put (cs := #[.int .u64 a0_0, .int .u64 a0_1, .int .u64 0]) ?_ 2 _ rfl; (with_reducible repeat (first | refine blk_drewN ?_ _ | refine blk_drew ?_ | refine blk_alloc ?_ _)); refine blk_put (cs := #[.int .u64 a0_0, .int .u64 0, .int .u64 0]) ?_ 1 _ rfl; (with_reducible repeat (first | refine blk_drewN ?_ _ | refine blk_drew ?_ | refine blk_alloc ?_ _)); refine blk_put (cs := #[.int .u64 0, .int .u64 0, .int .u64 0]) ?_ 0 _ rfl; (with_reducible repeat (first | refine blk_drewN ?_ _ | refine blk_drew ?_ | refine blk_alloc ?_ _)); refine blk_far ?_ NB208_207.out _; (with_reducible repeat (first | refine blk_drewN ?_ _ | refine blk_drew ?_ | refine blk_alloc ?_ _)); refine blk_far ?_ NB208_207.out _; (with_reducible repeat (first | refine blk_drewN ?_ _ | refine blk_drew ?_ | refine blk_alloc ?_ _)); refine blk_far ?_ NB208_207.out _; (with_reducible repeat (first | refine blk_drewN ?_ _ | refine blk_drew ?_ | refine blk_alloc ?_ _)); exact BK208.out⟩, ⟨by (with_reducible repeat (first | refine blk_drewN ?_ _ | refine blk_drew ?_ | refine blk_alloc ?_ _)); refine blk_put (cs := #[.int .u64 0, .int .u64 0, .int .u64 0]) ?_ 2 _ rfl; (with_reducible repeat (first | refine blk_drewN ?_ _ | refine blk_drew ?_ | refine blk_alloc ?_ _)); refine blk_put (cs := #[.int .u64 0, .int .u64 0, .int .u64 0]) ?_ 1 _ rfl; (with_reducible repeat (first | refine blk_drewN ?_ _ | refine blk_drew ?_ | refine blk_alloc ?_ _)); refine blk_put (cs := #[.int .u64 0, .int .u64 0, .int .u64 0]) ?_ 0 _ rfl; (with_reducible repeat (first | refine blk_drewN ?_ _ | refine blk_drew ?_ | refine blk_alloc ?_ _)); refine blk_far ?_ NB209_208.out _; (with_reducible repeat (first | refine blk_drewN ?_ _ | refine blk_drew ?_ | refine blk_alloc ?_ _)); refine blk_far ?_ NB209_208.out _; (with_reducible repeat (first | refine blk_drewN ?_ _ | refine blk_drew ?_ | refine blk_alloc ?_ _)); refine blk_far ?_ NB209_208.out _; (with_reducible repeat (first | refine blk_drewN ?_ _ | refine blk_drew ?_ | refine blk_alloc ?_ _)); refine blk_far ?_ NB209_207.out _; (with_reducible repeat (first | refine blk_drewN ?_ _ | refine blk_drew ?_ | refine blk_alloc ?_ _)); refine blk_far ?_ NB209_207.out _; (with_reducible repeat (first | refine blk_drewN ?_ _ | refine blk_drew ?_ | refine blk_alloc ?_ _)); refine blk_far ?_ NB209_207.out _; (with_reducible repeat (first | refine blk_drewN ?_ _ | refine blk_drew ?_ | refine blk_alloc ?_ _)); exact BK209.out⟩, ⟨by repeat (first | (with_reducible first | exact HB.out | apply below_alloc | apply pw_below_drewN | apply below_drew1 | refine below_set ?_ GE205.out | refine below_set ?_ GE207.out | refine below_set ?_ GE208.out | refine below_set ?_ GE209.out) | exact HB.out)⟩⟩
    case round =>
     clear H'
     try clear p2
     obtain ⟨x11_2, x208000_2, x208001_2, x208002_2, x209000_2, x209001_2, x209002_2, x210000_2, x210001_2, x210002_2, rfl, HA, HK2, BK205, BK207, BK208, BK209, HB⟩ := hrel
     cases gk with
     | zero => exact absurd HA.out (by simp [spigotlaw21_TallyParts.l0])
     | succ k2 =>
      have H := HA.out
      clear HA
      simp only [spigotlaw21_TallyParts.l0] at H
      by_cases c26 : x11_2 < (l1.length : Int)
      ·rw [if_pos c26] at H
       have c26b0 : decide (x11_2 < (l1.length : Int)) = true := decide_eq_true c26
       clear c26
       by_cases c27 : 0 ≤ x11_2
       rotate_left
       ·rw [if_neg c27] at H; exact absurd H (by simp)
       rw [if_pos c27] at H
       have c27b0 : decide (0 ≤ x11_2) = true := decide_eq_true c27
       clear c27
       replace H := Option.bind_eq_some_iff.mp H
       obtain ⟨⟨t215, t216, t217⟩, A280, H⟩ := H
       try dsimp only at H
       have A28 := Aside0.mk A280
       clear A280
       by_cases c29 : t215 < x208000_2
       ·rw [if_pos c29] at H; exact absurd H (by simp)
       rw [if_neg c29] at H
       have c29b0 : decide (t215 < x208000_2) = false := decide_eq_false c29
       clear c29
       by_cases c30 : t216 < x208001_2
       ·rw [if_pos c30] at H; exact absurd H (by simp)
       rw [if_neg c30] at H
       have c30b0 : decide (t216 < x208001_2) = false := decide_eq_false c30
       clear c30
       by_cases c31 : t217 < x208002_2
       ·rw [if_pos c31] at H; exact absurd H (by simp)
       rw [if_neg c31] at H
       have c31b0 : decide (t217 < x208002_2) = false := decide_eq_false c31
       clear c31
       by_cases c32 : x11_2 < a2
       ·rw [if_pos c32] at H
        have c32b0 : decide (x11_2 < a2) = true := decide_eq_true c32
        clear c32
        replace H := Option.bind_eq_some_iff.mp H
        obtain ⟨⟨t220, t221, t222⟩, A330, H⟩ := H
        replace H : (spigotlaw21_TallyParts.l0 k2 l1 a2 t206 (wrap64 (x11_2 + 1)) t215 t216 t217 t220 t221 t222 x210000_2 x210001_2 x210002_2) = some r := H
        have A33 := Aside0.mk A330
        clear A330
        have H' := Aside0.mk H
        clear H
        have p213 : 0 ≤ (x11_2 : Int) := of_decide_eq_true (by first | (with_reducible assumption) | assumption)
        have q213 : x11_2 < (l1.length : Int) := of_decide_eq_true (by first | (with_reducible assumption) | assumption)
        obtain ⟨ad213, e213, hx213_0⟩ := Kd.at_int HR1.out x11_2 p213 q213
        cases e213
        replace hx213_0 := (HB.out.cell (World.block_lt_of_cell? w _ hx213_0)).trans hx213_0
        replace p213 := eq_true p213
        replace q213 := eq_true q213
        try go_wp2
        replace BK205 := Aside0.mk (blk_drew BK205.out)
        replace BK207 := Aside0.mk (blk_drew BK207.out)
        replace BK208 := Aside0.mk (blk_drew BK208.out)
        replace BK209 := Aside0.mk (blk_drew BK209.out)
        replace HB := Aside0.mk (below_drew1 HB.out)
        have p214 : 0 ≤ (x11_2 : Int) := of_decide_eq_true (by first | (with_reducible assumption) | assumption)
        have q214 : x11_2 < (l1.length : Int) := of_decide_eq_true (by first | (with_reducible assumption) | assumption)
        obtain ⟨ad214, e214, hx214_0⟩ := Kd.at_int HR1.out x11_2 p214 q214
        have hw214_0 := hx214_0
        obtain rfl : ad213 = ad214 := (by injection e214)
        replace hx214_0 := (HB.out.cell (World.block_lt_of_cell? w _ hx214_0)).trans hx214_0
        replace p214 := eq_true p214
        replace q214 := eq_true q214
        refine start_ (n := 9) (S := fun w' => w'.cell? ⟨gb207, 0, none⟩ = some (.int .u64 x208000_2) ∧ w'.cell? ⟨gb207, 1, none⟩ = some (.int .u64 x208001_2) ∧ w'.cell? ⟨gb207, 2, none⟩ = some (.int .u64 x208002_2) ∧ w'.cell? (ad213.add (x11_2).toNat) = some (.int .u32 (rd l1 x11_2))) (ds := []) #[false, false, false, false, false, false, false, false, false] (by kernel_rfl) rfl rfl ⟨(blk_cell BK207.out 0).trans rfl, (blk_cell BK207.out 1).trans rfl, (blk_cell BK207.out 2).trans rfl, ((HB.out.cell (World.block_lt_of_cell? w _ hw214_0)).trans hw214_0)⟩ (fun hHeld => ?_); refine with_tabW spigotlaw21_TallyParts.tab9 spigotlaw21_TallyParts.bits9 (fun HT_ HW_ => ?_)
        generalize wr.drew = w34 at BK205 BK207 BK208 BK209 HB hx214_0 hHeld ⊢
        refine pure_ (i := 1) (N := some 49) (v := ?_) (a' := ?_) #[false, true, false, false, false, false, false, false, false] rfl rfl (any_of HT_.out (by kernel_rfl)) (fun _ _ _ h => h) (Or.inl ⟨by rfl, ?_⟩) ?_ ?_
        rotate_left
        ·intro w'
         go_simp
         with_reducible rfl
        rotate_left
        ·simp only [Act.put, List.setIfInBounds_toArray, List.set_cons_zero, List.set_cons_succ, i64_w, i32_w]
         rfl
        refine pure_ (i := 2) (N := some 50) (v := ?_) (a' := ?_) #[false, true, true, false, false, false, false, false, false] rfl rfl (any_of HT_.out (by kernel_rfl)) (fun _ _ _ h => h) (Or.inl ⟨by rfl, ?_⟩) ?_ ?_
        rotate_left
        ·intro w'
         go_simp
         with_reducible rfl
        rotate_left
        ·simp only [Act.put, List.setIfInBounds_toArray, List.set_cons_zero, List.set_cons_succ, i64_w, i32_w]
         rfl
        refine pure_ (i := 3) (N := some 51) (v := ?_) (a' := ?_) #[false, true, true, true, false, false, false, false, false] rfl rfl (any_of HT_.out (by kernel_rfl)) (fun _ _ _ h => h) (Or.inl ⟨by rfl, ?_⟩) ?_ ?_
        rotate_left
        ·intro w'
         go_simp
         with_reducible rfl
        rotate_left
        ·simp only [Act.put, List.setIfInBounds_toArray, List.set_cons_zero, List.set_cons_succ, i64_w, i32_w]
         rfl
        refine pure_ (i := 4) (N := some 52) (v := ?_) (a' := ?_) #[false, true, true, true, true, false, false, false, false] rfl rfl (any_of HT_.out (by kernel_rfl)) (fun _ _ _ h => h) (Or.inl ⟨by rfl, ?_⟩) ?_ ?_
        rotate_left
        ·intro w'
         go_simp
         with_reducible rfl
        rotate_left
        ·simp only [Act.put, List.setIfInBounds_toArray, List.set_cons_zero, List.set_cons_succ, i64_w, i32_w]
         rfl
        refine take_ (i := 0) (N := some 48) (v := ?_) (a' := ?_) #[true, true, true, true, true, false, false, false, false] rfl rfl (take_ofW HT_.out HW_.out (by kernel_rfl)) (fun _ _ _ h => h) (Or.inl ⟨by rfl, ?_⟩) hHeld ?_ ?_
        rotate_left
        ·rintro w' ⟨s0, s1, s2, s3⟩
         go_simp
         with_reducible rfl
        rotate_left
        ·simp only [Act.put, List.setIfInBounds_toArray, List.set_cons_zero, List.set_cons_succ, i64_w, i32_w]
         rfl
        refine take_ (i := 5) (N := some 53) (v := ?_) (a' := ?_) #[true, true, true, true, true, true, false, false, false] rfl rfl (take_ofW HT_.out HW_.out (by kernel_rfl)) (fun _ _ _ h => h) (Or.inl ⟨by rfl, ?_⟩) hHeld ?_ ?_
        rotate_left
        ·rintro w' ⟨s0, s1, s2, s3⟩
         go_simp
         with_reducible rfl
        rotate_left
        ·simp only [Act.put, List.setIfInBounds_toArray, List.set_cons_zero, List.set_cons_succ, i64_w, i32_w]
         rfl
        refine join_ (σ := Nat) 1 #[true, true, true, true, true, true, true, true, false] (fun s_ => [(54, .agg #[.int .u64 t215, .int .u64 t216, .int .u64 t217]), (13, .pointer (some ⟨s_, 0, none⟩))]) (fun s_ w' => (w'.cell? ⟨gb207, 0, none⟩ = some (.int .u64 x208000_2) ∧ w'.cell? ⟨gb207, 1, none⟩ = some (.int .u64 x208001_2) ∧ w'.cell? ⟨gb207, 2, none⟩ = some (.int .u64 x208002_2) ∧ w'.cell? (ad213.add (x11_2).toNat) = some (.int .u32 (rd l1 x11_2))) ∧ (w'.heap[gb205]? = some (.cells #[.int .u64 a0_0, .int .u64 a0_1, .int .u64 a0_2] 25 (0, 0))) ∧ (w'.heap[gb207]? = some (.cells #[.int .u64 x208000_2, .int .u64 x208001_2, .int .u64 x208002_2] 25 (0, 0))) ∧ (w'.heap[gb208]? = some (.cells #[.int .u64 x209000_2, .int .u64 x209001_2, .int .u64 x209002_2] 25 (0, 0))) ∧ (w'.heap[gb209]? = some (.cells #[.int .u64 x210000_2, .int .u64 x210001_2, .int .u64 x210002_2] 25 (0, 0))) ∧ (w'.heap[s_]? = some (.cells #[.int .u64 0, .int .u64 0, .int .u64 0] 25 (0, 0))) ∧ (w.heap.size ≤ s_) ∧ (w.heap.size ≤ s_) ∧ (gb205 ≠ s_) ∧ (s_ ≠ gb205) ∧ (gb207 ≠ s_) ∧ (s_ ≠ gb207) ∧ (gb208 ≠ s_) ∧ (s_ ≠ gb208) ∧ (gb209 ≠ s_) ∧ (s_ ≠ gb209) ∧ (Below w.heap.size w w')) ?_ ?_
        rotate_left
        ·intro hCont
         refine two_ (i := 6) (j := 7) (Ni := some 54) (Nj := some 13) #[true, true, true, true, true, true, true, false, false] #[true, true, true, true, true, true, false, true, false] rfl rfl rfl rfl (two_of HT_.out (by kernel_rfl)) (by decide) (by decide) (fun K hK => ?_) (fun K hK => ?_)
         ·skip
          refine goes_ Try.func20 (by kernel_rfl) rfl #[.agg #[.int .u64 x208000_2, .int .u64 x208001_2, .int .u64 x208002_2], .bool ((Int.tmod (rd l1 x11_2) 2) == 0), .int .u32 (rd l1 x11_2)] (by rfl) rfl rfl (by (try simp only [List.map_toArray, List.map_cons, List.map_nil]); first | done | rfl | (simp only [List.length_drop, List.length_take]; rfl)) ?_
          with_reducible refine (tally_Count.calls x208000_2 x208001_2 x208002_2 ((Int.tmod (rd l1 x11_2) 2) == 0) (rd l1 x11_2) t215 t216 t217 _ A28.out).mono ?_
          rintro e w35 ⟨rfl, hb⟩
          refine ⟨_, rfl, ?_⟩
          replace BK205 := bb_ BK205 hb
          replace BK207 := bb_ BK207 hb
          replace BK208 := bb_ BK208 hb
          replace BK209 := bb_ BK209 hb
          replace HB := Aside0.mk (below_step (by repeat (first | (with_reducible first | exact HB.out | apply below_alloc | apply pw_below_drewN | apply below_drew1 | refine below_set ?_ (Aside0.out (by assumption))) | exact HB.out)) hb)
          (try clear hb)
          (try clear hb2)
          (try clear hk)
          (try clear hi)
          refine hK.out _ _ ⟨(blk_cell BK207.out 0).trans rfl, (blk_cell BK207.out 1).trans rfl, (blk_cell BK207.out 2).trans rfl, ((HB.out.cell (World.block_lt_of_cell? w _ hw214_0)).trans hw214_0)⟩ (fun hHeld => ?_)
          clear hK K
          refine norm_ (a' := ?_) ?_ ?_
          rotate_left
          ·show Act.put _ (some 54) _ = _
           simp only [Act.put, List.setIfInBounds_toArray, List.set_cons_zero, List.set_cons_succ, i64_w, i32_w]
           rfl
          refine one_ (i := 7) (N := some 13) #[true, true, true, true, true, true, true, true, false] rfl rfl (one_of HT_.out (by kernel_rfl)) (by decide) (fun K hK => ?_)
          refine box_step ?hg (N := 13) ?hd (cs := #[.int .u64 0, .int .u64 0, .int .u64 0]) (t := 25) ?hr ?_; (case hd => rfl); (case hg => rfl); (case hr => first | (go_simp; done) | (go_simp; rfl))
          intro gb218 hg w36 hbox hb
          have BK218 := Aside0.mk (hbox)
          have GW218 := Aside0.mk ((by rw [hg]; exact (below_size (by repeat (first | (with_reducible first | exact HB.out | apply below_alloc | apply pw_below_drewN | apply below_drew1 | refine below_set ?_ (Aside0.out (by assumption))) | exact HB.out))) : w.heap.size ≤ gb218))
          have GE218 := GW218
          have NB205_218 := bn_ BK205 hg
          have NB218_205 := bm_ BK205 hg
          have NB207_218 := bn_ BK207 hg
          have NB218_207 := bm_ BK207 hg
          have NB208_218 := bn_ BK208 hg
          have NB218_208 := bm_ BK208 hg
          have NB209_218 := bn_ BK209 hg
          have NB218_209 := bm_ BK209 hg
          replace BK205 := bb_ BK205 hb
          replace BK207 := bb_ BK207 hb
          replace BK208 := bb_ BK208 hb
          replace BK209 := bb_ BK209 hb
          replace HB := Aside0.mk (below_step (by repeat (first | (with_reducible first | exact HB.out | apply below_alloc | apply pw_below_drewN | apply below_drew1 | refine below_set ?_ (Aside0.out (by assumption))) | exact HB.out)) hb)
          clear hb hbox hg
          refine hK.out _ _ ⟨(blk_cell BK207.out 0).trans rfl, (blk_cell BK207.out 1).trans rfl, (blk_cell BK207.out 2).trans rfl, ((HB.out.cell (World.block_lt_of_cell? w _ hw214_0)).trans hw214_0)⟩ (fun hHeld => ?_)
          clear hK K
          refine norm_ (a' := ?_) ?_ ?_
          rotate_left
          ·show Act.put _ (some 13) _ = _
           simp only [Act.put, List.setIfInBounds_toArray, List.set_cons_zero, List.set_cons_succ, i64_w, i32_w]
           rfl
          exact norm_ (by simp only [putAll, Act.put, List.setIfInBounds_toArray, List.set_cons_zero, List.set_cons_succ]) (hCont (gb218) _ ⟨hHeld, (bq_ BK205), (bq_ BK207), (bq_ BK208), (bq_ BK209), (bq_ BK218), GW218.out, GE218.out, NB205_218.out, NB218_205.out, NB207_218.out, NB218_207.out, NB208_218.out, NB218_208.out, NB209_218.out, NB218_209.out, (by repeat (first | (with_reducible first | exact HB.out | apply below_alloc | apply pw_below_drewN | apply below_drew1 | refine below_set ?_ (Aside0.out (by assumption))) | exact HB.out))⟩)
         ·skip
          refine box_step ?hg (N := 13) ?hd (cs := #[.int .u64 0, .int .u64 0, .int .u64 0]) (t := 25) ?hr ?_; (case hd => rfl); (case hg => rfl); (case hr => first | (go_simp; done) | (go_simp; rfl))
          intro gb218 hg w35 hbox hb
          have BK218 := Aside0.mk (hbox)
          have GW218 := Aside0.mk ((by rw [hg]; exact (below_size (by repeat (first | (with_reducible first | exact HB.out | apply below_alloc | apply pw_below_drewN | apply below_drew1 | refine below_set ?_ (Aside0.out (by assumption))) | exact HB.out))) : w.heap.size ≤ gb218))
          have GE218 := GW218
          have NB205_218 := bn_ BK205 hg
          have NB218_205 := bm_ BK205 hg
          have NB207_218 := bn_ BK207 hg
          have NB218_207 := bm_ BK207 hg
          have NB208_218 := bn_ BK208 hg
          have NB218_208 := bm_ BK208 hg
          have NB209_218 := bn_ BK209 hg
          have NB218_209 := bm_ BK209 hg
          replace BK205 := bb_ BK205 hb
          replace BK207 := bb_ BK207 hb
          replace BK208 := bb_ BK208 hb
          replace BK209 := bb_ BK209 hb
          replace HB := Aside0.mk (below_step (by repeat (first | (with_reducible first | exact HB.out | apply below_alloc | apply pw_below_drewN | apply below_drew1 | refine below_set ?_ (Aside0.out (by assumption))) | exact HB.out)) hb)
          clear hb hbox hg
          refine hK.out _ _ ⟨(blk_cell BK207.out 0).trans rfl, (blk_cell BK207.out 1).trans rfl, (blk_cell BK207.out 2).trans rfl, ((HB.out.cell (World.block_lt_of_cell? w _ hw214_0)).trans hw214_0)⟩ (fun hHeld => ?_)
          clear hK K
          refine norm_ (a' := ?_) ?_ ?_
          rotate_left
          ·show Act.put _ (some 13) _ = _
           simp only [Act.put, List.setIfInBounds_toArray, List.set_cons_zero, List.set_cons_succ, i64_w, i32_w]
           rfl
          refine one_ (i := 6) (N := some 54) #[true, true, true, true, true, true, true, true, false] rfl rfl (one_of HT_.out (by kernel_rfl)) (by decide) (fun K hK => ?_)
          refine goes_ Try.func20 (by kernel_rfl) rfl #[.agg #[.int .u64 x208000_2, .int .u64 x208001_2, .int .u64 x208002_2], .bool ((Int.tmod (rd l1 x11_2) 2) == 0), .int .u32 (rd l1 x11_2)] (by rfl) rfl rfl (by (try simp only [List.map_toArray, List.map_cons, List.map_nil]); first | done | rfl | (simp only [List.length_drop, List.length_take]; rfl)) ?_
          with_reducible refine (tally_Count.calls x208000_2 x208001_2 x208002_2 ((Int.tmod (rd l1 x11_2) 2) == 0) (rd l1 x11_2) t215 t216 t217 _ A28.out).mono ?_
          rintro e w36 ⟨rfl, hb⟩
          refine ⟨_, rfl, ?_⟩
          replace BK205 := bb_ BK205 hb
          replace BK207 := bb_ BK207 hb
          replace BK208 := bb_ BK208 hb
          replace BK209 := bb_ BK209 hb
          replace BK218 := bb_ BK218 hb
          replace HB := Aside0.mk (below_step (by repeat (first | (with_reducible first | exact HB.out | apply below_alloc | apply pw_below_drewN | apply below_drew1 | refine below_set ?_ (Aside0.out (by assumption))) | exact HB.out)) hb)
          (try clear hb)
          (try clear hb2)
          (try clear hk)
          (try clear hi)
          refine hK.out _ _ ⟨(blk_cell BK207.out 0).trans rfl, (blk_cell BK207.out 1).trans rfl, (blk_cell BK207.out 2).trans rfl, ((HB.out.cell (World.block_lt_of_cell? w _ hw214_0)).trans hw214_0)⟩ (fun hHeld => ?_)
          clear hK K
          refine norm_ (a' := ?_) ?_ ?_
          rotate_left
          ·show Act.put _ (some 54) _ = _
           simp only [Act.put, List.setIfInBounds_toArray, List.set_cons_zero, List.set_cons_succ, i64_w, i32_w]
           rfl
          exact norm_ (by simp only [putAll, Act.put, List.setIfInBounds_toArray, List.set_cons_zero, List.set_cons_succ]) (hCont (gb218) _ ⟨hHeld, (bq_ BK205), (bq_ BK207), (bq_ BK208), (bq_ BK209), (bq_ BK218), GW218.out, GE218.out, NB205_218.out, NB218_205.out, NB207_218.out, NB218_207.out, NB208_218.out, NB218_208.out, NB209_218.out, NB218_209.out, (by repeat (first | (with_reducible first | exact HB.out | apply below_alloc | apply pw_below_drewN | apply below_drew1 | refine below_set ?_ (Aside0.out (by assumption))) | exact HB.out))⟩)
        rintro gb218 w37 ⟨hS_, h0_, h1_, h2_, h3_, h4_, h5_, h6_, h7_, h8_, h9_, h10_, h11_, h12_, h13_, h14_, h15_⟩
        have BK218 : Aside0 (w37.heap[gb218]? = some (.cells #[.int .u64 0, .int .u64 0, .int .u64 0] 25 (0, 0))) := ⟨h4_⟩
        have GW218 : Aside0 (w.heap.size ≤ gb218) := ⟨h5_⟩
        have GE218 : Aside0 (w.heap.size ≤ gb218) := ⟨h6_⟩
        have NB205_218 : Aside0 (gb205 ≠ gb218) := ⟨h7_⟩
        have NB218_205 : Aside0 (gb218 ≠ gb205) := ⟨h8_⟩
        have NB207_218 : Aside0 (gb207 ≠ gb218) := ⟨h9_⟩
        have NB218_207 : Aside0 (gb218 ≠ gb207) := ⟨h10_⟩
        have NB208_218 : Aside0 (gb208 ≠ gb218) := ⟨h11_⟩
        have NB218_208 : Aside0 (gb218 ≠ gb208) := ⟨h12_⟩
        have NB209_218 : Aside0 (gb209 ≠ gb218) := ⟨h13_⟩
        have NB218_209 : Aside0 (gb218 ≠ gb209) := ⟨h14_⟩
        replace BK205 : Aside0 (w37.heap[gb205]? = some (.cells #[.int .u64 a0_0, .int .u64 a0_1, .int .u64 a0_2] 25 (0, 0))) := ⟨h0_⟩
        replace BK207 : Aside0 (w37.heap[gb207]? = some (.cells #[.int .u64 x208000_2, .int .u64 x208001_2, .int .u64 x208002_2] 25 (0, 0))) := ⟨h1_⟩
        replace BK208 : Aside0 (w37.heap[gb208]? = some (.cells #[.int .u64 x209000_2, .int .u64 x209001_2, .int .u64 x209002_2] 25 (0, 0))) := ⟨h2_⟩
        replace BK209 : Aside0 (w37.heap[gb209]? = some (.cells #[.int .u64 x210000_2, .int .u64 x210001_2, .int .u64 x210002_2] 25 (0, 0))) := ⟨h3_⟩
        replace HB : Aside0 (Below w.heap.size w w37) := ⟨h15_⟩
        clear h0_ h1_ h2_ h3_ h4_ h5_ h6_ h7_ h8_ h9_ h10_ h11_ h12_ h13_ h14_ h15_
        have hHeld : w37.cell? ⟨gb207, 0, none⟩ = some (.int .u64 x208000_2) ∧ w37.cell? ⟨gb207, 1, none⟩ = some (.int .u64 x208001_2) ∧ w37.cell? ⟨gb207, 2, none⟩ = some (.int .u64 x208002_2) ∧ w37.cell? (ad213.add (x11_2).toNat) = some (.int .u32 (rd l1 x11_2)) := hS_
        refine norm_ (a' := ?_) ?_ ?_
        rotate_left
        ·simp only [putAll, Act.put, List.setIfInBounds_toArray, List.set_cons_zero, List.set_cons_succ]
         rfl
        refine one_ (i := 8) (N := none) #[true, true, true, true, true, true, true, true, true] rfl rfl (one_of HT_.out (by kernel_rfl)) (by decide) (fun K hK => ?_)
        have hs38 : w37.cell? ⟨gb218, 0, none⟩ = some (.int .u64 0) := (blk_cell BK218.out 0).trans rfl
        have hfs38 := blk_frozen BK218.out 0
        have hns38_0 := NB205_218.out
        have hns38_1 := NB207_218.out
        have hns38_2 := NB208_218.out
        have hns38_3 := NB209_218.out
        have hms38_0 := NB218_205.out
        have hms38_1 := NB218_207.out
        have hms38_2 := NB218_208.out
        have hms38_3 := NB218_209.out
        have hs39 : w37.cell? ⟨gb218, 1, none⟩ = some (.int .u64 0) := (blk_cell BK218.out 1).trans rfl
        have hfs39 := blk_frozen BK218.out 1
        have hns39_0 := NB205_218.out
        have hns39_1 := NB207_218.out
        have hns39_2 := NB208_218.out
        have hns39_3 := NB209_218.out
        have hms39_0 := NB218_205.out
        have hms39_1 := NB218_207.out
        have hms39_2 := NB218_208.out
        have hms39_3 := NB218_209.out
        have hs40 : w37.cell? ⟨gb218, 2, none⟩ = some (.int .u64 0) := (blk_cell BK218.out 2).trans rfl
        have hfs40 := blk_frozen BK218.out 2
        have hns40_0 := NB205_218.out
        have hns40_1 := NB207_218.out
        have hns40_2 := NB208_218.out
        have hns40_3 := NB209_218.out
        have hms40_0 := NB218_205.out
        have hms40_1 := NB218_207.out
        have hms40_2 := NB218_208.out
        have hms40_3 := NB218_209.out
        refine skip_ (w1 := ?_) (by rfl) rfl ?_ ?_
        rotate_left
        ·go_simp
         rfl
        refine hK.out _ _ ⟨((cell_far (p := ⟨gb218, _, none⟩) NB207_218.out _).trans (((cell_far (p := ⟨gb218, _, none⟩) NB207_218.out _).trans (((cell_far (p := ⟨gb218, _, none⟩) NB207_218.out _).trans (hHeld.1)))))), ((cell_far (p := ⟨gb218, _, none⟩) NB207_218.out _).trans (((cell_far (p := ⟨gb218, _, none⟩) NB207_218.out _).trans (((cell_far (p := ⟨gb218, _, none⟩) NB207_218.out _).trans (hHeld.2.1)))))), ((cell_far (p := ⟨gb218, _, none⟩) NB207_218.out _).trans (((cell_far (p := ⟨gb218, _, none⟩) NB207_218.out _).trans (((cell_far (p := ⟨gb218, _, none⟩) NB207_218.out _).trans (hHeld.2.2.1)))))), ((cell_far (p := ⟨gb218, _, none⟩) (by first | exact Nat.ne_of_lt (Nat.lt_of_lt_of_le (by have := World.block_lt_of_cell? _ _ hw214_0; first | rwa [add_block] at this | exact this) GW218.out) | (rw [add_block]; exact Nat.ne_of_lt (Nat.lt_of_lt_of_le (by have := World.block_lt_of_cell? _ _ hw214_0; first | rwa [add_block] at this | exact this) GW218.out)) | (show (Addr.add _ _).block ≠ _; rw [add_block]; exact Nat.ne_of_lt (Nat.lt_of_lt_of_le (by have := World.block_lt_of_cell? _ _ hw214_0; first | rwa [add_block] at this | exact this) GW218.out)) | (dsimp only; exact Nat.ne_of_lt (Nat.lt_of_lt_of_le (by have := World.block_lt_of_cell? _ _ hw214_0; first | rwa [add_block] at this | exact this) GW218.out))) _).trans (((cell_far (p := ⟨gb218, _, none⟩) (by first | exact Nat.ne_of_lt (Nat.lt_of_lt_of_le (by have := World.block_lt_of_cell? _ _ hw214_0; first | rwa [add_block] at this | exact this) GW218.out) | (rw [add_block]; exact Nat.ne_of_lt (Nat.lt_of_lt_of_le (by have := World.block_lt_of_cell? _ _ hw214_0; first | rwa [add_block] at this | exact this) GW218.out)) | (show (Addr.add _ _).block ≠ _; rw [add_block]; exact Nat.ne_of_lt (Nat.lt_of_lt_of_le (by have := World.block_lt_of_cell? _ _ hw214_0; first | rwa [add_block] at this | exact this) GW218.out)) | (dsimp only; exact Nat.ne_of_lt (Nat.lt_of_lt_of_le (by have := World.block_lt_of_cell? _ _ hw214_0; first | rwa [add_block] at this | exact this) GW218.out))) _).trans (((cell_far (p := ⟨gb218, _, none⟩) (by first | exact Nat.ne_of_lt (Nat.lt_of_lt_of_le (by have := World.block_lt_of_cell? _ _ hw214_0; first | rwa [add_block] at this | exact this) GW218.out) | (rw [add_block]; exact Nat.ne_of_lt (Nat.lt_of_lt_of_le (by have := World.block_lt_of_cell? _ _ hw214_0; first | rwa [add_block] at this | exact this) GW218.out)) | (show (Addr.add _ _).block ≠ _; rw [add_block]; exact Nat.ne_of_lt (Nat.lt_of_lt_of_le (by have := World.block_lt_of_cell? _ _ hw214_0; first | rwa [add_block] at this | exact this) GW218.out)) | (dsimp only; exact Nat.ne_of_lt (Nat.lt_of_lt_of_le (by have := World.block_lt_of_cell? _ _ hw214_0; first | rwa [add_block] at this | exact this) GW218.out))) _).trans (hHeld.2.2.2))))))⟩ (fun hHeld => ?_)
        clear hK K
        refine done_ (done_of HT_.out (by kernel_rfl)) ?_
        have hnb41 := NB218_205.out
        have hnc41 := NB205_218.out
        have hnb42 := NB218_207.out
        have hnc42 := NB207_218.out
        have hnb43 := NB218_208.out
        have hnc43 := NB208_218.out
        have hnb44 := NB218_209.out
        have hnc44 := NB209_218.out
        have hcz45_0 : w37.cell? ⟨gb218, 0, none⟩ = some (.int .u64 0) := (blk_cell BK218.out 0).trans rfl
        have hcz45_1 : w37.cell? ⟨gb218, 1, none⟩ = some (.int .u64 0) := (blk_cell BK218.out 1).trans rfl
        have hcz45_2 : w37.cell? ⟨gb218, 2, none⟩ = some (.int .u64 0) := (blk_cell BK218.out 2).trans rfl
        have hfz45_0 := blk_frozen BK218.out 0
        have hfz45_1 := blk_frozen BK218.out 1
        have hfz45_2 := blk_frozen BK218.out 2
        have hnb46 := NB207_205.out
        have hnc46 := NB205_207.out
        have hnb47 := NB207_208.out
        have hnc47 := NB208_207.out
        have hnb48 := NB207_209.out
        have hnc48 := NB209_207.out
        have hcz49_0 : w37.cell? ⟨gb207, 0, none⟩ = some (.int .u64 x208000_2) := (blk_cell BK207.out 0).trans rfl
        have hcz49_1 : w37.cell? ⟨gb207, 1, none⟩ = some (.int .u64 x208001_2) := (blk_cell BK207.out 1).trans rfl
        have hcz49_2 : w37.cell? ⟨gb207, 2, none⟩ = some (.int .u64 x208002_2) := (blk_cell BK207.out 2).trans rfl
        have hfz49_0 := blk_frozen BK207.out 0
        have hfz49_1 := blk_frozen BK207.out 1
        have hfz49_2 := blk_frozen BK207.out 2
        try go_wp2
        have n0_ : Aside0 (((((((w37.setCell ⟨gb218, 0, none⟩ (.int .u64 t215)).setCell ⟨gb218, 1, none⟩ (.int .u64 t216)).setCell ⟨gb218, 2, none⟩ (.int .u64 t217)).setCell ⟨gb207, 0, none⟩ (.int .u64 t215)).setCell ⟨gb207, 1, none⟩ (.int .u64 t216)).setCell ⟨gb207, 2, none⟩ (.int .u64 t217)).heap[gb205]? = some (.cells #[.int .u64 a0_0, .int .u64 a0_1, .int .u64 a0_2] 25 (0, 0))) := ⟨by (with_reducible repeat (first | refine blk_drewN ?_ _ | refine blk_drew ?_ | refine blk_alloc ?_ _)); refine blk_far ?_ NB205_207.out _; (with_reducible repeat (first | refine blk_drewN ?_ _ | refine blk_drew ?_ | refine blk_alloc ?_ _)); refine blk_far ?_ NB205_207.out _; (with_reducible repeat (first | refine blk_drewN ?_ _ | refine blk_drew ?_ | refine blk_alloc ?_ _)); refine blk_far ?_ NB205_207.out _; (with_reducible repeat (first | refine blk_drewN ?_ _ | refine blk_drew ?_ | refine blk_alloc ?_ _)); refine blk_far ?_ NB205_218.out _; (with_reducible repeat (first | refine blk_drewN ?_ _ | refine blk_drew ?_ | refine blk_alloc ?_ _)); refine blk_far ?_ NB205_218.out _; (with_reducible repeat (first | refine blk_drewN ?_ _ | refine blk_drew ?_ | refine blk_alloc ?_ _)); refine blk_far ?_ NB205_218.out _; (with_reducible repeat (first | refine blk_drewN ?_ _ | refine blk_drew ?_ | refine blk_alloc ?_ _)); exact BK205.out⟩
        have n1_ : Aside0 (((((((w37.setCell ⟨gb218, 0, none⟩ (.int .u64 t215)).setCell ⟨gb218, 1, none⟩ (.int .u64 t216)).setCell ⟨gb218, 2, none⟩ (.int .u64 t217)).setCell ⟨gb207, 0, none⟩ (.int .u64 t215)).setCell ⟨gb207, 1, none⟩ (.int .u64 t216)).setCell ⟨gb207, 2, none⟩ (.int .u64 t217)).heap[gb207]? = some (.cells #[.int .u64 t215, .int .u64 t216, .int .u64 t217] 25 (0, 0))) := ⟨by (with_reducible repeat (first | refine blk_drewN ?_ _ | refine blk_drew ?_ | refine blk_alloc ?_ _)); refine blk_put (cs := #[.int .u64 t215, .int .u64 t216, .int .u64 x208002_2]) ?_ 2 _ rfl; (with_reducible repeat (first | refine blk_drewN ?_ _ | refine blk_drew ?_ | refine blk_alloc ?_ _)); refine blk_put (cs := #[.int .u64 t215, .int .u64 x208001_2, .int .u64 x208002_2]) ?_ 1 _ rfl; (with_reducible repeat (first | refine blk_drewN ?_ _ | refine blk_drew ?_ | refine blk_alloc ?_ _)); refine blk_put (cs := #[.int .u64 x208000_2, .int .u64 x208001_2, .int .u64 x208002_2]) ?_ 0 _ rfl; (with_reducible repeat (first | refine blk_drewN ?_ _ | refine blk_drew ?_ | refine blk_alloc ?_ _)); refine blk_far ?_ NB207_218.out _; (with_reducible repeat (first | refine blk_drewN ?_ _ | refine blk_drew ?_ | refine blk_alloc ?_ _)); refine blk_far ?_ NB207_218.out _; (with_reducible repeat (first | refine blk_drewN ?_ _ | refine blk_drew ?_ | refine blk_alloc ?_ _)); refine blk_far ?_ NB207_218.out _; (with_reducible repeat (first | refine blk_drewN ?_ _ | refine blk_drew ?_ | refine blk_alloc ?_ _)); exact BK207.out⟩
        have n2_ : Aside0 (((((((w37.setCell ⟨gb218, 0, none⟩ (.int .u64 t215)).setCell ⟨gb218, 1, none⟩ (.int .u64 t216)).setCell ⟨gb218, 2, none⟩ (.int .u64 t217)).setCell ⟨gb207, 0, none⟩ (.int .u64 t215)).setCell ⟨gb207, 1, none⟩ (.int .u64 t216)).setCell ⟨gb207, 2, none⟩ (.int .u64 t217)).heap[gb208]? = some (.cells #[.int .u64 x209000_2, .int .u64 x209001_2, .int .u64 x209002_2] 25 (0, 0))) := ⟨by (with_reducible repeat (first | refine blk_drewN ?_ _ | refine blk_drew ?_ | refine blk_alloc ?_ _)); refine blk_far ?_ NB208_207.out _; (with_reducible repeat (first | refine blk_drewN ?_ _ | refine blk_drew ?_ | refine blk_alloc ?_ _)); refine blk_far ?_ NB208_207.out _; (with_reducible repeat (first | refine blk_drewN ?_ _ | refine blk_drew ?_ | refine blk_alloc ?_ _)); refine blk_far ?_ NB208_207.out _; (with_reducible repeat (first | refine blk_drewN ?_ _ | refine blk_drew ?_ | refine blk_alloc ?_ _)); refine blk_far ?_ NB208_218.out _; (with_reducible repeat (first | refine blk_drewN ?_ _ | refine blk_drew ?_ | refine blk_alloc ?_ _)); refine blk_far ?_ NB208_218.out _; (with_reducible repeat (first | refine blk_drewN ?_ _ | refine blk_drew ?_ | refine blk_alloc ?_ _)); refine blk_far ?_ NB208_218.out _; (with_reducible repeat (first | refine blk_drewN ?_ _ | refine blk_drew ?_ | refine blk_alloc ?_ _)); exact BK208.out⟩
        have n3_ : Aside0 (((((((w37.setCell ⟨gb218, 0, none⟩ (.int .u64 t215)).setCell ⟨gb218, 1, none⟩ (.int .u64 t216)).setCell ⟨gb218, 2, none⟩ (.int .u64 t217)).setCell ⟨gb207, 0, none⟩ (.int .u64 t215)).setCell ⟨gb207, 1, none⟩ (.int .u64 t216)).setCell ⟨gb207, 2, none⟩ (.int .u64 t217)).heap[gb209]? = some (.cells #[.int .u64 x210000_2, .int .u64 x210001_2, .int .u64 x210002_2] 25 (0, 0))) := ⟨by (with_reducible repeat (first | refine blk_drewN ?_ _ | refine blk_drew ?_ | refine blk_alloc ?_ _)); refine blk_far ?_ NB209_207.out _; (with_reducible repeat (first | refine blk_drewN ?_ _ | refine blk_drew ?_ | refine blk_alloc ?_ _)); refine blk_far ?_ NB209_207.out _; (with_reducible repeat (first | refine blk_drewN ?_ _ | refine blk_drew ?_ | refine blk_alloc ?_ _)); refine blk_far ?_ NB209_207.out _; (with_reducible repeat (first | refine blk_drewN ?_ _ | refine blk_drew ?_ | refine blk_alloc ?_ _)); refine blk_far ?_ NB209_218.out _; (with_reducible repeat (first | refine blk_drewN ?_ _ | refine blk_drew ?_ | refine blk_alloc ?_ _)); refine blk_far ?_ NB209_218.out _; (with_reducible repeat (first | refine blk_drewN ?_ _ | refine blk_drew ?_ | refine blk_alloc ?_ _)); refine blk_far ?_ NB209_218.out _; (with_reducible repeat (first | refine blk_drewN ?_ _ | refine blk_drew ?_ | refine blk_alloc ?_ _)); exact BK209.out⟩
        have n4_ : Aside0 (((((((w37.setCell ⟨gb218, 0, none⟩ (.int .u64 t215)).setCell ⟨gb218, 1, none⟩ (.int .u64 t216)).setCell ⟨gb218, 2, none⟩ (.int .u64 t217)).setCell ⟨gb207, 0, none⟩ (.int .u64 t215)).setCell ⟨gb207, 1, none⟩ (.int .u64 t216)).setCell ⟨gb207, 2, none⟩ (.int .u64 t217)).heap[gb218]? = some (.cells #[.int .u64 t215, .int .u64 t216, .int .u64 t217] 25 (0, 0))) := ⟨by (with_reducible repeat (first | refine blk_drewN ?_ _ | refine blk_drew ?_ | refine blk_alloc ?_ _)); refine blk_far ?_ NB218_207.out _; (with_reducible repeat (first | refine blk_drewN ?_ _ | refine blk_drew ?_ | refine blk_alloc ?_ _)); refine blk_far ?_ NB218_207.out _; (with_reducible repeat (first | refine blk_drewN ?_ _ | refine blk_drew ?_ | refine blk_alloc ?_ _)); refine blk_far ?_ NB218_207.out _; (with_reducible repeat (first | refine blk_drewN ?_ _ | refine blk_drew ?_ | refine blk_alloc ?_ _)); refine blk_put (cs := #[.int .u64 t215, .int .u64 t216, .int .u64 0]) ?_ 2 _ rfl; (with_reducible repeat (first | refine blk_drewN ?_ _ | refine blk_drew ?_ | refine blk_alloc ?_ _)); refine blk_put (cs := #[.int .u64 t215, .int .u64 0, .int .u64 0]) ?_ 1 _ rfl; (with_reducible repeat (first | refine blk_drewN ?_ _ | refine blk_drew ?_ | refine blk_alloc ?_ _)); refine blk_put (cs := #[.int .u64 0, .int .u64 0, .int .u64 0]) ?_ 0 _ rfl; (with_reducible repeat (first | refine blk_drewN ?_ _ | refine blk_drew ?_ | refine blk_alloc ?_ _)); exact BK218.out⟩
        have n5_ : Aside0 (Below w.heap.size w ((((((w37.setCell ⟨gb218, 0, none⟩ (.int .u64 t215)).setCell ⟨gb218, 1, none⟩ (.int .u64 t216)).setCell ⟨gb218, 2, none⟩ (.int .u64 t217)).setCell ⟨gb207, 0, none⟩ (.int .u64 t215)).setCell ⟨gb207, 1, none⟩ (.int .u64 t216)).setCell ⟨gb207, 2, none⟩ (.int .u64 t217))) := ⟨by repeat (first | (with_reducible first | exact HB.out | apply below_alloc | apply pw_below_drewN | apply below_drew1 | refine below_set ?_ GE205.out | refine below_set ?_ GE207.out | refine below_set ?_ GE208.out | refine below_set ?_ GE209.out | refine below_set ?_ GE218.out) | exact HB.out)⟩
        (try clear BK205)
        (try clear BK207)
        (try clear BK208)
        (try clear BK209)
        (try clear BK218)
        (try clear HB)
        generalize ((((((w37.setCell ⟨gb218, 0, none⟩ (.int .u64 t215)).setCell ⟨gb218, 1, none⟩ (.int .u64 t216)).setCell ⟨gb218, 2, none⟩ (.int .u64 t217)).setCell ⟨gb207, 0, none⟩ (.int .u64 t215)).setCell ⟨gb207, 1, none⟩ (.int .u64 t216)).setCell ⟨gb207, 2, none⟩ (.int .u64 t217)) = w50 at n0_ n1_ n2_ n3_ n4_ n5_ ⊢
        have BK205 := n0_
        have BK207 := n1_
        have BK208 := n2_
        have BK209 := n3_
        have BK218 := n4_
        have HB := n5_
        clear n0_ n1_ n2_ n3_ n4_ n5_
        replace BK205 := Aside0.mk (blk_drew BK205.out)
        replace BK207 := Aside0.mk (blk_drew BK207.out)
        replace BK208 := Aside0.mk (blk_drew BK208.out)
        replace BK209 := Aside0.mk (blk_drew BK209.out)
        replace BK218 := Aside0.mk (blk_drew BK218.out)
        replace HB := Aside0.mk (below_drew1 HB.out)
        have p219 : 0 ≤ (x11_2 : Int) := of_decide_eq_true (by first | (with_reducible assumption) | assumption)
        have q219 : x11_2 < (l1.length : Int) := of_decide_eq_true (by first | (with_reducible assumption) | assumption)
        obtain ⟨ad219, e219, hx219_0⟩ := Kd.at_int HR1.out x11_2 p219 q219
        have hw219_0 := hx219_0
        obtain rfl : ad213 = ad219 := (by injection e219)
        replace hx219_0 := (HB.out.cell (World.block_lt_of_cell? w _ hx219_0)).trans hx219_0
        replace p219 := eq_true p219
        replace q219 := eq_true q219
        refine start_ (n := 8) (S := fun w' => w'.cell? ⟨gb208, 0, none⟩ = some (.int .u64 x209000_2) ∧ w'.cell? ⟨gb208, 1, none⟩ = some (.int .u64 x209001_2) ∧ w'.cell? ⟨gb208, 2, none⟩ = some (.int .u64 x209002_2) ∧ w'.cell? (ad213.add (x11_2).toNat) = some (.int .u32 (rd l1 x11_2))) (ds := [7]) #[false, false, false, false, false, false, false, false] (by kernel_rfl) rfl rfl ⟨(blk_cell BK208.out 0).trans rfl, (blk_cell BK208.out 1).trans rfl, (blk_cell BK208.out 2).trans rfl, ((HB.out.cell (World.block_lt_of_cell? w _ hw219_0)).trans hw219_0)⟩ (fun hHeld => ?_); refine with_tabW spigotlaw21_TallyParts.tab14 spigotlaw21_TallyParts.bits14 (fun HT_ HW_ => ?_)
        generalize w50.drew = w51 at BK205 BK207 BK208 BK209 BK218 HB hx219_0 hHeld ⊢
        refine pure_ (i := 1) (N := some 79) (v := ?_) (a' := ?_) #[false, true, false, false, false, false, false, false] rfl rfl (any_of HT_.out (by kernel_rfl)) (fun _ _ _ h => h) (Or.inl ⟨by rfl, ?_⟩) ?_ ?_
        rotate_left
        ·intro w'
         go_simp
         with_reducible rfl
        rotate_left
        ·simp only [Act.put, List.setIfInBounds_toArray, List.set_cons_zero, List.set_cons_succ, i64_w, i32_w]
         rfl
        refine pure_ (i := 2) (N := some 80) (v := ?_) (a' := ?_) #[false, true, true, false, false, false, false, false] rfl rfl (any_of HT_.out (by kernel_rfl)) (fun _ _ _ h => h) (Or.inl ⟨by rfl, ?_⟩) ?_ ?_
        rotate_left
        ·intro w'
         go_simp
         with_reducible rfl
        rotate_left
        ·simp only [Act.put, List.setIfInBounds_toArray, List.set_cons_zero, List.set_cons_succ, i64_w, i32_w]
         rfl
        refine pure_ (i := 3) (N := some 81) (v := ?_) (a' := ?_) #[false, true, true, true, false, false, false, false] rfl rfl (any_of HT_.out (by kernel_rfl)) (fun _ _ _ h => h) (Or.inl ⟨by rfl, ?_⟩) ?_ ?_
        rotate_left
        ·intro w'
         go_simp
         with_reducible rfl
        rotate_left
        ·simp only [Act.put, List.setIfInBounds_toArray, List.set_cons_zero, List.set_cons_succ, i64_w, i32_w]
         rfl
        refine pure_ (i := 4) (N := some 82) (v := ?_) (a' := ?_) #[false, true, true, true, true, false, false, false] rfl rfl (any_of HT_.out (by kernel_rfl)) (fun _ _ _ h => h) (Or.inl ⟨by rfl, ?_⟩) ?_ ?_
        rotate_left
        ·intro w'
         go_simp
         with_reducible rfl
        rotate_left
        ·simp only [Act.put, List.setIfInBounds_toArray, List.set_cons_zero, List.set_cons_succ, i64_w, i32_w]
         rfl
        refine take_ (i := 0) (N := some 78) (v := ?_) (a' := ?_) #[true, true, true, true, true, false, false, false] rfl rfl (take_ofW HT_.out HW_.out (by kernel_rfl)) (fun _ _ _ h => h) (Or.inl ⟨by rfl, ?_⟩) hHeld ?_ ?_
        rotate_left
        ·rintro w' ⟨s0, s1, s2, s3⟩
         go_simp
         with_reducible rfl
        rotate_left
        ·simp only [Act.put, List.setIfInBounds_toArray, List.set_cons_zero, List.set_cons_succ, i64_w, i32_w]
         rfl
        refine take_ (i := 5) (N := some 83) (v := ?_) (a' := ?_) #[true, true, true, true, true, true, false, false] rfl rfl (take_ofW HT_.out HW_.out (by kernel_rfl)) (fun _ _ _ h => h) (Or.inl ⟨by rfl, ?_⟩) hHeld ?_ ?_
        rotate_left
        ·rintro w' ⟨s0, s1, s2, s3⟩
         go_simp
         with_reducible rfl
        rotate_left
        ·simp only [Act.put, List.setIfInBounds_toArray, List.set_cons_zero, List.set_cons_succ, i64_w, i32_w]
         rfl
        refine one_ (i := 6) (N := some 84) #[true, true, true, true, true, true, true, false] rfl rfl (one_of HT_.out (by kernel_rfl)) (by decide) (fun K hK => ?_)
        refine goes_ Try.func20 (by kernel_rfl) rfl #[.agg #[.int .u64 x209000_2, .int .u64 x209001_2, .int .u64 x209002_2], .bool ((Int.tmod (rd l1 x11_2) 2) == 0), .int .u32 (rd l1 x11_2)] (by rfl) rfl rfl (by (try simp only [List.map_toArray, List.map_cons, List.map_nil]); first | done | rfl | (simp only [List.length_drop, List.length_take]; rfl)) ?_
        with_reducible refine (tally_Count.calls x209000_2 x209001_2 x209002_2 ((Int.tmod (rd l1 x11_2) 2) == 0) (rd l1 x11_2) t220 t221 t222 _ A33.out).mono ?_
        rintro e w52 ⟨rfl, hb⟩
        refine ⟨_, rfl, ?_⟩
        replace BK205 := bb_ BK205 hb
        replace BK207 := bb_ BK207 hb
        replace BK208 := bb_ BK208 hb
        replace BK209 := bb_ BK209 hb
        replace BK218 := bb_ BK218 hb
        replace HB := Aside0.mk (below_step (by repeat (first | (with_reducible first | exact HB.out | apply below_alloc | apply pw_below_drewN | apply below_drew1 | refine below_set ?_ (Aside0.out (by assumption))) | exact HB.out)) hb)
        (try clear hb)
        (try clear hb2)
        (try clear hk)
        (try clear hi)
        refine hK.out _ _ ⟨(blk_cell BK208.out 0).trans rfl, (blk_cell BK208.out 1).trans rfl, (blk_cell BK208.out 2).trans rfl, ((HB.out.cell (World.block_lt_of_cell? w _ hw219_0)).trans hw219_0)⟩ (fun hHeld => ?_)
        clear hK K
        refine norm_ (a' := ?_) ?_ ?_
        rotate_left
        ·show Act.put _ (some 84) _ = _
         simp only [Act.put, List.setIfInBounds_toArray, List.set_cons_zero, List.set_cons_succ, i64_w, i32_w]
         rfl
        refine last_ (i := 7) (N := none) #[true, true, true, true, true, true, true, true] rfl rfl (one_of HT_.out (by kernel_rfl)) (by decide) (fun K hK => ?_)
        have hs53 : w52.cell? ⟨gb208, 0, none⟩ = some (.int .u64 x209000_2) := (blk_cell BK208.out 0).trans rfl
        have hfs53 := blk_frozen BK208.out 0
        have hns53_0 := NB205_208.out
        have hns53_1 := NB207_208.out
        have hns53_3 := NB209_208.out
        have hns53_4 := NB218_208.out
        have hms53_0 := NB208_205.out
        have hms53_1 := NB208_207.out
        have hms53_3 := NB208_209.out
        have hms53_4 := NB208_218.out
        have hs54 : w52.cell? ⟨gb208, 1, none⟩ = some (.int .u64 x209001_2) := (blk_cell BK208.out 1).trans rfl
        have hfs54 := blk_frozen BK208.out 1
        have hns54_0 := NB205_208.out
        have hns54_1 := NB207_208.out
        have hns54_3 := NB209_208.out
        have hns54_4 := NB218_208.out
        have hms54_0 := NB208_205.out
        have hms54_1 := NB208_207.out
        have hms54_3 := NB208_209.out
        have hms54_4 := NB208_218.out
        have hs55 : w52.cell? ⟨gb208, 2, none⟩ = some (.int .u64 x209002_2) := (blk_cell BK208.out 2).trans rfl
        have hfs55 := blk_frozen BK208.out 2
        have hns55_0 := NB205_208.out
        have hns55_1 := NB207_208.out
        have hns55_3 := NB209_208.out
        have hns55_4 := NB218_208.out
        have hms55_0 := NB208_205.out
        have hms55_1 := NB208_207.out
        have hms55_3 := NB208_209.out
        have hms55_4 := NB208_218.out
        refine skip_ (w1 := ?_) (by rfl) rfl ?_ ?_
        rotate_left
        ·go_simp
         rfl
        refine hK.out _ _ ?_
        clear hK K
        refine done_ (done_of HT_.out (by kernel_rfl)) ?_
        try go_wp2
        go_roundg k2
        case measure => have := HJ4.out; have := HK2.out; omega
        case rel => exact ⟨(wrap64 (x11_2 + 1)), (t215), (t216), (t217), (t220), (t221), (t222), (x210000_2), (x210001_2), (x210002_2), (by first | rfl | (simp; done) | (simp [*]; done)), H', ⟨by have := HJ4.out; have := HK2.out; omega⟩, ⟨by (with_reducible repeat (first | refine blk_drewN ?_ _ | refine blk_drew ?_ | refine blk_alloc ?_ _)); refine blk_far ?_ NB205_208.out _; (with_reducible repeat (first | refine blk_drewN ?_ _ | refine blk_drew ?_ | refine blk_alloc ?_ _)); refine blk_far ?_ NB205_208.out _; (with_reducible repeat (first | refine blk_drewN ?_ _ | refine blk_drew ?_ | refine blk_alloc ?_ _)); refine blk_far ?_ NB205_208.out _; (with_reducible repeat (first | refine blk_drewN ?_ _ | refine blk_drew ?_ | refine blk_alloc ?_ _)); exact BK205.out⟩, ⟨by (with_reducible repeat (first | refine blk_drewN ?_ _ | refine blk_drew ?_ | refine blk_alloc ?_ _)); refine blk_far ?_ NB207_208.out _; (with_reducible repeat (first | refine blk_drewN ?_ _ | refine blk_drew ?_ | refine blk_alloc ?_ _)); refine blk_far ?_ NB207_208.out _; (with_reducible repeat (first | refine blk_drewN ?_ _ | refine blk_drew ?_ | refine blk_alloc ?_ _)); refine blk_far ?_ NB207_208.out _; (with_reducible repeat (first | refine blk_drewN ?_ _ | refine blk_drew ?_ | refine blk_alloc ?_ _)); exact BK207.out⟩, ⟨by (with_reducible repeat (first | refine blk_drewN ?_ _ | refine blk_drew ?_ | refine blk_alloc ?_ _)); refine blk_put (cs := #[.int .u64 t220, .int .u64 t221, .int .u64 x209002_2]) ?_ 2 _ rfl; (with_reducible repeat (first | refine blk_drewN ?_ _ | refine blk_drew ?_ | refine blk_alloc ?_ _)); refine blk_put (cs := #[.int .u64 t220, .int .u64 x209001_2, .int .u64 x209002_2]) ?_ 1 _ rfl; (with_reducible repeat (first | refine blk_drewN ?_ _ | refine blk_drew ?_ | refine blk_alloc ?_ _)); refine blk_put (cs := #[.int .u64 x209000_2, .int .u64 x209001_2, .int .u64 x209002_2]) ?_ 0 _ rfl; (with_reducible repeat (first | refine blk_drewN ?_ _ | refine blk_drew ?_ | refine blk_alloc ?_ _)); exact BK208.out⟩, ⟨by (with_reducible repeat (first | refine blk_drewN ?_ _ | refine blk_drew ?_ | refine blk_alloc ?_ _)); refine blk_far ?_ NB209_208.out _; (with_reducible repeat (first | refine blk_drewN ?_ _ | refine blk_drew ?_ | refine blk_alloc ?_ _)); refine blk_far ?_ NB209_208.out _; (with_reducible repeat (first | refine blk_drewN ?_ _ | refine blk_drew ?_ | refine blk_alloc ?_ _)); refine blk_far ?_ NB209_208.out _; (with_reducible repeat (first | refine blk_drewN ?_ _ | refine blk_drew ?_ | refine blk_alloc ?_ _)); exact BK209.out⟩, ⟨by repeat (first | (with_reducible first | exact HB.out | apply below_alloc | apply pw_below_drewN | apply below_drew1 | refine below_set ?_ GE205.out | refine below_set ?_ GE207.out | refine below_set ?_ GE208.out | refine below_set ?_ GE209.out | refine below_set ?_ GE218.out) | exact HB.out)⟩⟩
       ·rw [if_neg c32] at H
        have c32b0 : decide (x11_2 < a2) = false := decide_eq_false c32
        clear c32
        replace H := Option.bind_eq_some_iff.mp H
        obtain ⟨⟨t224, t225, t226⟩, A560, H⟩ := H
        replace H : (spigotlaw21_TallyParts.l0 k2 l1 a2 t206 (wrap64 (x11_2 + 1)) t215 t216 t217 x209000_2 x209001_2 x209002_2 t224 t225 t226) = some r := H
        have A56 := Aside0.mk A560
        clear A560
        have H' := Aside0.mk H
        clear H
        have p213 : 0 ≤ (x11_2 : Int) := of_decide_eq_true (by first | (with_reducible assumption) | assumption)
        have q213 : x11_2 < (l1.length : Int) := of_decide_eq_true (by first | (with_reducible assumption) | assumption)
        obtain ⟨ad213, e213, hx213_0⟩ := Kd.at_int HR1.out x11_2 p213 q213
        cases e213
        replace hx213_0 := (HB.out.cell (World.block_lt_of_cell? w _ hx213_0)).trans hx213_0
        replace p213 := eq_true p213
        replace q213 := eq_true q213
        try go_wp2
        replace BK205 := Aside0.mk (blk_drew BK205.out)
        replace BK207 := Aside0.mk (blk_drew BK207.out)
        replace BK208 := Aside0.mk (blk_drew BK208.out)
        replace BK209 := Aside0.mk (blk_drew BK209.out)
        replace HB := Aside0.mk (below_drew1 HB.out)
        have p214 : 0 ≤ (x11_2 : Int) := of_decide_eq_true (by first | (with_reducible assumption) | assumption)
        have q214 : x11_2 < (l1.length : Int) := of_decide_eq_true (by first | (with_reducible assumption) | assumption)
        obtain ⟨ad214, e214, hx214_0⟩ := Kd.at_int HR1.out x11_2 p214 q214
        have hw214_0 := hx214_0
        obtain rfl : ad213 = ad214 := (by injection e214)
        replace hx214_0 := (HB.out.cell (World.block_lt_of_cell? w _ hx214_0)).trans hx214_0
        replace p214 := eq_true p214
        replace q214 := eq_true q214
        refine start_ (n := 9) (S := fun w' => w'.cell? ⟨gb207, 0, none⟩ = some (.int .u64 x208000_2) ∧ w'.cell? ⟨gb207, 1, none⟩ = some (.int .u64 x208001_2) ∧ w'.cell? ⟨gb207, 2, none⟩ = some (.int .u64 x208002_2) ∧ w'.cell? (ad213.add (x11_2).toNat) = some (.int .u32 (rd l1 x11_2))) (ds := []) #[false, false, false, false, false, false, false, false, false] (by kernel_rfl) rfl rfl ⟨(blk_cell BK207.out 0).trans rfl, (blk_cell BK207.out 1).trans rfl, (blk_cell BK207.out 2).trans rfl, ((HB.out.cell (World.block_lt_of_cell? w _ hw214_0)).trans hw214_0)⟩ (fun hHeld => ?_); refine with_tabW spigotlaw21_TallyParts.tab9 spigotlaw21_TallyParts.bits9 (fun HT_ HW_ => ?_)
        generalize wr.drew = w57 at BK205 BK207 BK208 BK209 HB hx214_0 hHeld ⊢
        refine pure_ (i := 1) (N := some 49) (v := ?_) (a' := ?_) #[false, true, false, false, false, false, false, false, false] rfl rfl (any_of HT_.out (by kernel_rfl)) (fun _ _ _ h => h) (Or.inl ⟨by rfl, ?_⟩) ?_ ?_
        rotate_left
        ·intro w'
         go_simp
         with_reducible rfl
        rotate_left
        ·simp only [Act.put, List.setIfInBounds_toArray, List.set_cons_zero, List.set_cons_succ, i64_w, i32_w]
         rfl
        refine pure_ (i := 2) (N := some 50) (v := ?_) (a' := ?_) #[false, true, true, false, false, false, false, false, false] rfl rfl (any_of HT_.out (by kernel_rfl)) (fun _ _ _ h => h) (Or.inl ⟨by rfl, ?_⟩) ?_ ?_
        rotate_left
        ·intro w'
         go_simp
         with_reducible rfl
        rotate_left
        ·simp only [Act.put, List.setIfInBounds_toArray, List.set_cons_zero, List.set_cons_succ, i64_w, i32_w]
         rfl
        refine pure_ (i := 3) (N := some 51) (v := ?_) (a' := ?_) #[false, true, true, true, false, false, false, false, false] rfl rfl (any_of HT_.out (by kernel_rfl)) (fun _ _ _ h => h) (Or.inl ⟨by rfl, ?_⟩) ?_ ?_
        rotate_left
        ·intro w'
         go_simp
         with_reducible rfl
        rotate_left
        ·simp only [Act.put, List.setIfInBounds_toArray, List.set_cons_zero, List.set_cons_succ, i64_w, i32_w]
         rfl
        refine pure_ (i := 4) (N := some 52) (v := ?_) (a' := ?_) #[false, true, true, true, true, false, false, false, false] rfl rfl (any_of HT_.out (by kernel_rfl)) (fun _ _ _ h => h) (Or.inl ⟨by rfl, ?_⟩) ?_ ?_
        rotate_left
        ·intro w'
         go_simp
         with_reducible rfl
        rotate_left
        ·simp only [Act.put, List.setIfInBounds_toArray, List.set_cons_zero, List.set_cons_succ, i64_w, i32_w]
         rfl
        refine take_ (i := 0) (N := some 48) (v := ?_) (a' := ?_) #[true, true, true, true, true, false, false, false, false] rfl rfl (take_ofW HT_.out HW_.out (by kernel_rfl)) (fun _ _ _ h => h) (Or.inl ⟨by rfl, ?_⟩) hHeld ?_ ?_
        rotate_left
        ·rintro w' ⟨s0, s1, s2, s3⟩
         go_simp
         with_reducible rfl
        rotate_left
        ·simp only [Act.put, List.setIfInBounds_toArray, List.set_cons_zero, List.set_cons_succ, i64_w, i32_w]
         rfl
        refine take_ (i := 5) (N := some 53) (v := ?_) (a' := ?_) #[true, true, true, true, true, true, false, false, false] rfl rfl (take_ofW HT_.out HW_.out (by kernel_rfl)) (fun _ _ _ h => h) (Or.inl ⟨by rfl, ?_⟩) hHeld ?_ ?_
        rotate_left
        ·rintro w' ⟨s0, s1, s2, s3⟩
         go_simp
         with_reducible rfl
        rotate_left
        ·simp only [Act.put, List.setIfInBounds_toArray, List.set_cons_zero, List.set_cons_succ, i64_w, i32_w]
         rfl
        refine join_ (σ := Nat) 1 #[true, true, true, true, true, true, true, true, false] (fun s_ => [(54, .agg #[.int .u64 t215, .int .u64 t216, .int .u64 t217]), (13, .pointer (some ⟨s_, 0, none⟩))]) (fun s_ w' => (w'.cell? ⟨gb207, 0, none⟩ = some (.int .u64 x208000_2) ∧ w'.cell? ⟨gb207, 1, none⟩ = some (.int .u64 x208001_2) ∧ w'.cell? ⟨gb207, 2, none⟩ = some (.int .u64 x208002_2) ∧ w'.cell? (ad213.add (x11_2).toNat) = some (.int .u32 (rd l1 x11_2))) ∧ (w'.heap[gb205]? = some (.cells #[.int .u64 a0_0, .int .u64 a0_1, .int .u64 a0_2] 25 (0, 0))) ∧ (w'.heap[gb207]? = some (.cells #[.int .u64 x208000_2, .int .u64 x208001_2, .int .u64 x208002_2] 25 (0, 0))) ∧ (w'.heap[gb208]? = some (.cells #[.int .u64 x209000_2, .int .u64 x209001_2, .int .u64 x209002_2] 25 (0, 0))) ∧ (w'.heap[gb209]? = some (.cells #[.int .u64 x210000_2, .int .u64 x210001_2, .int .u64 x210002_2] 25 (0, 0))) ∧ (w'.heap[s_]? = some (.cells #[.int .u64 0, .int .u64 0, .int .u64 0] 25 (0, 0))) ∧ (w.heap.size ≤ s_) ∧ (w.heap.size ≤ s_) ∧ (gb205 ≠ s_) ∧ (s_ ≠ gb205) ∧ (gb207 ≠ s_) ∧ (s_ ≠ gb207) ∧ (gb208 ≠ s_) ∧ (s_ ≠ gb208) ∧ (gb209 ≠ s_) ∧ (s_ ≠ gb209) ∧ (Below w.heap.size w w')) ?_ ?_
        rotate_left
        ·intro hCont
         refine two_ (i := 6) (j := 7) (Ni := some 54) (Nj := some 13) #[true, true, true, true, true, true, true, false, false] #[true, true, true, true, true, true, false, true, false] rfl rfl rfl rfl (two_of HT_.out (by kernel_rfl)) (by decide) (by decide) (fun K hK => ?_) (fun K hK => ?_)
         ·skip
          refine goes_ Try.func20 (by kernel_rfl) rfl #[.agg #[.int .u64 x208000_2, .int .u64 x208001_2, .int .u64 x208002_2], .bool ((Int.tmod (rd l1 x11_2) 2) == 0), .int .u32 (rd l1 x11_2)] (by rfl) rfl rfl (by (try simp only [List.map_toArray, List.map_cons, List.map_nil]); first | done | rfl | (simp only [List.length_drop, List.length_take]; rfl)) ?_
          with_reducible refine (tally_Count.calls x208000_2 x208001_2 x208002_2 ((Int.tmod (rd l1 x11_2) 2) == 0) (rd l1 x11_2) t215 t216 t217 _ A28.out).mono ?_
          rintro e w58 ⟨rfl, hb⟩
          refine ⟨_, rfl, ?_⟩
          replace BK205 := bb_ BK205 hb
          replace BK207 := bb_ BK207 hb
          replace BK208 := bb_ BK208 hb
          replace BK209 := bb_ BK209 hb
          replace HB := Aside0.mk (below_step (by repeat (first | (with_reducible first | exact HB.out | apply below_alloc | apply pw_below_drewN | apply below_drew1 | refine below_set ?_ (Aside0.out (by assumption))) | exact HB.out)) hb)
          (try clear hb)
          (try clear hb2)
          (try clear hk)
          (try clear hi)
          refine hK.out _ _ ⟨(blk_cell BK207.out 0).trans rfl, (blk_cell BK207.out 1).trans rfl, (blk_cell BK207.out 2).trans rfl, ((HB.out.cell (World.block_lt_of_cell? w _ hw214_0)).trans hw214_0)⟩ (fun hHeld => ?_)
          clear hK K
          refine norm_ (a' := ?_) ?_ ?_
          rotate_left
          ·show Act.put _ (some 54) _ = _
           simp only [Act.put, List.setIfInBounds_toArray, List.set_cons_zero, List.set_cons_succ, i64_w, i32_w]
           rfl
          refine one_ (i := 7) (N := some 13) #[true, true, true, true, true, true, true, true, false] rfl rfl (one_of HT_.out (by kernel_rfl)) (by decide) (fun K hK => ?_)
          refine box_step ?hg (N := 13) ?hd (cs := #[.int .u64 0, .int .u64 0, .int .u64 0]) (t := 25) ?hr ?_; (case hd => rfl); (case hg => rfl); (case hr => first | (go_simp; done) | (go_simp; rfl))
          intro gb218 hg w59 hbox hb
          have BK218 := Aside0.mk (hbox)
          have GW218 := Aside0.mk ((by rw [hg]; exact (below_size (by repeat (first | (with_reducible first | exact HB.out | apply below_alloc | apply pw_below_drewN | apply below_drew1 | refine below_set ?_ (Aside0.out (by assumption))) | exact HB.out))) : w.heap.size ≤ gb218))
          have GE218 := GW218
          have NB205_218 := bn_ BK205 hg
          have NB218_205 := bm_ BK205 hg
          have NB207_218 := bn_ BK207 hg
          have NB218_207 := bm_ BK207 hg
          have NB208_218 := bn_ BK208 hg
          have NB218_208 := bm_ BK208 hg
          have NB209_218 := bn_ BK209 hg
          have NB218_209 := bm_ BK209 hg
          replace BK205 := bb_ BK205 hb
          replace BK207 := bb_ BK207 hb
          replace BK208 := bb_ BK208 hb
          replace BK209 := bb_ BK209 hb
          replace HB := Aside0.mk (below_step (by repeat (first | (with_reducible first | exact HB.out | apply below_alloc | apply pw_below_drewN | apply below_drew1 | refine below_set ?_ (Aside0.out (by assumption))) | exact HB.out)) hb)
          clear hb hbox hg
          refine hK.out _ _ ⟨(blk_cell BK207.out 0).trans rfl, (blk_cell BK207.out 1).trans rfl, (blk_cell BK207.out 2).trans rfl, ((HB.out.cell (World.block_lt_of_cell? w _ hw214_0)).trans hw214_0)⟩ (fun hHeld => ?_)
          clear hK K
          refine norm_ (a' := ?_) ?_ ?_
          rotate_left
          ·show Act.put _ (some 13) _ = _
           simp only [Act.put, List.setIfInBounds_toArray, List.set_cons_zero, List.set_cons_succ, i64_w, i32_w]
           rfl
          exact norm_ (by simp only [putAll, Act.put, List.setIfInBounds_toArray, List.set_cons_zero, List.set_cons_succ]) (hCont (gb218) _ ⟨hHeld, (bq_ BK205), (bq_ BK207), (bq_ BK208), (bq_ BK209), (bq_ BK218), GW218.out, GE218.out, NB205_218.out, NB218_205.out, NB207_218.out, NB218_207.out, NB208_218.out, NB218_208.out, NB209_218.out, NB218_209.out, (by repeat (first | (with_reducible first | exact HB.out | apply below_alloc | apply pw_below_drewN | apply below_drew1 | refine below_set ?_ (Aside0.out (by assumption))) | exact HB.out))⟩)
         ·skip
          refine box_step ?hg (N := 13) ?hd (cs := #[.int .u64 0, .int .u64 0, .int .u64 0]) (t := 25) ?hr ?_; (case hd => rfl); (case hg => rfl); (case hr => first | (go_simp; done) | (go_simp; rfl))
          intro gb218 hg w58 hbox hb
          have BK218 := Aside0.mk (hbox)
          have GW218 := Aside0.mk ((by rw [hg]; exact (below_size (by repeat (first | (with_reducible first | exact HB.out | apply below_alloc | apply pw_below_drewN | apply below_drew1 | refine below_set ?_ (Aside0.out (by assumption))) | exact HB.out))) : w.heap.size ≤ gb218))
          have GE218 := GW218
          have NB205_218 := bn_ BK205 hg
          have NB218_205 := bm_ BK205 hg
          have NB207_218 := bn_ BK207 hg
          have NB218_207 := bm_ BK207 hg
          have NB208_218 := bn_ BK208 hg
          have NB218_208 := bm_ BK208 hg
          have NB209_218 := bn_ BK209 hg
          have NB218_209 := bm_ BK209 hg
          replace BK205 := bb_ BK205 hb
          replace BK207 := bb_ BK207 hb
          replace BK208 := bb_ BK208 hb
          replace BK209 := bb_ BK209 hb
          replace HB := Aside0.mk (below_step (by repeat (first | (with_reducible first | exact HB.out | apply below_alloc | apply pw_below_drewN | apply below_drew1 | refine below_set ?_ (Aside0.out (by assumption))) | exact HB.out)) hb)
          clear hb hbox hg
          refine hK.out _ _ ⟨(blk_cell BK207.out 0).trans rfl, (blk_cell BK207.out 1).trans rfl, (blk_cell BK207.out 2).trans rfl, ((HB.out.cell (World.block_lt_of_cell? w _ hw214_0)).trans hw214_0)⟩ (fun hHeld => ?_)
          clear hK K
          refine norm_ (a' := ?_) ?_ ?_
          rotate_left
          ·show Act.put _ (some 13) _ = _
           simp only [Act.put, List.setIfInBounds_toArray, List.set_cons_zero, List.set_cons_succ, i64_w, i32_w]
           rfl
          refine one_ (i := 6) (N := some 54) #[true, true, true, true, true, true, true, true, false] rfl rfl (one_of HT_.out (by kernel_rfl)) (by decide) (fun K hK => ?_)
          refine goes_ Try.func20 (by kernel_rfl) rfl #[.agg #[.int .u64 x208000_2, .int .u64 x208001_2, .int .u64 x208002_2], .bool ((Int.tmod (rd l1 x11_2) 2) == 0), .int .u32 (rd l1 x11_2)] (by rfl) rfl rfl (by (try simp only [List.map_toArray, List.map_cons, List.map_nil]); first | done | rfl | (simp only [List.length_drop, List.length_take]; rfl)) ?_
          with_reducible refine (tally_Count.calls x208000_2 x208001_2 x208002_2 ((Int.tmod (rd l1 x11_2) 2) == 0) (rd l1 x11_2) t215 t216 t217 _ A28.out).mono ?_
          rintro e w59 ⟨rfl, hb⟩
          refine ⟨_, rfl, ?_⟩
          replace BK205 := bb_ BK205 hb
          replace BK207 := bb_ BK207 hb
          replace BK208 := bb_ BK208 hb
          replace BK209 := bb_ BK209 hb
          replace BK218 := bb_ BK218 hb
          replace HB := Aside0.mk (below_step (by repeat (first | (with_reducible first | exact HB.out | apply below_alloc | apply pw_below_drewN | apply below_drew1 | refine below_set ?_ (Aside0.out (by assumption))) | exact HB.out)) hb)
          (try clear hb)
          (try clear hb2)
          (try clear hk)
          (try clear hi)
          refine hK.out _ _ ⟨(blk_cell BK207.out 0).trans rfl, (blk_cell BK207.out 1).trans rfl, (blk_cell BK207.out 2).trans rfl, ((HB.out.cell (World.block_lt_of_cell? w _ hw214_0)).trans hw214_0)⟩ (fun hHeld => ?_)
          clear hK K
          refine norm_ (a' := ?_) ?_ ?_
          rotate_left
          ·show Act.put _ (some 54) _ = _
           simp only [Act.put, List.setIfInBounds_toArray, List.set_cons_zero, List.set_cons_succ, i64_w, i32_w]
           rfl
          exact norm_ (by simp only [putAll, Act.put, List.setIfInBounds_toArray, List.set_cons_zero, List.set_cons_succ]) (hCont (gb218) _ ⟨hHeld, (bq_ BK205), (bq_ BK207), (bq_ BK208), (bq_ BK209), (bq_ BK218), GW218.out, GE218.out, NB205_218.out, NB218_205.out, NB207_218.out, NB218_207.out, NB208_218.out, NB218_208.out, NB209_218.out, NB218_209.out, (by repeat (first | (with_reducible first | exact HB.out | apply below_alloc | apply pw_below_drewN | apply below_drew1 | refine below_set ?_ (Aside0.out (by assumption))) | exact HB.out))⟩)
        rintro gb218 w60 ⟨hS_, h0_, h1_, h2_, h3_, h4_, h5_, h6_, h7_, h8_, h9_, h10_, h11_, h12_, h13_, h14_, h15_⟩
        have BK218 : Aside0 (w60.heap[gb218]? = some (.cells #[.int .u64 0, .int .u64 0, .int .u64 0] 25 (0, 0))) := ⟨h4_⟩
        have GW218 : Aside0 (w.heap.size ≤ gb218) := ⟨h5_⟩
        have GE218 : Aside0 (w.heap.size ≤ gb218) := ⟨h6_⟩
        have NB205_218 : Aside0 (gb205 ≠ gb218) := ⟨h7_⟩
        have NB218_205 : Aside0 (gb218 ≠ gb205) := ⟨h8_⟩
        have NB207_218 : Aside0 (gb207 ≠ gb218) := ⟨h9_⟩
        have NB218_207 : Aside0 (gb218 ≠ gb207) := ⟨h10_⟩
        have NB208_218 : Aside0 (gb208 ≠ gb218) := ⟨h11_⟩
        have NB218_208 : Aside0 (gb218 ≠ gb208) := ⟨h12_⟩
        have NB209_218 : Aside0 (gb209 ≠ gb218) := ⟨h13_⟩
        have NB218_209 : Aside0 (gb218 ≠ gb209) := ⟨h14_⟩
        replace BK205 : Aside0 (w60.heap[gb205]? = some (.cells #[.int .u64 a0_0, .int .u64 a0_1, .int .u64 a0_2] 25 (0, 0))) := ⟨h0_⟩
        replace BK207 : Aside0 (w60.heap[gb207]? = some (.cells #[.int .u64 x208000_2, .int .u64 x208001_2, .int .u64 x208002_2] 25 (0, 0))) := ⟨h1_⟩
        replace BK208 : Aside0 (w60.heap[gb208]? = some (.cells #[.int .u64 x209000_2, .int .u64 x209001_2, .int .u64 x209002_2] 25 (0, 0))) := ⟨h2_⟩
        replace BK209 : Aside0 (w60.heap[gb209]? = some (.cells #[.int .u64 x210000_2, .int .u64 x210001_2, .int .u64 x210002_2] 25 (0, 0))) := ⟨h3_⟩
        replace HB : Aside0 (Below w.heap.size w w60) := ⟨h15_⟩
        clear h0_ h1_ h2_ h3_ h4_ h5_ h6_ h7_ h8_ h9_ h10_ h11_ h12_ h13_ h14_ h15_
        have hHeld : w60.cell? ⟨gb207, 0, none⟩ = some (.int .u64 x208000_2) ∧ w60.cell? ⟨gb207, 1, none⟩ = some (.int .u64 x208001_2) ∧ w60.cell? ⟨gb207, 2, none⟩ = some (.int .u64 x208002_2) ∧ w60.cell? (ad213.add (x11_2).toNat) = some (.int .u32 (rd l1 x11_2)) := hS_
        refine norm_ (a' := ?_) ?_ ?_
        rotate_left
        ·simp only [putAll, Act.put, List.setIfInBounds_toArray, List.set_cons_zero, List.set_cons_succ]
         rfl
        refine one_ (i := 8) (N := none) #[true, true, true, true, true, true, true, true, true] rfl rfl (one_of HT_.out (by kernel_rfl)) (by decide) (fun K hK => ?_)
        have hs61 : w60.cell? ⟨gb218, 0, none⟩ = some (.int .u64 0) := (blk_cell BK218.out 0).trans rfl
        have hfs61 := blk_frozen BK218.out 0
        have hns61_0 := NB205_218.out
        have hns61_1 := NB207_218.out
        have hns61_2 := NB208_218.out
        have hns61_3 := NB209_218.out
        have hms61_0 := NB218_205.out
        have hms61_1 := NB218_207.out
        have hms61_2 := NB218_208.out
        have hms61_3 := NB218_209.out
        have hs62 : w60.cell? ⟨gb218, 1, none⟩ = some (.int .u64 0) := (blk_cell BK218.out 1).trans rfl
        have hfs62 := blk_frozen BK218.out 1
        have hns62_0 := NB205_218.out
        have hns62_1 := NB207_218.out
        have hns62_2 := NB208_218.out
        have hns62_3 := NB209_218.out
        have hms62_0 := NB218_205.out
        have hms62_1 := NB218_207.out
        have hms62_2 := NB218_208.out
        have hms62_3 := NB218_209.out
        have hs63 : w60.cell? ⟨gb218, 2, none⟩ = some (.int .u64 0) := (blk_cell BK218.out 2).trans rfl
        have hfs63 := blk_frozen BK218.out 2
        have hns63_0 := NB205_218.out
        have hns63_1 := NB207_218.out
        have hns63_2 := NB208_218.out
        have hns63_3 := NB209_218.out
        have hms63_0 := NB218_205.out
        have hms63_1 := NB218_207.out
        have hms63_2 := NB218_208.out
        have hms63_3 := NB218_209.out
        refine skip_ (w1 := ?_) (by rfl) rfl ?_ ?_
        rotate_left
        ·go_simp
         rfl
        refine hK.out _ _ ⟨((cell_far (p := ⟨gb218, _, none⟩) NB207_218.out _).trans (((cell_far (p := ⟨gb218, _, none⟩) NB207_218.out _).trans (((cell_far (p := ⟨gb218, _, none⟩) NB207_218.out _).trans (hHeld.1)))))), ((cell_far (p := ⟨gb218, _, none⟩) NB207_218.out _).trans (((cell_far (p := ⟨gb218, _, none⟩) NB207_218.out _).trans (((cell_far (p := ⟨gb218, _, none⟩) NB207_218.out _).trans (hHeld.2.1)))))), ((cell_far (p := ⟨gb218, _, none⟩) NB207_218.out _).trans (((cell_far (p := ⟨gb218, _, none⟩) NB207_218.out _).trans (((cell_far (p := ⟨gb218, _, none⟩) NB207_218.out _).trans (hHeld.2.2.1)))))), ((cell_far (p := ⟨gb218, _, none⟩) (by first | exact Nat.ne_of_lt (Nat.lt_of_lt_of_le (by have := World.block_lt_of_cell? _ _ hw214_0; first | rwa [add_block] at this | exact this) GW218.out) | (rw [add_block]; exact Nat.ne_of_lt (Nat.lt_of_lt_of_le (by have := World.block_lt_of_cell? _ _ hw214_0; first | rwa [add_block] at this | exact this) GW218.out)) | (show (Addr.add _ _).block ≠ _; rw [add_block]; exact Nat.ne_of_lt (Nat.lt_of_lt_of_le (by have := World.block_lt_of_cell? _ _ hw214_0; first | rwa [add_block] at this | exact this) GW218.out)) | (dsimp only; exact Nat.ne_of_lt (Nat.lt_of_lt_of_le (by have := World.block_lt_of_cell? _ _ hw214_0; first | rwa [add_block] at this | exact this) GW218.out))) _).trans (((cell_far (p := ⟨gb218, _, none⟩) (by first | exact Nat.ne_of_lt (Nat.lt_of_lt_of_le (by have := World.block_lt_of_cell? _ _ hw214_0; first | rwa [add_block] at this | exact this) GW218.out) | (rw [add_block]; exact Nat.ne_of_lt (Nat.lt_of_lt_of_le (by have := World.block_lt_of_cell? _ _ hw214_0; first | rwa [add_block] at this | exact this) GW218.out)) | (show (Addr.add _ _).block ≠ _; rw [add_block]; exact Nat.ne_of_lt (Nat.lt_of_lt_of_le (by have := World.block_lt_of_cell? _ _ hw214_0; first | rwa [add_block] at this | exact this) GW218.out)) | (dsimp only; exact Nat.ne_of_lt (Nat.lt_of_lt_of_le (by have := World.block_lt_of_cell? _ _ hw214_0; first | rwa [add_block] at this | exact this) GW218.out))) _).trans (((cell_far (p := ⟨gb218, _, none⟩) (by first | exact Nat.ne_of_lt (Nat.lt_of_lt_of_le (by have := World.block_lt_of_cell? _ _ hw214_0; first | rwa [add_block] at this | exact this) GW218.out) | (rw [add_block]; exact Nat.ne_of_lt (Nat.lt_of_lt_of_le (by have := World.block_lt_of_cell? _ _ hw214_0; first | rwa [add_block] at this | exact this) GW218.out)) | (show (Addr.add _ _).block ≠ _; rw [add_block]; exact Nat.ne_of_lt (Nat.lt_of_lt_of_le (by have := World.block_lt_of_cell? _ _ hw214_0; first | rwa [add_block] at this | exact this) GW218.out)) | (dsimp only; exact Nat.ne_of_lt (Nat.lt_of_lt_of_le (by have := World.block_lt_of_cell? _ _ hw214_0; first | rwa [add_block] at this | exact this) GW218.out))) _).trans (hHeld.2.2.2))))))⟩ (fun hHeld => ?_)
        clear hK K
        refine done_ (done_of HT_.out (by kernel_rfl)) ?_
        have hnb64 := NB218_205.out
        have hnc64 := NB205_218.out
        have hnb65 := NB218_207.out
        have hnc65 := NB207_218.out
        have hnb66 := NB218_208.out
        have hnc66 := NB208_218.out
        have hnb67 := NB218_209.out
        have hnc67 := NB209_218.out
        have hcz68_0 : w60.cell? ⟨gb218, 0, none⟩ = some (.int .u64 0) := (blk_cell BK218.out 0).trans rfl
        have hcz68_1 : w60.cell? ⟨gb218, 1, none⟩ = some (.int .u64 0) := (blk_cell BK218.out 1).trans rfl
        have hcz68_2 : w60.cell? ⟨gb218, 2, none⟩ = some (.int .u64 0) := (blk_cell BK218.out 2).trans rfl
        have hfz68_0 := blk_frozen BK218.out 0
        have hfz68_1 := blk_frozen BK218.out 1
        have hfz68_2 := blk_frozen BK218.out 2
        have hnb69 := NB207_205.out
        have hnc69 := NB205_207.out
        have hnb70 := NB207_208.out
        have hnc70 := NB208_207.out
        have hnb71 := NB207_209.out
        have hnc71 := NB209_207.out
        have hcz72_0 : w60.cell? ⟨gb207, 0, none⟩ = some (.int .u64 x208000_2) := (blk_cell BK207.out 0).trans rfl
        have hcz72_1 : w60.cell? ⟨gb207, 1, none⟩ = some (.int .u64 x208001_2) := (blk_cell BK207.out 1).trans rfl
        have hcz72_2 : w60.cell? ⟨gb207, 2, none⟩ = some (.int .u64 x208002_2) := (blk_cell BK207.out 2).trans rfl
        have hfz72_0 := blk_frozen BK207.out 0
        have hfz72_1 := blk_frozen BK207.out 1
        have hfz72_2 := blk_frozen BK207.out 2
        try go_wp2
        have n0_ : Aside0 (((((((w60.setCell ⟨gb218, 0, none⟩ (.int .u64 t215)).setCell ⟨gb218, 1, none⟩ (.int .u64 t216)).setCell ⟨gb218, 2, none⟩ (.int .u64 t217)).setCell ⟨gb207, 0, none⟩ (.int .u64 t215)).setCell ⟨gb207, 1, none⟩ (.int .u64 t216)).setCell ⟨gb207, 2, none⟩ (.int .u64 t217)).heap[gb205]? = some (.cells #[.int .u64 a0_0, .int .u64 a0_1, .int .u64 a0_2] 25 (0, 0))) := ⟨by (with_reducible repeat (first | refine blk_drewN ?_ _ | refine blk_drew ?_ | refine blk_alloc ?_ _)); refine blk_far ?_ NB205_207.out _; (with_reducible repeat (first | refine blk_drewN ?_ _ | refine blk_drew ?_ | refine blk_alloc ?_ _)); refine blk_far ?_ NB205_207.out _; (with_reducible repeat (first | refine blk_drewN ?_ _ | refine blk_drew ?_ | refine blk_alloc ?_ _)); refine blk_far ?_ NB205_207.out _; (with_reducible repeat (first | refine blk_drewN ?_ _ | refine blk_drew ?_ | refine blk_alloc ?_ _)); refine blk_far ?_ NB205_218.out _; (with_reducible repeat (first | refine blk_drewN ?_ _ | refine blk_drew ?_ | refine blk_alloc ?_ _)); refine blk_far ?_ NB205_218.out _; (with_reducible repeat (first | refine blk_drewN ?_ _ | refine blk_drew ?_ | refine blk_alloc ?_ _)); refine blk_far ?_ NB205_218.out _; (with_reducible repeat (first | refine blk_drewN ?_ _ | refine blk_drew ?_ | refine blk_alloc ?_ _)); exact BK205.out⟩
        have n1_ : Aside0 (((((((w60.setCell ⟨gb218, 0, none⟩ (.int .u64 t215)).setCell ⟨gb218, 1, none⟩ (.int .u64 t216)).setCell ⟨gb218, 2, none⟩ (.int .u64 t217)).setCell ⟨gb207, 0, none⟩ (.int .u64 t215)).setCell ⟨gb207, 1, none⟩ (.int .u64 t216)).setCell ⟨gb207, 2, none⟩ (.int .u64 t217)).heap[gb207]? = some (.cells #[.int .u64 t215, .int .u64 t216, .int .u64 t217] 25 (0, 0))) := ⟨by (with_reducible repeat (first | refine blk_drewN ?_ _ | refine blk_drew ?_ | refine blk_alloc ?_ _)); refine blk_put (cs := #[.int .u64 t215, .int .u64 t216, .int .u64 x208002_2]) ?_ 2 _ rfl; (with_reducible repeat (first | refine blk_drewN ?_ _ | refine blk_drew ?_ | refine blk_alloc ?_ _)); refine blk_put (cs := #[.int .u64 t215, .int .u64 x208001_2, .int .u64 x208002_2]) ?_ 1 _ rfl; (with_reducible repeat (first | refine blk_drewN ?_ _ | refine blk_drew ?_ | refine blk_alloc ?_ _)); refine blk_put (cs := #[.int .u64 x208000_2, .int .u64 x208001_2, .int .u64 x208002_2]) ?_ 0 _ rfl; (with_reducible repeat (first | refine blk_drewN ?_ _ | refine blk_drew ?_ | refine blk_alloc ?_ _)); refine blk_far ?_ NB207_218.out _; (with_reducible repeat (first | refine blk_drewN ?_ _ | refine blk_drew ?_ | refine blk_alloc ?_ _)); refine blk_far ?_ NB207_218.out _; (with_reducible repeat (first | refine blk_drewN ?_ _ | refine blk_drew ?_ | refine blk_alloc ?_ _)); refine blk_far ?_ NB207_218.out _; (with_reducible repeat (first | refine blk_drewN ?_ _ | refine blk_drew ?_ | refine blk_alloc ?_ _)); exact BK207.out⟩
        have n2_ : Aside0 (((((((w60.setCell ⟨gb218, 0, none⟩ (.int .u64 t215)).setCell ⟨gb218, 1, none⟩ (.int .u64 t216)).setCell ⟨gb218, 2, none⟩ (.int .u64 t217)).setCell ⟨gb207, 0, none⟩ (.int .u64 t215)).setCell ⟨gb207, 1, none⟩ (.int .u64 t216)).setCell ⟨gb207, 2, none⟩ (.int .u64 t217)).heap[gb208]? = some (.cells #[.int .u64 x209000_2, .int .u64 x209001_2, .int .u64 x209002_2] 25 (0, 0))) := ⟨by (with_reducible repeat (first | refine blk_drewN ?_ _ | refine blk_drew ?_ | refine blk_alloc ?_ _)); refine blk_far ?_ NB208_207.out _; (with_reducible repeat (first | refine blk_drewN ?_ _ | refine blk_drew ?_ | refine blk_alloc ?_ _)); refine blk_far ?_ NB208_207.out _; (with_reducible repeat (first | refine blk_drewN ?_ _ | refine blk_drew ?_ | refine blk_alloc ?_ _)); refine blk_far ?_ NB208_207.out _; (with_reducible repeat (first | refine blk_drewN ?_ _ | refine blk_drew ?_ | refine blk_alloc ?_ _)); refine blk_far ?_ NB208_218.out _; (with_reducible repeat (first | refine blk_drewN ?_ _ | refine blk_drew ?_ | refine blk_alloc ?_ _)); refine blk_far ?_ NB208_218.out _; (with_reducible repeat (first | refine blk_drewN ?_ _ | refine blk_drew ?_ | refine blk_alloc ?_ _)); refine blk_far ?_ NB208_218.out _; (with_reducible repeat (first | refine blk_drewN ?_ _ | refine blk_drew ?_ | refine blk_alloc ?_ _)); exact BK208.out⟩
        have n3_ : Aside0 (((((((w60.setCell ⟨gb218, 0, none⟩ (.int .u64 t215)).setCell ⟨gb218, 1, none⟩ (.int .u64 t216)).setCell ⟨gb218, 2, none⟩ (.int .u64 t217)).setCell ⟨gb207, 0, none⟩ (.int .u64 t215)).setCell ⟨gb207, 1, none⟩ (.int .u64 t216)).setCell ⟨gb207, 2, none⟩ (.int .u64 t217)).heap[gb209]? = some (.cells #[.int .u64 x210000_2, .int .u64 x210001_2, .int .u64 x210002_2] 25 (0, 0))) := ⟨by (with_reducible repeat (first | refine blk_drewN ?_ _ | refine blk_drew ?_ | refine blk_alloc ?_ _)); refine blk_far ?_ NB209_207.out _; (with_reducible repeat (first | refine blk_drewN ?_ _ | refine blk_drew ?_ | refine blk_alloc ?_ _)); refine blk_far ?_ NB209_207.out _; (with_reducible repeat (first | refine blk_drewN ?_ _ | refine blk_drew ?_ | refine blk_alloc ?_ _)); refine blk_far ?_ NB209_207.out _; (with_reducible repeat (first | refine blk_drewN ?_ _ | refine blk_drew ?_ | refine blk_alloc ?_ _)); refine blk_far ?_ NB209_218.out _; (with_reducible repeat (first | refine blk_drewN ?_ _ | refine blk_drew ?_ | refine blk_alloc ?_ _)); refine blk_far ?_ NB209_218.out _; (with_reducible repeat (first | refine blk_drewN ?_ _ | refine blk_drew ?_ | refine blk_alloc ?_ _)); refine blk_far ?_ NB209_218.out _; (with_reducible repeat (first | refine blk_drewN ?_ _ | refine blk_drew ?_ | refine blk_alloc ?_ _)); exact BK209.out⟩
        have n4_ : Aside0 (((((((w60.setCell ⟨gb218, 0, none⟩ (.int .u64 t215)).setCell ⟨gb218, 1, none⟩ (.int .u64 t216)).setCell ⟨gb218, 2, none⟩ (.int .u64 t217)).setCell ⟨gb207, 0, none⟩ (.int .u64 t215)).setCell ⟨gb207, 1, none⟩ (.int .u64 t216)).setCell ⟨gb207, 2, none⟩ (.int .u64 t217)).heap[gb218]? = some (.cells #[.int .u64 t215, .int .u64 t216, .int .u64 t217] 25 (0, 0))) := ⟨by (with_reducible repeat (first | refine blk_drewN ?_ _ | refine blk_drew ?_ | refine blk_alloc ?_ _)); refine blk_far ?_ NB218_207.out _; (with_reducible repeat (first | refine blk_drewN ?_ _ | refine blk_drew ?_ | refine blk_alloc ?_ _)); refine blk_far ?_ NB218_207.out _; (with_reducible repeat (first | refine blk_drewN ?_ _ | refine blk_drew ?_ | refine blk_alloc ?_ _)); refine blk_far ?_ NB218_207.out _; (with_reducible repeat (first | refine blk_drewN ?_ _ | refine blk_drew ?_ | refine blk_alloc ?_ _)); refine blk_put (cs := #[.int .u64 t215, .int .u64 t216, .int .u64 0]) ?_ 2 _ rfl; (with_reducible repeat (first | refine blk_drewN ?_ _ | refine blk_drew ?_ | refine blk_alloc ?_ _)); refine blk_put (cs := #[.int .u64 t215, .int .u64 0, .int .u64 0]) ?_ 1 _ rfl; (with_reducible repeat (first | refine blk_drewN ?_ _ | refine blk_drew ?_ | refine blk_alloc ?_ _)); refine blk_put (cs := #[.int .u64 0, .int .u64 0, .int .u64 0]) ?_ 0 _ rfl; (with_reducible repeat (first | refine blk_drewN ?_ _ | refine blk_drew ?_ | refine blk_alloc ?_ _)); exact BK218.out⟩
        have n5_ : Aside0 (Below w.heap.size w ((((((w60.setCell ⟨gb218, 0, none⟩ (.int .u64 t215)).setCell ⟨gb218, 1, none⟩ (.int .u64 t216)).setCell ⟨gb218, 2, none⟩ (.int .u64 t217)).setCell ⟨gb207, 0, none⟩ (.int .u64 t215)).setCell ⟨gb207, 1, none⟩ (.int .u64 t216)).setCell ⟨gb207, 2, none⟩ (.int .u64 t217))) := ⟨by repeat (first | (with_reducible first | exact HB.out | apply below_alloc | apply pw_below_drewN | apply below_drew1 | refine below_set ?_ GE205.out | refine below_set ?_ GE207.out | refine below_set ?_ GE208.out | refine below_set ?_ GE209.out | refine below_set ?_ GE218.out) | exact HB.out)⟩
        (try clear BK205)
        (try clear BK207)
        (try clear BK208)
        (try clear BK209)
        (try clear BK218)
        (try clear HB)
        generalize ((((((w60.setCell ⟨gb218, 0, none⟩ (.int .u64 t215)).setCell ⟨gb218, 1, none⟩ (.int .u64 t216)).setCell ⟨gb218, 2, none⟩ (.int .u64 t217)).setCell ⟨gb207, 0, none⟩ (.int .u64 t215)).setCell ⟨gb207, 1, none⟩ (.int .u64 t216)).setCell ⟨gb207, 2, none⟩ (.int .u64 t217)) = w73 at n0_ n1_ n2_ n3_ n4_ n5_ ⊢
        have BK205 := n0_
        have BK207 := n1_
        have BK208 := n2_
        have BK209 := n3_
        have BK218 := n4_
        have HB := n5_
        clear n0_ n1_ n2_ n3_ n4_ n5_
        replace BK205 := Aside0.mk (blk_drew BK205.out)
        replace BK207 := Aside0.mk (blk_drew BK207.out)
        replace BK208 := Aside0.mk (blk_drew BK208.out)
        replace BK209 := Aside0.mk (blk_drew BK209.out)
        replace BK218 := Aside0.mk (blk_drew BK218.out)
        replace HB := Aside0.mk (below_drew1 HB.out)
        have p223 : 0 ≤ (x11_2 : Int) := of_decide_eq_true (by first | (with_reducible assumption) | assumption)
        have q223 : x11_2 < (l1.length : Int) := of_decide_eq_true (by first | (with_reducible assumption) | assumption)
        obtain ⟨ad223, e223, hx223_0⟩ := Kd.at_int HR1.out x11_2 p223 q223
        have hw223_0 := hx223_0
        obtain rfl : ad213 = ad223 := (by injection e223)
        replace hx223_0 := (HB.out.cell (World.block_lt_of_cell? w _ hx223_0)).trans hx223_0
        replace p223 := eq_true p223
        replace q223 := eq_true q223
        refine start_ (n := 8) (S := fun w' => w'.cell? ⟨gb209, 0, none⟩ = some (.int .u64 x210000_2) ∧ w'.cell? ⟨gb209, 1, none⟩ = some (.int .u64 x210001_2) ∧ w'.cell? ⟨gb209, 2, none⟩ = some (.int .u64 x210002_2) ∧ w'.cell? (ad213.add (x11_2).toNat) = some (.int .u32 (rd l1 x11_2))) (ds := [7]) #[false, false, false, false, false, false, false, false] (by kernel_rfl) rfl rfl ⟨(blk_cell BK209.out 0).trans rfl, (blk_cell BK209.out 1).trans rfl, (blk_cell BK209.out 2).trans rfl, ((HB.out.cell (World.block_lt_of_cell? w _ hw223_0)).trans hw223_0)⟩ (fun hHeld => ?_); refine with_tabW spigotlaw21_TallyParts.tab15 spigotlaw21_TallyParts.bits15 (fun HT_ HW_ => ?_)
        generalize w73.drew = w74 at BK205 BK207 BK208 BK209 BK218 HB hx223_0 hHeld ⊢
        refine pure_ (i := 1) (N := some 86) (v := ?_) (a' := ?_) #[false, true, false, false, false, false, false, false] rfl rfl (any_of HT_.out (by kernel_rfl)) (fun _ _ _ h => h) (Or.inl ⟨by rfl, ?_⟩) ?_ ?_
        rotate_left
        ·intro w'
         go_simp
         with_reducible rfl
        rotate_left
        ·simp only [Act.put, List.setIfInBounds_toArray, List.set_cons_zero, List.set_cons_succ, i64_w, i32_w]
         rfl
        refine pure_ (i := 2) (N := some 87) (v := ?_) (a' := ?_) #[false, true, true, false, false, false, false, false] rfl rfl (any_of HT_.out (by kernel_rfl)) (fun _ _ _ h => h) (Or.inl ⟨by rfl, ?_⟩) ?_ ?_
        rotate_left
        ·intro w'
         go_simp
         with_reducible rfl
        rotate_left
        ·simp only [Act.put, List.setIfInBounds_toArray, List.set_cons_zero, List.set_cons_succ, i64_w, i32_w]
         rfl
        refine pure_ (i := 3) (N := some 88) (v := ?_) (a' := ?_) #[false, true, true, true, false, false, false, false] rfl rfl (any_of HT_.out (by kernel_rfl)) (fun _ _ _ h => h) (Or.inl ⟨by rfl, ?_⟩) ?_ ?_
        rotate_left
        ·intro w'
         go_simp
         with_reducible rfl
        rotate_left
        ·simp only [Act.put, List.setIfInBounds_toArray, List.set_cons_zero, List.set_cons_succ, i64_w, i32_w]
         rfl
        refine pure_ (i := 4) (N := some 89) (v := ?_) (a' := ?_) #[false, true, true, true, true, false, false, false] rfl rfl (any_of HT_.out (by kernel_rfl)) (fun _ _ _ h => h) (Or.inl ⟨by rfl, ?_⟩) ?_ ?_
        rotate_left
        ·intro w'
         go_simp
         with_reducible rfl
        rotate_left
        ·simp only [Act.put, List.setIfInBounds_toArray, List.set_cons_zero, List.set_cons_succ, i64_w, i32_w]
         rfl
        refine take_ (i := 0) (N := some 85) (v := ?_) (a' := ?_) #[true, true, true, true, true, false, false, false] rfl rfl (take_ofW HT_.out HW_.out (by kernel_rfl)) (fun _ _ _ h => h) (Or.inl ⟨by rfl, ?_⟩) hHeld ?_ ?_
        rotate_left
        ·rintro w' ⟨s0, s1, s2, s3⟩
         go_simp
         with_reducible rfl
        rotate_left
        ·simp only [Act.put, List.setIfInBounds_toArray, List.set_cons_zero, List.set_cons_succ, i64_w, i32_w]
         rfl
        refine take_ (i := 5) (N := some 90) (v := ?_) (a' := ?_) #[true, true, true, true, true, true, false, false] rfl rfl (take_ofW HT_.out HW_.out (by kernel_rfl)) (fun _ _ _ h => h) (Or.inl ⟨by rfl, ?_⟩) hHeld ?_ ?_
        rotate_left
        ·rintro w' ⟨s0, s1, s2, s3⟩
         go_simp
         with_reducible rfl
        rotate_left
        ·simp only [Act.put, List.setIfInBounds_toArray, List.set_cons_zero, List.set_cons_succ, i64_w, i32_w]
         rfl
        refine one_ (i := 6) (N := some 91) #[true, true, true, true, true, true, true, false] rfl rfl (one_of HT_.out (by kernel_rfl)) (by decide) (fun K hK => ?_)
        refine goes_ Try.func20 (by kernel_rfl) rfl #[.agg #[.int .u64 x210000_2, .int .u64 x210001_2, .int .u64 x210002_2], .bool ((Int.tmod (rd l1 x11_2) 2) == 0), .int .u32 (rd l1 x11_2)] (by rfl) rfl rfl (by (try simp only [List.map_toArray, List.map_cons, List.map_nil]); first | done | rfl | (simp only [List.length_drop, List.length_take]; rfl)) ?_
        with_reducible refine (tally_Count.calls x210000_2 x210001_2 x210002_2 ((Int.tmod (rd l1 x11_2) 2) == 0) (rd l1 x11_2) t224 t225 t226 _ A56.out).mono ?_
        rintro e w75 ⟨rfl, hb⟩
        refine ⟨_, rfl, ?_⟩
        replace BK205 := bb_ BK205 hb
        replace BK207 := bb_ BK207 hb
        replace BK208 := bb_ BK208 hb
        replace BK209 := bb_ BK209 hb
        replace BK218 := bb_ BK218 hb
        replace HB := Aside0.mk (below_step (by repeat (first | (with_reducible first | exact HB.out | apply below_alloc | apply pw_below_drewN | apply below_drew1 | refine below_set ?_ (Aside0.out (by assumption))) | exact HB.out)) hb)
        (try clear hb)
        (try clear hb2)
        (try clear hk)
        (try clear hi)
        refine hK.out _ _ ⟨(blk_cell BK209.out 0).trans rfl, (blk_cell BK209.out 1).trans rfl, (blk_cell BK209.out 2).trans rfl, ((HB.out.cell (World.block_lt_of_cell? w _ hw223_0)).trans hw223_0)⟩ (fun hHeld => ?_)
        clear hK K
        refine norm_ (a' := ?_) ?_ ?_
        rotate_left
        ·show Act.put _ (some 91) _ = _
         simp only [Act.put, List.setIfInBounds_toArray, List.set_cons_zero, List.set_cons_succ, i64_w, i32_w]
         rfl
        refine last_ (i := 7) (N := none) #[true, true, true, true, true, true, true, true] rfl rfl (one_of HT_.out (by kernel_rfl)) (by decide) (fun K hK => ?_)
        have hs76 : w75.cell? ⟨gb209, 0, none⟩ = some (.int .u64 x210000_2) := (blk_cell BK209.out 0).trans rfl
        have hfs76 := blk_frozen BK209.out 0
        have hns76_0 := NB205_209.out
        have hns76_1 := NB207_209.out
        have hns76_2 := NB208_209.out
        have hns76_4 := NB218_209.out
        have hms76_0 := NB209_205.out
        have hms76_1 := NB209_207.out
        have hms76_2 := NB209_208.out
        have hms76_4 := NB209_218.out
        have hs77 : w75.cell? ⟨gb209, 1, none⟩ = some (.int .u64 x210001_2) := (blk_cell BK209.out 1).trans rfl
        have hfs77 := blk_frozen BK209.out 1
        have hns77_0 := NB205_209.out
        have hns77_1 := NB207_209.out
        have hns77_2 := NB208_209.out
        have hns77_4 := NB218_209.out
        have hms77_0 := NB209_205.out
        have hms77_1 := NB209_207.out
        have hms77_2 := NB209_208.out
        have hms77_4 := NB209_218.out
        have hs78 : w75.cell? ⟨gb209, 2, none⟩ = some (.int .u64 x210002_2) := (blk_cell BK209.out 2).trans rfl
        have hfs78 := blk_frozen BK209.out 2
        have hns78_0 := NB205_209.out
        have hns78_1 := NB207_209.out
        have hns78_2 := NB208_209.out
        have hns78_4 := NB218_209.out
        have hms78_0 := NB209_205.out
        have hms78_1 := NB209_207.out
        have hms78_2 := NB209_208.out
        have hms78_4 := NB209_218.out
        refine skip_ (w1 := ?_) (by rfl) rfl ?_ ?_
        rotate_left
        ·go_simp
         rfl
        refine hK.out _ _ ?_
        clear hK K
        refine done_ (done_of HT_.out (by kernel_rfl)) ?_
        try go_wp2
        go_roundg k2
        case measure => have := HJ4.out; have := HK2.out; omega
        case rel => exact ⟨(wrap64 (x11_2 + 1)), (t215), (t216), (t217), (x209000_2), (x209001_2), (x209002_2), (t224), (t225), (t226), (by first | rfl | (simp; done) | (simp [*]; done)), H', ⟨by have := HJ4.out; have := HK2.out; omega⟩, ⟨by (with_reducible repeat (first | refine blk_drewN ?_ _ | refine blk_drew ?_ | refine blk_alloc ?_ _)); refine blk_far ?_ NB205_209.out _; (with_reducible repeat (first | refine blk_drewN ?_ _ | refine blk_drew ?_ | refine blk_alloc ?_ _)); refine blk_far ?_ NB205_209.out _; (with_reducible repeat (first | refine blk_drewN ?_ _ | refine blk_drew ?_ | refine blk_alloc ?_ _)); refine blk_far ?_ NB205_209.out _; (with_reducible repeat (first | refine blk_drewN ?_ _ | refine blk_drew ?_ | refine blk_alloc ?_ _)); exact BK205.out⟩, ⟨by (with_reducible repeat (first | refine blk_drewN ?_ _ | refine blk_drew ?_ | refine blk_alloc ?_ _)); refine blk_far ?_ NB207_209.out _; (with_reducible repeat (first | refine blk_drewN ?_ _ | refine blk_drew ?_ | refine blk_alloc ?_ _)); refine blk_far ?_ NB207_209.out _; (with_reducible repeat (first | refine blk_drewN ?_ _ | refine blk_drew ?_ | refine blk_alloc ?_ _)); refine blk_far ?_ NB207_209.out _; (with_reducible repeat (first | refine blk_drewN ?_ _ | refine blk_drew ?_ | refine blk_alloc ?_ _)); exact BK207.out⟩, ⟨by (with_reducible repeat (first | refine blk_drewN ?_ _ | refine blk_drew ?_ | refine blk_alloc ?_ _)); refine blk_far ?_ NB208_209.out _; (with_reducible repeat (first | refine blk_drewN ?_ _ | refine blk_drew ?_ | refine blk_alloc ?_ _)); refine blk_far ?_ NB208_209.out _; (with_reducible repeat (first | refine blk_drewN ?_ _ | refine blk_drew ?_ | refine blk_alloc ?_ _)); refine blk_far ?_ NB208_209.out _; (with_reducible repeat (first | refine blk_drewN ?_ _ | refine blk_drew ?_ | refine blk_alloc ?_ _)); exact BK208.out⟩, ⟨by (with_reducible repeat (first | refine blk_drewN ?_ _ | refine blk_drew ?_ | refine blk_alloc ?_ _)); refine blk_put (cs := #[.int .u64 t224, .int .u64 t225, .int .u64 x210002_2]) ?_ 2 _ rfl; (with_reducible repeat (first | refine blk_drewN ?_ _ | refine blk_drew ?_ | refine blk_alloc ?_ _)); refine blk_put (cs := #[.int .u64 t224, .int .u64 x210001_2, .int .u64 x210002_2]) ?_ 1 _ rfl; (with_reducible repeat (first | refine blk_drewN ?_ _ | refine blk_drew ?_ | refine blk_alloc ?_ _)); refine blk_put (cs := #[.int .u64 x210000_2, .int .u64 x210001_2, .int .u64 x210002_2]) ?_ 0 _ rfl; (with_reducible repeat (first | refine blk_drewN ?_ _ | refine blk_drew ?_ | refine blk_alloc ?_ _)); exact BK209.out⟩, ⟨by repeat (first | (with_reducible first | exact HB.out | apply below_alloc | apply pw_below_drewN | apply below_drew1 | refine below_set ?_ GE205.out | refine below_set ?_ GE207.out | refine below_set ?_ GE208.out | refine below_set ?_ GE209.out | refine below_set ?_ GE218.out) | exact HB.out)⟩⟩
      ·rw [if_neg c26] at H
       have c26b0 : decide (x11_2 < (l1.length : Int)) = false := decide_eq_false c26
       clear c26
       by_cases c79 : t206 = true
       ·subst c79
        have H1 : ((tally_Add.f x209000_2 x209001_2 x209002_2 x210000_2 x210001_2 x210002_2).bind fun bt210 => (some (bt210.1 == x208000_2 && (bt210.2.1 == x208001_2 && (bt210.2.2 == x208002_2))))) = some r := by rw [if_pos rfl] at H; exact H
        clear H
        have H := H1
        clear H1
        replace H := Option.bind_eq_some_iff.mp H
        obtain ⟨⟨t210, t211, t212⟩, A800, H⟩ := H
        replace H : (some (t210 == x208000_2 && (t211 == x208001_2 && (t212 == x208002_2)))) = some r := H
        have A80 := Aside0.mk A800
        clear A800
        obtain rfl := Option.some.inj H
        try go_wp2
        replace BK205 := Aside0.mk (blk_drew BK205.out)
        replace BK207 := Aside0.mk (blk_drew BK207.out)
        replace BK208 := Aside0.mk (blk_drew BK208.out)
        replace BK209 := Aside0.mk (blk_drew BK209.out)
        replace HB := Aside0.mk (below_drew1 HB.out)
        refine start_ (n := 9) (S := fun w' => w'.cell? ⟨gb208, 0, none⟩ = some (.int .u64 x209000_2) ∧ w'.cell? ⟨gb208, 1, none⟩ = some (.int .u64 x209001_2) ∧ w'.cell? ⟨gb208, 2, none⟩ = some (.int .u64 x209002_2) ∧ w'.cell? ⟨gb209, 0, none⟩ = some (.int .u64 x210000_2) ∧ w'.cell? ⟨gb209, 1, none⟩ = some (.int .u64 x210001_2) ∧ w'.cell? ⟨gb209, 2, none⟩ = some (.int .u64 x210002_2) ∧ w'.cell? ⟨gb207, 0, none⟩ = some (.int .u64 x208000_2) ∧ w'.cell? ⟨gb207, 1, none⟩ = some (.int .u64 x208001_2) ∧ w'.cell? ⟨gb207, 2, none⟩ = some (.int .u64 x208002_2)) (ds := []) #[false, false, false, false, false, false, false, false, false] (by kernel_rfl) rfl rfl ⟨(blk_cell BK208.out 0).trans rfl, (blk_cell BK208.out 1).trans rfl, (blk_cell BK208.out 2).trans rfl, (blk_cell BK209.out 0).trans rfl, (blk_cell BK209.out 1).trans rfl, (blk_cell BK209.out 2).trans rfl, (blk_cell BK207.out 0).trans rfl, (blk_cell BK207.out 1).trans rfl, (blk_cell BK207.out 2).trans rfl⟩ (fun hHeld => ?_); refine with_tabW spigotlaw21_TallyParts.tab16 spigotlaw21_TallyParts.bits16 (fun HT_ HW_ => ?_)
        generalize wr.drew = w81 at BK205 BK207 BK208 BK209 HB hHeld ⊢
        refine pure_ (i := 0) (N := some 92) (v := ?_) (a' := ?_) #[true, false, false, false, false, false, false, false, false] rfl rfl (any_of HT_.out (by kernel_rfl)) (fun _ _ _ h => h) (Or.inl ⟨by rfl, ?_⟩) ?_ ?_
        rotate_left
        ·intro w'
         go_simp
         with_reducible rfl
        rotate_left
        ·simp only [Act.put, List.setIfInBounds_toArray, List.set_cons_zero, List.set_cons_succ, i64_w, i32_w]
         rfl
        refine pure_ (i := 1) (N := some 93) (v := ?_) (a' := ?_) #[true, true, false, false, false, false, false, false, false] rfl rfl (any_of HT_.out (by kernel_rfl)) (fun _ _ _ h => h) (Or.inl ⟨by rfl, ?_⟩) ?_ ?_
        rotate_left
        ·intro w'
         go_simp
         with_reducible rfl
        rotate_left
        ·simp only [Act.put, List.setIfInBounds_toArray, List.set_cons_zero, List.set_cons_succ, i64_w, i32_w]
         rfl
        refine take_ (i := 2) (N := some 94) (v := ?_) (a' := ?_) #[true, true, true, false, false, false, false, false, false] rfl rfl (take_ofW HT_.out HW_.out (by kernel_rfl)) (fun _ _ _ h => h) (Or.inl ⟨by rfl, ?_⟩) hHeld ?_ ?_
        rotate_left
        ·rintro w' ⟨s0, s1, s2, s3, s4, s5, s6, s7, s8⟩
         go_simp
         with_reducible rfl
        rotate_left
        ·simp only [Act.put, List.setIfInBounds_toArray, List.set_cons_zero, List.set_cons_succ, i64_w, i32_w]
         rfl
        refine take_ (i := 3) (N := some 95) (v := ?_) (a' := ?_) #[true, true, true, true, false, false, false, false, false] rfl rfl (take_ofW HT_.out HW_.out (by kernel_rfl)) (fun _ _ _ h => h) (Or.inl ⟨by rfl, ?_⟩) hHeld ?_ ?_
        rotate_left
        ·rintro w' ⟨s0, s1, s2, s3, s4, s5, s6, s7, s8⟩
         go_simp
         with_reducible rfl
        rotate_left
        ·simp only [Act.put, List.setIfInBounds_toArray, List.set_cons_zero, List.set_cons_succ, i64_w, i32_w]
         rfl
        refine take_ (i := 5) (N := some 97) (v := ?_) (a' := ?_) #[true, true, true, true, false, true, false, false, false] rfl rfl (take_ofW HT_.out HW_.out (by kernel_rfl)) (fun _ _ _ h => h) (Or.inl ⟨by rfl, ?_⟩) hHeld ?_ ?_
        rotate_left
        ·rintro w' ⟨s0, s1, s2, s3, s4, s5, s6, s7, s8⟩
         go_simp
         with_reducible rfl
        rotate_left
        ·simp only [Act.put, List.setIfInBounds_toArray, List.set_cons_zero, List.set_cons_succ, i64_w, i32_w]
         rfl
        refine one_ (i := 4) (N := some 96) #[true, true, true, true, true, true, false, false, false] rfl rfl (one_of HT_.out (by kernel_rfl)) (by decide) (fun K hK => ?_)
        refine goes_ Try.func22 (by kernel_rfl) rfl #[.agg #[.int .u64 x209000_2, .int .u64 x209001_2, .int .u64 x209002_2], .agg #[.int .u64 x210000_2, .int .u64 x210001_2, .int .u64 x210002_2]] (by rfl) rfl rfl (by (try simp only [List.map_toArray, List.map_cons, List.map_nil]); first | done | rfl | (simp only [List.length_drop, List.length_take]; rfl)) ?_
        with_reducible refine (tally_Add.calls x209000_2 x209001_2 x209002_2 x210000_2 x210001_2 x210002_2 t210 t211 t212 _ A80.out).mono ?_
        rintro e w82 ⟨rfl, hb⟩
        refine ⟨_, rfl, ?_⟩
        replace BK205 := bb_ BK205 hb
        replace BK207 := bb_ BK207 hb
        replace BK208 := bb_ BK208 hb
        replace BK209 := bb_ BK209 hb
        replace HB := Aside0.mk (below_step (by repeat (first | (with_reducible first | exact HB.out | apply below_alloc | apply pw_below_drewN | apply below_drew1 | refine below_set ?_ (Aside0.out (by assumption))) | exact HB.out)) hb)
        (try clear hb)
        (try clear hb2)
        (try clear hk)
        (try clear hi)
        refine hK.out _ _ ⟨(blk_cell BK208.out 0).trans rfl, (blk_cell BK208.out 1).trans rfl, (blk_cell BK208.out 2).trans rfl, (blk_cell BK209.out 0).trans rfl, (blk_cell BK209.out 1).trans rfl, (blk_cell BK209.out 2).trans rfl, (blk_cell BK207.out 0).trans rfl, (blk_cell BK207.out 1).trans rfl, (blk_cell BK207.out 2).trans rfl⟩ (fun hHeld => ?_)
        clear hK K
        refine norm_ (a' := ?_) ?_ ?_
        rotate_left
        ·show Act.put _ (some 96) _ = _
         simp only [Act.put, List.setIfInBounds_toArray, List.set_cons_zero, List.set_cons_succ, i64_w, i32_w]
         rfl
        refine pure_ (i := 6) (N := some 98) (v := ?_) (a' := ?_) #[true, true, true, true, true, true, true, false, false] rfl rfl (any_of HT_.out (by kernel_rfl)) (fun _ _ _ h => h) (Or.inl ⟨by rfl, ?_⟩) ?_ ?_
        rotate_left
        ·intro w'
         go_simp
         with_reducible rfl
        rotate_left
        ·simp only [Act.put, List.setIfInBounds_toArray, List.set_cons_zero, List.set_cons_succ, i64_w, i32_w]
         rfl
        refine pure_ (i := 7) (N := some 99) (v := ?_) (a' := ?_) #[true, true, true, true, true, true, true, true, false] rfl rfl (any_of HT_.out (by kernel_rfl)) (fun _ _ _ h => h) (Or.inl ⟨by rfl, ?_⟩) ?_ ?_
        rotate_left
        ·intro w'
         go_simp
         with_reducible rfl
        rotate_left
        ·simp only [Act.put, List.setIfInBounds_toArray, List.set_cons_zero, List.set_cons_succ, i64_w, i32_w]
         rfl
        refine pure_ (i := 8) (N := some 6) (v := ?_) (a' := ?_) #[true, true, true, true, true, true, true, true, true] rfl rfl (any_of HT_.out (by kernel_rfl)) (fun _ _ _ h => h) (Or.inl ⟨by rfl, ?_⟩) ?_ ?_
        rotate_left
        ·intro w'
         go_simp
         with_reducible rfl
        rotate_left
        ·simp only [Act.put, List.setIfInBounds_toArray, List.set_cons_zero, List.set_cons_succ, i64_w, i32_w]
         rfl
        refine done_ (done_of HT_.out (by kernel_rfl)) ?_
        try go_wp2
        go_ret
        exact ⟨by first | rfl | (simp [errW_none, errW_some] <;> rfl) | (simp [*, errW_none, errW_some] <;> rfl), by repeat (first | (with_reducible first | exact HB.out | apply below_alloc | apply pw_below_drewN | apply below_drew1 | refine below_set ?_ GE205.out | refine below_set ?_ GE207.out | refine below_set ?_ GE208.out | refine below_set ?_ GE209.out) | exact HB.out)⟩
       ·replace c79 := Bool.eq_false_iff.mpr c79
        subst c79
        have H1 : (none) = some r := by rw [if_neg (show ¬ (false = true) by decide)] at H; exact H
        clear H
        have H := H1
        clear H1
        exact absurd H (by simp)

end Go.Proofs.Ytcdmjdghmbdikaa.X
