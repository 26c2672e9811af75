-- written by xprint.py, a program of this session over the kit's print
import Derived.Test.YtnijohomnajngaaX0
import Derived.Test.YtnijohomnajngaaX2
namespace Go.Proofs.Ytnijohomnajngaa.X
open Go.RowKit Go.Proofs.YtnijohomnajngaaW.PrintWords Go.Proofs.YtnijohomnajngaaW.PrintLast Go.Proofs.YtnijohomnajngaaW.PrintMore
attribute [local go_sem] max2_int min2_int max_two min_two max_three min_three max_four min_four   -- for this text's walks alone
set_option linter.unusedVariables false
set_option linter.unusedSimpArgs false

attribute [local go_sem high] eqA26
/-! ### spigotref01_Cmp: function 46 -/
def spigotref01_Cmp.j0 : Nat → Bool → Int → Int → Int → Int → Option (Int)
  | 0, _, _, _, _, _ => none
  | k + 1, x23, x191000, x191001, x192000, x192001 => if x23 = true then (some (-1)) else (if (x191000 == x192000 && (x191001 == x192001)) = true then (some 0) else (some 1))
def spigotref01_Cmp.f (k : Nat) (a0_0 : Int) (a0_1 : Int) (a1_0 : Int) (a1_1 : Int) : Option (Int) := if a0_0 < a1_0 then (spigotref01_Cmp.j0 k true a0_0 a0_1 a1_0 a1_1) else (if a0_0 = a1_0 then (spigotref01_Cmp.j0 k (decide (a0_1 < a1_1)) a0_0 a0_1 a1_0 a1_1) else (spigotref01_Cmp.j0 k false a0_0 a0_1 a1_0 a1_1))
theorem spigotref01_Cmp.mono_l : ∀ k, (∀ y0 y1 y2 y3 y4, LeO (spigotref01_Cmp.j0 k y0 y1 y2 y3 y4) (spigotref01_Cmp.j0 (k + 1) y0 y1 y2 y3 y4))
  | 0 => fun _ _ _ _ _ r h => by simp [spigotref01_Cmp.j0] at h
  | k + 1 => by
    have ih0 := spigotref01_Cmp.mono_l k
    · intro y0 y1 y2 y3 y4
      unfold spigotref01_Cmp.j0
      repeat' first
      | (with_reducible exact ih0 _ _ _ _ _)
      | (with_reducible exact LeO.refl _)
      | (with_reducible exact LeO.none _)
      | (with_reducible refine LeO.ite ?_ ?_)
      | (with_reducible refine LeO.bind ?_ (fun _ => ?_))
      | exact ih0 _ _ _ _ _
      | exact LeO.none _
      | refine LeO.ite ?_ ?_
      | refine LeO.bind ?_ (fun _ => ?_)
theorem spigotref01_Cmp.mono : ∀ a0 a1 a2 a3 k, LeO (spigotref01_Cmp.f k a0 a1 a2 a3) (spigotref01_Cmp.f (k + 1) a0 a1 a2 a3) := by
  intro a0 a1 a2 a3 k
  have ih0 := spigotref01_Cmp.mono_l k
  unfold spigotref01_Cmp.f
  repeat' first
      | (with_reducible exact ih0 _ _ _ _ _)
      | (with_reducible exact LeO.refl _)
      | (with_reducible exact LeO.none _)
      | (with_reducible refine LeO.ite ?_ ?_)
      | (with_reducible refine LeO.bind ?_ (fun _ => ?_))
      | exact ih0 _ _ _ _ _
      | exact LeO.none _
      | refine LeO.ite ?_ ?_
      | refine LeO.bind ?_ (fun _ => ?_)
set_option maxHeartbeats 8000000 in
set_option maxRecDepth 100000 in
theorem spigotref01_Cmp.calls (k : Nat) (a0_0 : Int) (a0_1 : Int) (a1_0 : Int) (a1_1 : Int) (r : Int) (w : World) (h : spigotref01_Cmp.f k a0_0 a0_1 a1_0 a1_1 = some r) :
  Calls Try.prog 46 #[.agg #[.int .u64 a0_0, .int .u64 a0_1], .agg #[.int .u64 a1_0, .int .u64 a1_1]] w fun e w' => e = .returned (.int .i64 r) ∧ Below w.heap.size w w' := by
 have hu26 := Try.underlying26
 have HB := Aside0.mk (Below.refl w.heap.size w)
 have H : (if a0_0 < a1_0 then (spigotref01_Cmp.j0 k true a0_0 a0_1 a1_0 a1_1) else (if a0_0 = a1_0 then (spigotref01_Cmp.j0 k (decide (a0_1 < a1_1)) a0_0 a0_1 a1_0 a1_1) else (spigotref01_Cmp.j0 k false a0_0 a0_1 a1_0 a1_1))) = some r := h
 clear h
 have HC3 := Aside0.mk H
 clear H
 go_enter Try.func46, Try.ntmps46
 go_upto_region 1 with (first | ((with_reducible refine gate_dst (N := 2) rfl ?_); (try refine ug_ (by rfl) ?_); refine bx_ #[.int .u64 a0_0, .int .u64 a0_1] 26 ?_; intro gb190 hg w4 BK190 hb; have GW190 := bz_ w hg; replace HB := bs_ w hb; clear hb hg) | ((with_reducible refine gate_dst (N := 3) rfl ?_); (try refine ug_ (by rfl) ?_); refine bx_ #[.int .u64 a1_0, .int .u64 a1_1] 26 ?_; intro gb191 hg w5 BK191 hb; have GW191 := bz_ w hg; have NB190_191 := bn_ BK190 hg; have NB191_190 := bm_ BK190 hg; replace BK190 := bb_ BK190 hb; replace HB := bs_ w hb; clear hb hg))
 (try simp only [Act.put, List.setIfInBounds_toArray, List.set_cons_zero, List.set_cons_succ])
 go_cut [23] (fun v23 wc => ∃ (kq : Nat) (x23_2 : Bool), v23 = .bool x23_2 ∧ Aside0 (spigotref01_Cmp.j0 kq x23_2 a0_0 a0_1 a1_0 a1_1 = some r) ∧ Aside0 (kq ≤ k) ∧ Aside0 (wc.heap[gb190]? = some (.cells #[.int .u64 a0_0, .int .u64 a0_1] 26 (0, 0))) ∧ Aside0 (wc.heap[gb191]? = some (.cells #[.int .u64 a1_0, .int .u64 a1_1] 26 (0, 0))) ∧ Aside0 (Below w.heap.size w wc))
 case first =>
  have H := HC3.out
  clear HC3
  by_cases c6 : a0_0 < a1_0
  ·rw [if_pos c6] at H
   have c6b0 : decide (a0_0 < a1_0) = true := decide_eq_true c6
   clear c6
   (first | rw [c6b0] | (simp only [i64_w, i32_w]; rw [c6b0]) | skip)
   have H' := Aside0.mk H
   clear H
   replace hn190_191 := NB190_191.out
   replace hn191_190 := NB191_190.out
   replace hc190 := ce2_ BK190
   replace hc191 := ce2_ BK191
   go_wp2
   go_meet
   case rel => exact ⟨_, (true), rf_, H', al_, ⟨bq_ BK190⟩, ⟨bq_ BK191⟩, bw_⟩
  ·rw [if_neg c6] at H
   have c6b0 : decide (a0_0 < a1_0) = false := decide_eq_false c6
   clear c6
   (first | rw [c6b0] | (simp only [i64_w, i32_w]; rw [c6b0]) | skip)
   by_cases c10 : a0_0 = a1_0
   ·rw [if_pos c10] at H
    have c10b0 : (a0_0 == a1_0) = true := beq_iff_eq.mpr c10
    have c10b1 : (a0_0 != a1_0) = false := bne_eq_false_iff_eq.mpr c10
    clear c10
    have H' := Aside0.mk H
    clear H
    replace hn190_191 := NB190_191.out
    replace hn191_190 := NB191_190.out
    replace hc190 := ce2_ BK190
    replace hc191 := ce2_ BK191
    go_wp2
    go_meet
    case rel => exact ⟨_, (decide (a0_1 < a1_1)), rf_, H', al_, ⟨bq_ BK190⟩, ⟨bq_ BK191⟩, bw_⟩
   ·rw [if_neg c10] at H
    have c10b0 : (a0_0 == a1_0) = false := beq_eq_false_iff_ne.mpr c10
    have c10b1 : (a0_0 != a1_0) = true := bne_iff_ne.mpr c10
    have H' := Aside0.mk H
    clear H
    replace hn190_191 := NB190_191.out
    replace hn191_190 := NB191_190.out
    replace hc190 := ce2_ BK190
    replace hc191 := ce2_ BK191
    go_wp2
    go_meet
    case rel => exact ⟨_, (false), rf_, H', al_, ⟨bq_ BK190⟩, ⟨bq_ BK191⟩, bw_⟩
 case rest =>
  clear HC3
  obtain ⟨kq, x23_2, rfl, HA, HJ2, BK190, BK191, HB⟩ := hcut
  cases kq with
  | zero => exact absurd HA.out (by simp [spigotref01_Cmp.j0])
  | succ kj2 =>
   have H := HA.out
   clear HA
   simp only [spigotref01_Cmp.j0] at H
   by_cases c17 : x23_2 = true
   ·subst c17
    replace H : (some (-1)) = some r := by rw [if_pos rfl] at H; exact H
    obtain rfl := Option.some.inj H
    go_wp2
    go_ret
    exact fi_
   ·replace c17 := Bool.eq_false_iff.mpr c17
    subst c17
    rw [if_neg (show ¬ (false = true) by decide)] at H
    try dsimp only at H
    by_cases c18 : (a0_0 == a1_0 && (a0_1 == a1_1)) = true
    ·rw [if_pos c18] at H
     have c18b0 : (a0_0 == a1_0 && (a0_1 == a1_1)) = true := c18
     (try (have c18b1 : decide (a0_0 = a1_0 && (a0_1 == a1_1)) = true := by simpa using c18))
     (try (have c18b2 : (a0_0 == a1_0 && (a0_1 == a1_1)) = true := by simpa using c18))
     clear c18
     obtain rfl := Option.some.inj H
     replace hn190_191 := NB190_191.out
     replace hn191_190 := NB191_190.out
     replace hc190 := ce2_ BK190
     replace hc191 := ce2_ BK191
     go_wp2
     go_ret
     exact fi_
    ·rw [if_neg c18] at H
     have c18b0 : (a0_0 == a1_0 && (a0_1 == a1_1)) = false := by simpa using c18
     (try (have c18b1 : decide (a0_0 = a1_0 && (a0_1 == a1_1)) = false := by simpa using c18))
     (try (have c18b2 : (a0_0 == a1_0 && (a0_1 == a1_1)) = false := by simpa using c18))
     (try (have c18b3 : ¬ (a0_0 = a1_0 && (a0_1 == a1_1)) := by simpa using c18))
     clear c18
     obtain rfl := Option.some.inj H
     replace hn190_191 := NB190_191.out
     replace hn191_190 := NB191_190.out
     replace hc190 := ce2_ BK190
     replace hc191 := ce2_ BK191
     go_wp2
     go_ret
     exact fi_

/-! ### spigotref01_Less: function 59 -/
def spigotref01_Less.f (a0_0 : Int) (a0_1 : Int) (a1_0 : Int) (a1_1 : Int) : Option (Int × Int) := if a1_1 > a0_1 then (some (IntKind.u64.wrap ((IntKind.u64.wrap (a0_0 - a1_0)) - 1), IntKind.u64.wrap (a0_1 - a1_1))) else (some (IntKind.u64.wrap (a0_0 - a1_0), IntKind.u64.wrap (a0_1 - a1_1)))
set_option maxHeartbeats 8000000 in
set_option maxRecDepth 100000 in
theorem spigotref01_Less.calls (a0_0 : Int) (a0_1 : Int) (a1_0 : Int) (a1_1 : Int) (r1 : Int) (r2 : Int) (w : World) (h : spigotref01_Less.f a0_0 a0_1 a1_0 a1_1 = some (r1, r2)) :
  Calls Try.prog 59 #[.agg #[.int .u64 a0_0, .int .u64 a0_1], .agg #[.int .u64 a1_0, .int .u64 a1_1]] w fun e w' => e = .returned (.agg #[.int .u64 r1, .int .u64 r2]) ∧ Below w.heap.size w w' := by
 have hu26 := Try.underlying26
 have HB := Aside0.mk (Below.refl w.heap.size w)
 have H : (if a1_1 > a0_1 then (some (IntKind.u64.wrap ((IntKind.u64.wrap (a0_0 - a1_0)) - 1), IntKind.u64.wrap (a0_1 - a1_1))) else (some (IntKind.u64.wrap (a0_0 - a1_0), IntKind.u64.wrap (a0_1 - a1_1)))) = some (r1, r2) := h
 clear h
 by_cases c3 : a1_1 > a0_1
 ·rw [if_pos c3] at H
  have c3b0 : decide (a0_1 < a1_1) = true := decide_eq_true c3
  clear c3
  simp only [Option.some.injEq, Prod.mk.injEq] at H
  obtain ⟨rfl, rfl⟩ := H
  go_enter Try.func59, Try.ntmps59
  go_wp2_with (first | ((with_reducible refine gate_dst (N := 2) rfl ?_); refine bx_ #[.int .u64 a0_0, .int .u64 a0_1] 26 ?_; intro gb192 hg w4 BK192 hb; have GW192 := bz_ w hg; have GE192 := GW192; replace HB := bs_ w hb; clear hb hg) | ((with_reducible refine gate_dst (N := 3) rfl ?_); refine bx_ #[.int .u64 a1_0, .int .u64 a1_1] 26 ?_; intro gb193 hg w5 BK193 hb; have GW193 := bz_ w hg; have GE193 := GW193; have NB192_193 := bn_ BK192 hg; have NB193_192 := bm_ BK192 hg; replace BK192 := bb_ BK192 hb; replace HB := bs_ w hb; clear hb hg) | ((with_reducible refine gate_dst (N := 4) rfl ?_); refine bx_ #[.int .u64 0, .int .u64 0] 26 ?_; intro gb194 hg w6 BK194 hb; have GW194 := bz_ w hg; have GE194 := GW194; have NB192_194 := bn_ BK192 hg; have NB194_192 := bm_ BK192 hg; have NB193_194 := bn_ BK193 hg; have NB194_193 := bm_ BK193 hg; replace BK192 := bb_ BK192 hb; replace BK193 := bb_ BK193 hb; replace HB := bs_ w hb; clear hb hg; replace hn193_192 := NB193_192.out; replace hn192_193 := NB192_193.out; replace hn193_194 := NB193_194.out; replace hn194_193 := NB194_193.out; replace hc193 := ce2_ BK193; replace hn192_194 := NB192_194.out; replace hn194_192 := NB194_192.out; replace hc192 := ce2_ BK192; replace hc194 := ce2_ BK194))
  refine bodyPost_ret (results_cell_row rfl _ _ gb194 26 #[.int .u64 (IntKind.u64.wrap ((IntKind.u64.wrap (a0_0 - a1_0)) - 1)), .int .u64 (IntKind.u64.wrap (a0_1 - a1_1))] (0, 0) _ rfl (bp2_ (bq_ BK194)) Try.underlying26 rfl (by kernel_rfl)) rfl ?_
  exact fi_
 ·rw [if_neg c3] at H
  have c3b0 : decide (a0_1 < a1_1) = false := decide_eq_false c3
  clear c3
  simp only [Option.some.injEq, Prod.mk.injEq] at H
  obtain ⟨rfl, rfl⟩ := H
  go_enter Try.func59, Try.ntmps59
  go_wp2_with (first | ((with_reducible refine gate_dst (N := 2) rfl ?_); refine bx_ #[.int .u64 a0_0, .int .u64 a0_1] 26 ?_; intro gb192 hg w13 BK192 hb; have GW192 := bz_ w hg; have GE192 := GW192; replace HB := bs_ w hb; clear hb hg) | ((with_reducible refine gate_dst (N := 3) rfl ?_); refine bx_ #[.int .u64 a1_0, .int .u64 a1_1] 26 ?_; intro gb193 hg w14 BK193 hb; have GW193 := bz_ w hg; have GE193 := GW193; have NB192_193 := bn_ BK192 hg; have NB193_192 := bm_ BK192 hg; replace BK192 := bb_ BK192 hb; replace HB := bs_ w hb; clear hb hg) | ((with_reducible refine gate_dst (N := 4) rfl ?_); refine bx_ #[.int .u64 0, .int .u64 0] 26 ?_; intro gb194 hg w15 BK194 hb; have GW194 := bz_ w hg; have GE194 := GW194; have NB192_194 := bn_ BK192 hg; have NB194_192 := bm_ BK192 hg; have NB193_194 := bn_ BK193 hg; have NB194_193 := bm_ BK193 hg; replace BK192 := bb_ BK192 hb; replace BK193 := bb_ BK193 hb; replace HB := bs_ w hb; clear hb hg; replace hn193_192 := NB193_192.out; replace hn192_193 := NB192_193.out; replace hn193_194 := NB193_194.out; replace hn194_193 := NB194_193.out; replace hc193 := ce2_ BK193; replace hn192_194 := NB192_194.out; replace hn194_192 := NB194_192.out; replace hc192 := ce2_ BK192; replace hc194 := ce2_ BK194))
  refine bodyPost_ret (results_cell_row rfl _ _ gb194 26 #[.int .u64 (IntKind.u64.wrap (a0_0 - a1_0)), .int .u64 (IntKind.u64.wrap (a0_1 - a1_1))] (0, 0) _ rfl (bp2_ (bq_ BK194)) Try.underlying26 rfl (by kernel_rfl)) rfl ?_
  exact fi_

/-! ### spigotref01_Sub: function 41 -/
def spigotref01_Sub.f (k : Nat) (a0_0 : Int) (a0_1 : Int) (a1_0 : Int) (a1_1 : Int) : Option (Int × Int × Int) := (spigotref01_Cmp.f k a0_0 a0_1 a1_0 a1_1).bind fun t198 => (if t198 < 0 then (some (0, 0, 16)) else ((spigotref01_Less.f a0_0 a0_1 a1_0 a1_1).bind fun bt199 => (some (bt199.1, bt199.2, 0))))
theorem spigotref01_Sub.mono : ∀ a0 a1 a2 a3 k, LeO (spigotref01_Sub.f k a0 a1 a2 a3) (spigotref01_Sub.f (k + 1) a0 a1 a2 a3) := by
  intro a0 a1 a2 a3 k
  unfold spigotref01_Sub.f
  repeat' first
      | (with_reducible exact spigotref01_Cmp.mono _ _ _ _ _)
      | (with_reducible exact LeO.refl _)
      | (with_reducible exact LeO.none _)
      | (with_reducible refine LeO.ite ?_ ?_)
      | (with_reducible refine LeO.bind ?_ (fun _ => ?_))
      | exact spigotref01_Cmp.mono _ _ _ _ _
      | exact LeO.none _
      | refine LeO.ite ?_ ?_
      | refine LeO.bind ?_ (fun _ => ?_)
set_option maxHeartbeats 8000000 in
set_option maxRecDepth 100000 in
theorem spigotref01_Sub.calls (k : Nat) (a0_0 : Int) (a0_1 : Int) (a1_0 : Int) (a1_1 : Int) (r1 : Int) (r2 : Int) (r3 : Int) (w : World) (h : spigotref01_Sub.f k a0_0 a0_1 a1_0 a1_1 = some (r1, r2, r3)) :
  Calls Try.prog 41 #[.agg #[.int .u64 a0_0, .int .u64 a0_1], .agg #[.int .u64 a1_0, .int .u64 a1_1]] w fun e w' => e = .returned (.tuple #[.agg #[.int .u64 r1, .int .u64 r2], .int .i64 r3]) ∧ Below w.heap.size w w' := by
 have hu26 := Try.underlying26
 have HB := Aside0.mk (Below.refl w.heap.size w)
 have H : ((spigotref01_Cmp.f k a0_0 a0_1 a1_0 a1_1).bind fun t198 => (if t198 < 0 then (some (0, 0, 16)) else ((spigotref01_Less.f a0_0 a0_1 a1_0 a1_1).bind fun bt199 => (some (bt199.1, bt199.2, 0))))) = some (r1, r2, r3) := h
 clear h
 have H0_ := bo_ H; clear H; obtain ⟨t198, A3, H⟩ := H0_
 replace H : (if t198 < 0 then (some (0, 0, 16)) else ((spigotref01_Less.f a0_0 a0_1 a1_0 a1_1).bind fun bt199 => (some (bt199.1, bt199.2, 0)))) = some (r1, r2, r3) := H
 by_cases c4 : t198 < 0
 ·rw [if_pos c4] at H
  have c4b0 : decide (t198 < 0) = true := decide_eq_true c4
  clear c4
  simp only [Option.some.injEq, Prod.mk.injEq] at H
  obtain ⟨rfl, rfl, rfl⟩ := H
  go_enter Try.func41, Try.ntmps41
  go_wp2_with (first | ((with_reducible refine gate_dst (N := 2) rfl ?_); refine bx_ #[.int .u64 a0_0, .int .u64 a0_1] 26 ?_; intro gb195 hg w5 BK195 hb; have GW195 := bz_ w hg; have GE195 := GW195; replace HB := bs_ w hb; clear hb hg) | ((with_reducible refine gate_dst (N := 3) rfl ?_); refine bx_ #[.int .u64 a1_0, .int .u64 a1_1] 26 ?_; intro gb196 hg w6 BK196 hb; have GW196 := bz_ w hg; have GE196 := GW196; have NB195_196 := bn_ BK195 hg; have NB196_195 := bm_ BK195 hg; replace BK195 := bb_ BK195 hb; replace HB := bs_ w hb; clear hb hg) | ((with_reducible refine gate_dst (N := 4) rfl ?_); refine bx_ #[.int .u64 0, .int .u64 0] 26 ?_; intro gb197 hg w7 BK197 hb; have GW197 := bz_ w hg; have GE197 := GW197; have NB195_197 := bn_ BK195 hg; have NB197_195 := bm_ BK195 hg; have NB196_197 := bn_ BK196 hg; have NB197_196 := bm_ BK196 hg; replace BK195 := bb_ BK195 hb; replace BK196 := bb_ BK196 hb; replace HB := bs_ w hb; clear hb hg; replace hn195_196 := NB195_196.out; replace hn196_195 := NB196_195.out; replace hn195_197 := NB195_197.out; replace hn197_195 := NB197_195.out; replace hc195 := ce2_ BK195; replace hn196_197 := NB196_197.out; replace hn197_196 := NB197_196.out; replace hc196 := ce2_ BK196) | ((with_reducible refine gate_callee (f := 46) rfl ?_); refine goesA_ (some 8) Try.func46 #[.agg #[.int .u64 a0_0, .int .u64 a0_1], .agg #[.int .u64 a1_0, .int .u64 a1_1]] ?_; (with_reducible refine (spigotref01_Cmp.calls k a0_0 a0_1 a1_0 a1_1 t198 _ A3.out).mono ?_); rintro e w13 ⟨rfl, hb⟩; refine ⟨_, rfl, ?_⟩; replace BK195 := bb_ BK195 hb; replace BK196 := bb_ BK196 hb; replace BK197 := bb_ BK197 hb; replace HB := bs_ w hb; clear hb; replace hc197 := ce2_ BK197))
  refine bodyPost_ret (results_ct rfl _ _ gb197 26 #[.int .u64 0, .int .u64 0] (0, 0) _ rfl (bp2_ (bq_ BK197)) Try.underlying26 rfl (by kernel_rfl)) rfl ?_
  exact fi_
 ·rw [if_neg c4] at H
  have c4b0 : decide (t198 < 0) = false := decide_eq_false c4
  clear c4
  have H0_ := bo_ H; clear H; obtain ⟨⟨t199, t200⟩, A15, H⟩ := H0_
  replace H : (some (t199, t200, 0)) = some (r1, r2, r3) := H
  simp only [Option.some.injEq, Prod.mk.injEq] at H
  obtain ⟨rfl, rfl, rfl⟩ := H
  go_enter Try.func41, Try.ntmps41
  go_wp2_with (first | ((with_reducible refine gate_dst (N := 2) rfl ?_); refine bx_ #[.int .u64 a0_0, .int .u64 a0_1] 26 ?_; intro gb195 hg w16 BK195 hb; have GW195 := bz_ w hg; have GE195 := GW195; replace HB := bs_ w hb; clear hb hg) | ((with_reducible refine gate_dst (N := 3) rfl ?_); refine bx_ #[.int .u64 a1_0, .int .u64 a1_1] 26 ?_; intro gb196 hg w17 BK196 hb; have GW196 := bz_ w hg; have GE196 := GW196; have NB195_196 := bn_ BK195 hg; have NB196_195 := bm_ BK195 hg; replace BK195 := bb_ BK195 hb; replace HB := bs_ w hb; clear hb hg) | ((with_reducible refine gate_dst (N := 4) rfl ?_); refine bx_ #[.int .u64 0, .int .u64 0] 26 ?_; intro gb197 hg w18 BK197 hb; have GW197 := bz_ w hg; have GE197 := GW197; have NB195_197 := bn_ BK195 hg; have NB197_195 := bm_ BK195 hg; have NB196_197 := bn_ BK196 hg; have NB197_196 := bm_ BK196 hg; replace BK195 := bb_ BK195 hb; replace BK196 := bb_ BK196 hb; replace HB := bs_ w hb; clear hb hg; replace hn195_196 := NB195_196.out; replace hn196_195 := NB196_195.out; replace hn195_197 := NB195_197.out; replace hn197_195 := NB197_195.out; replace hc195 := ce2_ BK195; replace hn196_197 := NB196_197.out; replace hn197_196 := NB197_196.out; replace hc196 := ce2_ BK196) | ((with_reducible refine gate_callee (f := 46) rfl ?_); refine goesA_ (some 8) Try.func46 #[.agg #[.int .u64 a0_0, .int .u64 a0_1], .agg #[.int .u64 a1_0, .int .u64 a1_1]] ?_; (with_reducible refine (spigotref01_Cmp.calls k a0_0 a0_1 a1_0 a1_1 t198 _ A3.out).mono ?_); rintro e w24 ⟨rfl, hb⟩; refine ⟨_, rfl, ?_⟩; replace BK195 := bb_ BK195 hb; replace BK196 := bb_ BK196 hb; replace BK197 := bb_ BK197 hb; replace HB := bs_ w hb; clear hb; replace hc195 := ce2_ BK195; replace hc196 := ce2_ BK196) | ((with_reducible refine gate_callee (f := 59) rfl ?_); refine goesA_ (some 13) Try.func59 #[.agg #[.int .u64 a0_0, .int .u64 a0_1], .agg #[.int .u64 a1_0, .int .u64 a1_1]] ?_; (with_reducible refine (spigotref01_Less.calls a0_0 a0_1 a1_0 a1_1 t199 t200 _ A15.out).mono ?_); rintro e w27 ⟨rfl, hb⟩; refine ⟨_, rfl, ?_⟩; replace BK195 := bb_ BK195 hb; replace BK196 := bb_ BK196 hb; replace BK197 := bb_ BK197 hb; replace HB := bs_ w hb; clear hb; replace hc197 := ce2_ BK197))
  refine bodyPost_ret (results_ct rfl _ _ gb197 26 #[.int .u64 t199, .int .u64 t200] (0, 0) _ rfl (bp2_ (bq_ BK197)) Try.underlying26 rfl (by kernel_rfl)) rfl ?_
  exact fi_

end Go.Proofs.Ytnijohomnajngaa.X
