-- written by xprint.py, a program of this session over the kit's print
import Derived.Test.YtiifhbaabnpkeaaX0
namespace Go.Proofs.Ytiifhbaabnpkeaa.X
open Go.RowKit Go.Proofs.YtiifhbaabnpkeaaW.PrintWords Go.Proofs.YtiifhbaabnpkeaaW.PrintLast Go.Proofs.YtiifhbaabnpkeaaW.PrintMore
attribute [local go_sem] max2_int min2_int max_two min_two max_three min_three max_four min_four   -- for this text's walks alone
set_option linter.unusedVariables false
set_option linter.unusedSimpArgs false

/-! ### spigotref04_Costs: function 4 -/
def spigotref04_Costs.l0 : Nat → List Int → List Int → Int → Option (Bool)
  | 0, _, _, _ => none
  | k + 1, x0, x1, x5 => if x5 < (x1.length : Int) then (if 0 ≤ x5 then (if (rd x1 x5) < 0 then (some false) else (spigotref04_Costs.l0 k x0 x1 (wrap64 (x5 + 1)))) else (none)) else (some ((x1.length : Int) == (x0.length : Int)))
def spigotref04_Costs.f (k : Nat) (l0 : List Int) (l1 : List Int) : Option (Bool) := spigotref04_Costs.l0 k l0 l1 0
theorem spigotref04_Costs.mono_l : ∀ k, (∀ y0 y1 y2, LeO (spigotref04_Costs.l0 k y0 y1 y2) (spigotref04_Costs.l0 (k + 1) y0 y1 y2))
  | 0 => fun _ _ _ r h => by simp [spigotref04_Costs.l0] at h
  | k + 1 => by
    have ih0 := spigotref04_Costs.mono_l k
    · intro y0 y1 y2
      unfold spigotref04_Costs.l0
      repeat' first
      | (with_reducible exact ih0 _ _ _)
      | (with_reducible exact LeO.refl _)
      | (with_reducible exact LeO.none _)
      | (with_reducible refine LeO.ite ?_ ?_)
      | (with_reducible refine LeO.bind ?_ (fun _ => ?_))
      | exact ih0 _ _ _
      | exact LeO.none _
      | refine LeO.ite ?_ ?_
      | refine LeO.bind ?_ (fun _ => ?_)
theorem spigotref04_Costs.mono : ∀ a0 a1 k, LeO (spigotref04_Costs.f k a0 a1) (spigotref04_Costs.f (k + 1) a0 a1) := by
  intro a0 a1 k
  have ih0 := spigotref04_Costs.mono_l k
  unfold spigotref04_Costs.f
  repeat' first
      | (with_reducible exact ih0 _ _ _)
      | (with_reducible exact LeO.refl _)
      | (with_reducible exact LeO.none _)
      | (with_reducible refine LeO.ite ?_ ?_)
      | (with_reducible refine LeO.bind ?_ (fun _ => ?_))
      | exact ih0 _ _ _
      | exact LeO.none _
      | refine LeO.ite ?_ ?_
      | refine LeO.bind ?_ (fun _ => ?_)
set_option maxHeartbeats 8000000 in
set_option maxRecDepth 100000 in
theorem spigotref04_Costs.calls (k : Nat) (A0 : Option Addr) (c0 : Nat) (l0 : List Int) (A1 : Option Addr) (c1 : Nat) (l1 : List Int) (r : Bool) (w : World) (hr0 : Kd.C (Kd.int .u64) w A0 l0.length l0) (hc0 : l0.length ≤ c0) (hr1 : Kd.C (Kd.int .i64) w A1 l1.length l1) (hc1 : l1.length ≤ c1) (h : spigotref04_Costs.f k l0 l1 = some r) :
  Calls Try.prog 4 #[.slice A0 l0.length c0, .slice A1 l1.length c1] w fun e w' => e = .returned (.bool r) ∧ Drawn0 w w' := by
 have HR0 := Aside0.mk hr0
 have HC0 := Aside0.mk hc0
 clear hr0 hc0
 have HR1 := Aside0.mk hr1
 have HC1 := Aside0.mk hc1
 clear hr1 hc1
 have H : (spigotref04_Costs.l0 k l0 l1 0) = some r := h
 clear h
 have H' := Aside0.mk H
 clear H
 go_enter Try.func4, Try.ntmps4
 go_wp2
 go_loopg [5] k (fun kq v5 w' => ∃ (x5_1 : Int), v5 = .int .i64 x5_1 ∧ Aside0 (spigotref04_Costs.l0 kq l0 l1 x5_1 = some r) ∧ Aside0 (kq ≤ k) ∧ Drawn0 w w')
 case atStart => exact ⟨(0), rf_, H', ⟨Nat.le_refl _⟩, by repeat (first | exact Drawn0.refl _ | apply Drawn0.step)⟩
 case round =>
  clear H'
  try clear c1
  obtain ⟨x5_1, rfl, HA, HK1, ⟨m1, rfl⟩⟩ := hrel
  cases gk with
  | zero => exact absurd HA.out (by simp [spigotref04_Costs.l0])
  | succ k1 =>
   have H := HA.out
   clear HA
   simp only [spigotref04_Costs.l0] at H
   by_cases c3 : x5_1 < (l1.length : Int)
   ·rw [if_pos c3] at H
    have c3b0 : decide (x5_1 < (l1.length : Int)) = true := decide_eq_true c3
    clear c3
    by_cases c4 : 0 ≤ x5_1
    rotate_left
    ·rw [if_neg c4] at H; exact absurd H (by simp)
    rw [if_pos c4] at H
    have c4b0 : decide (0 ≤ x5_1) = true := decide_eq_true c4
    clear c4
    by_cases c5 : (rd l1 x5_1) < 0
    ·rw [if_pos c5] at H
     have c5b0 : decide ((rd l1 x5_1) < 0) = true := decide_eq_true c5
     clear c5
     obtain rfl := Option.some.inj H
     have p101 : 0 ≤ (x5_1 : Int) := of_decide_eq_true (by first | (with_reducible assumption) | assumption)
     have q101 : x5_1 < (l1.length : Int) := of_decide_eq_true (by first | (with_reducible assumption) | assumption)
     obtain ⟨ad101, e101, hx101_0⟩ := Kd.at_int HR1.out x5_1 p101 q101
     cases e101
     replace p101 := eq_true p101
     replace q101 := eq_true q101
     go_wp2
     go_ret
     exact ⟨by first | rfl | (simp; done) | (simp [*]; done), by repeat (first | exact Drawn0.refl _ | apply Drawn0.step)⟩
    ·rw [if_neg c5] at H
     have c5b0 : decide ((rd l1 x5_1) < 0) = false := decide_eq_false c5
     clear c5
     have H' := Aside0.mk H
     clear H
     have p101 : 0 ≤ (x5_1 : Int) := of_decide_eq_true (by first | (with_reducible assumption) | assumption)
     have q101 : x5_1 < (l1.length : Int) := of_decide_eq_true (by first | (with_reducible assumption) | assumption)
     obtain ⟨ad101, e101, hx101_0⟩ := Kd.at_int HR1.out x5_1 p101 q101
     cases e101
     replace p101 := eq_true p101
     replace q101 := eq_true q101
     go_wp2
     go_roundg k1
     case measure => have := HK1.out; omega
     case rel => exact ⟨(wrap64 (x5_1 + 1)), rf_, H', ⟨by have := HK1.out; omega⟩, by repeat (first | exact Drawn0.refl _ | apply Drawn0.step)⟩
   ·rw [if_neg c3] at H
    have c3b0 : decide (x5_1 < (l1.length : Int)) = false := decide_eq_false c3
    clear c3
    obtain rfl := Option.some.inj H
    go_wp2
    go_ret
    exact ⟨by first | rfl | (simp; done) | (simp [*]; done), by repeat (first | exact Drawn0.refl _ | apply Drawn0.step)⟩

/-! ### bucket_CheckLimit: function 14 -/
def bucket_CheckLimit.f (a0_0 : Int) (a0_1 : Int) (a0_2 : Int) : Option (Int) := if a0_0 < 1 then (some 8) else (if a0_0 > 1000000000 then (some 8) else (if a0_1 < 0 then (some 8) else (if a0_1 > 1000000000 then (some 8) else (if a0_2 < 1 then (some 8) else (if a0_2 > 1000000000 then (some 8) else (some 0))))))
set_option maxHeartbeats 8000000 in
set_option maxRecDepth 100000 in
theorem bucket_CheckLimit.calls (a0_0 : Int) (a0_1 : Int) (a0_2 : Int) (r : Int) (w : World) (h : bucket_CheckLimit.f a0_0 a0_1 a0_2 = some r) :
  Calls Try.prog 14 #[.agg #[.int .i64 a0_0, .int .i64 a0_1, .int .i64 a0_2]] w fun e w' => e = .returned (.int .i64 r) ∧ Below w.heap.size w w' := by
 have hu30 := Try.underlying30
 have HB := Aside0.mk (Below.refl w.heap.size w)
 have H : (if a0_0 < 1 then (some 8) else (if a0_0 > 1000000000 then (some 8) else (if a0_1 < 0 then (some 8) else (if a0_1 > 1000000000 then (some 8) else (if a0_2 < 1 then (some 8) else (if a0_2 > 1000000000 then (some 8) else (some 0))))))) = some r := h
 clear h
 by_cases c2 : a0_0 < 1
 ·rw [if_pos c2] at H
  have c2b0 : decide (a0_0 < 1) = true := decide_eq_true c2
  clear c2
  obtain rfl := Option.some.inj H
  go_enter Try.func14, Try.ntmps14
  go_wp2_with (first | ((with_reducible refine gate_dst (N := 1) rfl ?_); (try refine ug_ (by rfl) ?_); refine bx_ #[.int .i64 a0_0, .int .i64 a0_1, .int .i64 a0_2] 30 ?_; intro gb102 hg w3 BK102 hb; have GW102 := bz_ w hg; have GE102 := GW102; replace HB := bs_ w hb; clear hb hg; replace hc102 := ce3_ BK102))
  go_ret
  exact fi_
 ·rw [if_neg c2] at H
  have c2b0 : decide (a0_0 < 1) = false := decide_eq_false c2
  clear c2
  by_cases c5 : a0_0 > 1000000000
  ·rw [if_pos c5] at H
   have c5b0 : decide (1000000000 < a0_0) = true := decide_eq_true c5
   clear c5
   obtain rfl := Option.some.inj H
   go_enter Try.func14, Try.ntmps14
   go_wp2_with (first | ((with_reducible refine gate_dst (N := 1) rfl ?_); (try refine ug_ (by rfl) ?_); refine bx_ #[.int .i64 a0_0, .int .i64 a0_1, .int .i64 a0_2] 30 ?_; intro gb102 hg w6 BK102 hb; have GW102 := bz_ w hg; have GE102 := GW102; replace HB := bs_ w hb; clear hb hg; replace hc102 := ce3_ BK102))
   go_ret
   exact fi_
  ·rw [if_neg c5] at H
   have c5b0 : decide (1000000000 < a0_0) = false := decide_eq_false c5
   clear c5
   by_cases c8 : a0_1 < 0
   ·rw [if_pos c8] at H
    have c8b0 : decide (a0_1 < 0) = true := decide_eq_true c8
    clear c8
    obtain rfl := Option.some.inj H
    go_enter Try.func14, Try.ntmps14
    go_wp2_with (first | ((with_reducible refine gate_dst (N := 1) rfl ?_); (try refine ug_ (by rfl) ?_); refine bx_ #[.int .i64 a0_0, .int .i64 a0_1, .int .i64 a0_2] 30 ?_; intro gb102 hg w9 BK102 hb; have GW102 := bz_ w hg; have GE102 := GW102; replace HB := bs_ w hb; clear hb hg; replace hc102 := ce3_ BK102))
    go_ret
    exact fi_
   ·rw [if_neg c8] at H
    have c8b0 : decide (a0_1 < 0) = false := decide_eq_false c8
    clear c8
    by_cases c11 : a0_1 > 1000000000
    ·rw [if_pos c11] at H
     have c11b0 : decide (1000000000 < a0_1) = true := decide_eq_true c11
     clear c11
     obtain rfl := Option.some.inj H
     go_enter Try.func14, Try.ntmps14
     go_wp2_with (first | ((with_reducible refine gate_dst (N := 1) rfl ?_); (try refine ug_ (by rfl) ?_); refine bx_ #[.int .i64 a0_0, .int .i64 a0_1, .int .i64 a0_2] 30 ?_; intro gb102 hg w12 BK102 hb; have GW102 := bz_ w hg; have GE102 := GW102; replace HB := bs_ w hb; clear hb hg; replace hc102 := ce3_ BK102))
     go_ret
     exact fi_
    ·rw [if_neg c11] at H
     have c11b0 : decide (1000000000 < a0_1) = false := decide_eq_false c11
     clear c11
     by_cases c14 : a0_2 < 1
     ·rw [if_pos c14] at H
      have c14b0 : decide (a0_2 < 1) = true := decide_eq_true c14
      clear c14
      obtain rfl := Option.some.inj H
      go_enter Try.func14, Try.ntmps14
      go_wp2_with (first | ((with_reducible refine gate_dst (N := 1) rfl ?_); (try refine ug_ (by rfl) ?_); refine bx_ #[.int .i64 a0_0, .int .i64 a0_1, .int .i64 a0_2] 30 ?_; intro gb102 hg w15 BK102 hb; have GW102 := bz_ w hg; have GE102 := GW102; replace HB := bs_ w hb; clear hb hg; replace hc102 := ce3_ BK102))
      go_ret
      exact fi_
     ·rw [if_neg c14] at H
      have c14b0 : decide (a0_2 < 1) = false := decide_eq_false c14
      clear c14
      by_cases c17 : a0_2 > 1000000000
      ·rw [if_pos c17] at H
       have c17b0 : decide (1000000000 < a0_2) = true := decide_eq_true c17
       clear c17
       obtain rfl := Option.some.inj H
       go_enter Try.func14, Try.ntmps14
       go_wp2_with (first | ((with_reducible refine gate_dst (N := 1) rfl ?_); (try refine ug_ (by rfl) ?_); refine bx_ #[.int .i64 a0_0, .int .i64 a0_1, .int .i64 a0_2] 30 ?_; intro gb102 hg w18 BK102 hb; have GW102 := bz_ w hg; have GE102 := GW102; replace HB := bs_ w hb; clear hb hg; replace hc102 := ce3_ BK102))
       go_ret
       exact fi_
      ·rw [if_neg c17] at H
       have c17b0 : decide (1000000000 < a0_2) = false := decide_eq_false c17
       clear c17
       obtain rfl := Option.some.inj H
       go_enter Try.func14, Try.ntmps14
       go_wp2_with (first | ((with_reducible refine gate_dst (N := 1) rfl ?_); (try refine ug_ (by rfl) ?_); refine bx_ #[.int .i64 a0_0, .int .i64 a0_1, .int .i64 a0_2] 30 ?_; intro gb102 hg w20 BK102 hb; have GW102 := bz_ w hg; have GE102 := GW102; replace HB := bs_ w hb; clear hb hg; replace hc102 := ce3_ BK102))
       go_ret
       exact fi_

/-! ### bucket_Full: function 6 -/
def bucket_Full.f (a0_0 : Int) (a0_1 : Int) (a0_2 : Int) (a1 : Int) : Option (Int × Int × Int × Int × Int × Int × Int) := (bucket_CheckLimit.f a0_0 a0_1 a0_2).bind fun t105 => (if t105 = 0 then (some (a0_0, a0_1, a0_2, a0_0, 0, a1, 0)) else (some (0, 0, 0, 0, 0, 0, t105)))
set_option maxHeartbeats 8000000 in
set_option maxRecDepth 100000 in
theorem bucket_Full.calls (a0_0 : Int) (a0_1 : Int) (a0_2 : Int) (a1 : Int) (r1 : Int) (r2 : Int) (r3 : Int) (r4 : Int) (r5 : Int) (r6 : Int) (r7 : Int) (w : World) (h : bucket_Full.f a0_0 a0_1 a0_2 a1 = some (r1, r2, r3, r4, r5, r6, r7)) :
  Calls Try.prog 6 #[.agg #[.int .i64 a0_0, .int .i64 a0_1, .int .i64 a0_2], .int .u64 a1] w fun e w' => e = .returned (.tuple #[.agg #[.int .i64 r1, .int .i64 r2, .int .i64 r3, .int .i64 r4, .int .i64 r5, .int .u64 r6], .int .i64 r7]) ∧ Below w.heap.size w w' := by
 have hu30 := Try.underlying30
 have hu32 := Try.underlying32
 have HB := Aside0.mk (Below.refl w.heap.size w)
 have H : ((bucket_CheckLimit.f a0_0 a0_1 a0_2).bind fun t105 => (if t105 = 0 then (some (a0_0, a0_1, a0_2, a0_0, 0, a1, 0)) else (some (0, 0, 0, 0, 0, 0, t105)))) = some (r1, r2, r3, r4, r5, r6, r7) := h
 clear h
 have H0_ := bo_ H; clear H; obtain ⟨t105, A3, H⟩ := H0_
 replace H : (if t105 = 0 then (some (a0_0, a0_1, a0_2, a0_0, 0, a1, 0)) else (some (0, 0, 0, 0, 0, 0, t105))) = some (r1, r2, r3, r4, r5, r6, r7) := H
 by_cases c4 : t105 = 0
 ·rw [if_pos c4] at H
  have c4b0 : (t105 == 0) = true := beq_iff_eq.mpr c4
  have c4b1 : (t105 != 0) = false := bne_eq_false_iff_eq.mpr c4
  clear c4
  simp only [Option.some.injEq, Prod.mk.injEq] at H
  obtain ⟨rfl, rfl, rfl, rfl, rfl, rfl, rfl⟩ := H
  go_enter Try.func6, Try.ntmps6
  go_wp2_with (first | ((with_reducible refine gate_dst (N := 2) rfl ?_); refine bx_ #[.int .i64 a0_0, .int .i64 a0_1, .int .i64 a0_2] 30 ?_; intro gb103 hg w5 BK103 hb; have GW103 := bz_ w hg; have GE103 := GW103; replace HB := bs_ w hb; clear hb hg) | ((with_reducible refine gate_dst (N := 4) rfl ?_); refine bx_ #[.int .i64 0, .int .i64 0, .int .i64 0, .int .i64 0, .int .i64 0, .int .u64 0] 32 ?_; intro gb104 hg w6 BK104 hb; have GW104 := bz_ w hg; have GE104 := GW104; have NB103_104 := bn_ BK103 hg; have NB104_103 := bm_ BK103 hg; replace BK103 := bb_ BK103 hb; replace HB := bs_ w hb; clear hb hg; replace hn103_104 := NB103_104.out; replace hn104_103 := NB104_103.out; replace hc103 := ce3_ BK103) | ((with_reducible refine gate_callee (f := 14) rfl ?_); refine goesA_ (some 8) Try.func14 #[.agg #[.int .i64 a0_0, .int .i64 a0_1, .int .i64 a0_2]] ?_; (with_reducible refine (bucket_CheckLimit.calls a0_0 a0_1 a0_2 t105 _ A3.out).mono ?_); rintro e w9 ⟨rfl, hb⟩; refine ⟨_, rfl, ?_⟩; replace BK103 := bb_ BK103 hb; replace BK104 := bb_ BK104 hb; replace HB := bs_ w hb; clear hb; replace hc103 := ce3_ BK103; replace hc104 := ce6_ BK104))
  refine bodyPost_ret (results_ct rfl _ _ gb104 32 #[.int .i64 a0_0, .int .i64 a0_1, .int .i64 a0_2, .int .i64 a0_0, .int .i64 0, .int .u64 a1] (0, 0) _ rfl (bp6_ (bq_ BK104)) Try.underlying32 rfl (by kernel_rfl)) rfl ?_
  exact fi_
 ·rw [if_neg c4] at H
  have c4b0 : (t105 == 0) = false := beq_eq_false_iff_ne.mpr c4
  have c4b1 : (t105 != 0) = true := bne_iff_ne.mpr c4
  simp only [Option.some.injEq, Prod.mk.injEq] at H
  obtain ⟨rfl, rfl, rfl, rfl, rfl, rfl, rfl⟩ := H
  go_enter Try.func6, Try.ntmps6
  go_wp2_with (first | ((with_reducible refine gate_dst (N := 2) rfl ?_); refine bx_ #[.int .i64 a0_0, .int .i64 a0_1, .int .i64 a0_2] 30 ?_; intro gb103 hg w12 BK103 hb; have GW103 := bz_ w hg; have GE103 := GW103; replace HB := bs_ w hb; clear hb hg) | ((with_reducible refine gate_dst (N := 4) rfl ?_); refine bx_ #[.int .i64 0, .int .i64 0, .int .i64 0, .int .i64 0, .int .i64 0, .int .u64 0] 32 ?_; intro gb104 hg w13 BK104 hb; have GW104 := bz_ w hg; have GE104 := GW104; have NB103_104 := bn_ BK103 hg; have NB104_103 := bm_ BK103 hg; replace BK103 := bb_ BK103 hb; replace HB := bs_ w hb; clear hb hg; replace hn103_104 := NB103_104.out; replace hn104_103 := NB104_103.out; replace hc103 := ce3_ BK103) | ((with_reducible refine gate_callee (f := 14) rfl ?_); refine goesA_ (some 8) Try.func14 #[.agg #[.int .i64 a0_0, .int .i64 a0_1, .int .i64 a0_2]] ?_; (with_reducible refine (bucket_CheckLimit.calls a0_0 a0_1 a0_2 t105 _ A3.out).mono ?_); rintro e w16 ⟨rfl, hb⟩; refine ⟨_, rfl, ?_⟩; replace BK103 := bb_ BK103 hb; replace BK104 := bb_ BK104 hb; replace HB := bs_ w hb; clear hb; replace hc104 := ce6_ BK104))
  refine bodyPost_ret (results_ct rfl _ _ gb104 32 #[.int .i64 0, .int .i64 0, .int .i64 0, .int .i64 0, .int .i64 0, .int .u64 0] (0, 0) _ rfl (bp6_ (bq_ BK104)) Try.underlying32 rfl (by kernel_rfl)) rfl ?_
  exact fi_

end Go.Proofs.Ytiifhbaabnpkeaa.X
